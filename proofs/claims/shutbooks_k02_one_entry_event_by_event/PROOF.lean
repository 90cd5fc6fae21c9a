import PyProof.Rows.All
import Wide.All
import OpenK.AllK
import Wide.FinOn
import HandS.ForMost
import HandS.Exc
import HandS.WordsExc
import HandS.Defaults
import HandS.IsInst
import HandS.Deep
import HandS.Zip
import HandS.Walk
import HandS.Iter
import HandS.RaiseMore
import KE.SortData
import PyProof.Rows.SeqMore
import HandS.TupAny
import HandS.TupMul
import KE.KTupSum
import HandS.Conv
import HandS.CallSlots
import HandS.ExcOwn
import KE.GoesMore
import KE.GoesEnum
import KE.GoesZip
import HandS.Style
import HandS.TryMany
import HandS.Base
import HandS.Call
import HandS.Ends
import HandS.More
import HandS.Words
import HandS.Head0
import HandS.Head1
import HandS.Head2
import HandS.HeadEnd
import HandS.HeadHook1
import HandS.HeadHook2
import HandS.HeadHook3
import HandS.HeadHook4
import PySem.Challenge.RW_shutbooks_k02_one_entry_event_by_event
import KE.KStateDown
import Lean
set_option Elab.async false
set_option linter.all false
set_option maxRecDepth 100000
/-! PD1: plain data D, a small machine M of my own, and what a piece of code (Cd, Sd) does in it. No heap here. -/
namespace PD
open PySem PySem.Spec L2

/-! ### data -/
inductive D where
  | non | bl (b : Bool) | int (i : Int) | str (s : Str)
  | tup (xs : List D) | lst (xs : List D)
  | dct (ks : List Str) (vs : List D)
  | dic (ks : List D) (vs : List D)
  | loc (n : Nat)
  | scr (ns : List Int)
  deriving Inhabited

mutual
def toPy : D → PyData
  | .non => .none
  | .bl b => .bool b
  | .int i => .int i
  | .str s => .str s
  | .tup xs => .tuple (toPys xs)
  | .lst xs => .list (toPys xs)
  | .dct _ _ => .dict []
  | .dic _ _ => .dict []
  | .loc _ => .dict []
  | .scr _ => .dict []
def toPys : List D → List PyData
  | [] => []
  | x :: xs => toPy x :: toPys xs
end

/-- an exception: its class, the field it bears -/
structure Exc where
  cls : Str
  fld : Option (Str × D)

/-- a shared thing that may change -/
inductive Cell where
  | lst (xs : List D)
  deriving Inhabited
abbrev Sto := List Cell

inductive Res (α : Type) where
  | ok (a : α) (s : Sto)
  | exn (e : Exc) (s : Sto)
  | bad
def M (α : Type) := Sto → Res α
def M.pure {α : Type} (a : α) : M α := fun s => .ok a s
def M.bind {α β : Type} (m : M α) (f : α → M β) : M β := fun s => match m s with
  | .ok a s' => f a s'
  | .exn e s' => .exn e s'
  | .bad => .bad
instance : Monad M where
  pure := M.pure
  bind := M.bind
def badM {α : Type} : M α := fun _ => .bad
def optM {α : Type} : Option α → M α
  | some a => pure a
  | none => badM
/-- an exception may not leave -/
def noExn {α : Type} (m : M α) : M α := fun s => match m s with
  | .exn _ _ => .bad
  | r => r
def raiseM {α : Type} (e : Exc) : M α := fun s => .exn e s
def chk {α : Type} (b : Bool) (m : M α) : M α := if b then m else badM

/-! ### what the operators do -/
def asInt : D → Option Int
  | .int i => some i
  | _ => none
def asInts : List D → Option (List Int)
  | [] => some []
  | .int i :: r => (asInts r).map (i :: ·)
  | _ :: _ => none
def asStrs : List D → Option (List Str)
  | [] => some []
  | .str i :: r => (asStrs r).map (i :: ·)
  | _ :: _ => none
def asBools : List D → Option (List Bool)
  | [] => some []
  | .bl b :: r => (asBools r).map (b :: ·)
  | _ :: _ => none
def small64 (i : Int) : Bool := decide (-(2 ^ 64) < i) && decide (i < 2 ^ 64)
inductive BOp where
  | add | sub | mul | fdiv | mod | pow
  deriving DecidableEq
def line : Nat := 16777216
def binD : BOp → D → D → Option D
  | .add, .int i, .int j => some (.int (i + j))
  | .add, .str a, .str b => if a.length + b.length ≤ line then some (.str (a ++ b)) else none
  | .add, .lst a, .scr b => if a.length + b.length ≤ line then some (.lst (a ++ b.map .int)) else none
  | .add, .scr a, .lst b => if a.length + b.length ≤ line then some (.lst (a.map .int ++ b)) else none
  | .add, .lst a, .lst b => if a.length + b.length ≤ line then some (.lst (a ++ b)) else none
  | .add, .tup a, .tup b => if a.length + b.length ≤ line then some (.tup (a ++ b)) else none
  | .sub, .int i, .int j => some (.int (i - j))
  | .mul, .int i, .int j => if small64 i || small64 j then some (.int (i * j)) else none
  | .mul, .lst a, .int k => if decide (-(2 ^ 63) ≤ k) && decide (k < 2 ^ 63) && decide (a.length * k.toNat ≤ line) then some (.lst (List.replicate k.toNat a).flatten) else none
  | .mul, .tup a, .int k => if 1 ≤ k ∧ k ≤ 1000 ∧ a.length ≤ 1000 then some (.tup (List.replicate k.toNat a).flatten) else none
  | .fdiv, .int i, .int j => if j ≠ 0 ∧ j.natAbs < 1073741824 then some (.int (i.fdiv j)) else none
  | .mod, .int i, .int j => if j ≠ 0 then some (.int (i.fmod j)) else none
  | .pow, .int i, .int j => if 0 ≤ j ∧ j ≤ 1000000 ∧ i.natAbs < 2 ^ 64 then some (.int (i ^ j.toNat)) else none
  | _, _, _ => none
def eqv (x y : D) : Bool := PyData.eqv (toPy x) (toPy y)
def shaped (x : D) : Bool := SeqAt.shaped (toPy x)
/-- == ; none where it is not told -/
def eqD : D → D → Option Bool
  | .int i, .int j => some (decide (i = j))
  | .str a, .str b => some (decide (a = b))
  | .bl a, .bl b => some (decide (a = b))
  | .non, .non => some true
  | x, y => if shaped x && shaped y then some (eqv x y) else none
def inL (x : D) : List D → Option Bool
  | [] => some false
  | y :: r => match eqD y x with
    | some true => some true
    | some false => inL x r
    | none => none
/-- in a list, in a tuple, in a dict -/
def inD (x y : D) : Option Bool := match y with
  | .lst ys => if shaped x && shaped (.lst ys) then some (ys.any fun z => eqv z x) else none
  | .tup ys => if shaped x && shaped (.lst ys) then some (ys.any fun z => eqv z x) else none
  | _ => none
def isNonD : D → Bool
  | .non => true
  | _ => false
inductive COp where
  | eq | ne | lt | le | gt | ge | isN | notN | in_ | notIn
  deriving DecidableEq
def cmpD : COp → D → D → Option D
  | .eq, x, y => (eqD x y).map .bl
  | .ne, x, y => (eqD x y).map fun b => .bl !b
  | .lt, .int i, .int j => some (.bl (decide (i < j)))
  | .le, .int i, .int j => some (.bl (decide (i ≤ j)))
  | .gt, .int i, .int j => some (.bl (decide (j < i)))
  | .ge, .int i, .int j => some (.bl (decide (j ≤ i)))
  | .isN, x, .non => some (.bl (isNonD x))
  | .notN, x, .non => some (.bl (!isNonD x))
  | .in_, x, y => (inD x y).map .bl
  | .notIn, x, y => (inD x y).map fun b => .bl !b
  | _, _, _ => none
/-- the items that are walked -/
def itemsD : D → Option (List D)
  | .lst xs => some xs
  | .tup xs => some xs
  | .dct ks _ => some (ks.map .str)
  | .dic ks _ => some ks
  | _ => none
def itemsD' : D → Option (List D)
  | .lst xs => some xs
  | .tup xs => some xs
  | _ => none
def lstD : D → Option (List D)
  | .lst xs => some xs
  | _ => none
def lookS (k : Str) : List Str → List D → Option D
  | x :: ks, v :: vs => if x = k then some v else lookS k ks vs
  | _, _ => none
def idxD : D → D → Sto → Option D
  | .lst xs, .int i, _ => if xs.length ≤ line then atI xs i else none
  | .tup xs, .int i, _ => if xs.length ≤ line then atI xs i else none
  | .dct ks vs, .str k, _ => lookS k ks vs
  | .loc n, .int i, s => match s[n]? with
    | some (.lst xs) => atI xs i
    | _ => none
  | _, _, _ => none
/-- a bound of a slice -/
def bndD : Option D → Option (Option Int)
  | none => some none
  | some (.int i) => some (some i)
  | _ => none
def bndM (m : M (Option D)) : M (Option Int) := m >>= fun x => optM (bndD x)
def cutD (xs : List D) (lo hi : Option Int) : List D := (xs.drop (HT.sIx xs.length 0 lo)).take (HT.sIx xs.length xs.length hi - HT.sIx xs.length 0 lo)
def slcD : D → Option Int → Option Int → Option D
  | .lst xs, lo, hi => some (.lst (cutD xs lo hi))
  | .tup xs, lo, hi => some (.tup (cutD xs lo hi))
  | _, _, _ => none
inductive Ty where
  | bool | int | str | tuple | list
  deriving DecidableEq
def isiD : Ty → D → Option Bool
  | .bool, .bl _ => some true
  | .int, .bl _ => some true
  | .int, .int _ => some true
  | .str, .str _ => some true
  | .tuple, .tup _ => some true
  | .list, .lst _ => some true
  | _, .loc _ => none
  | _, .dct _ _ => none
  | _, .dic _ _ => none
  | _, .scr _ => none
  | _, _ => some false
inductive Bif where
  | len | tuple | list | all | any | sum | int | str | min | sorted
  deriving DecidableEq
def joinAll (ds : List D) : Option (List Str) := asStrs ds
/-- texts in order -/
def strLe (a b : Str) : Bool := !decide (b.cps.toList < a.cps.toList)
def insS (x : Str) : List Str → List Str
  | [] => [x]
  | y :: r => if strLe x y then x :: y :: r else y :: insS x r
def sortS : List Str → List Str
  | [] => []
  | x :: r => insS x (sortS r)
/-- rows compared place by place up to the first that differs -/
def cmpTo : List PyData → List PyData → Bool
  | x :: xs, y :: ys => PySem.W.alike x y && (!PyData.eqv x y || cmpTo xs ys)
  | [], _ => true
  | _ :: _, [] => true
def cmpRow : D → D → Bool
  | .tup (x :: xs), .tup (y :: ys) => cmpTo (toPys (x :: xs)) (toPys (y :: ys))
  | _, _ => false
/-- lists that sorted takes: tuples that can be compared; or data alike, place by place -/
def sortOk (xs : List D) : Bool := decide (xs.length ≤ line) && ((xs.all fun x => decide ((toPy x).depth ≤ 50) && (toPy x).canLay0) &&
  ((xs.all fun x => xs.all fun y => cmpRow x y) || ((xs.all fun x => xs.all fun y => PySem.W.alike (toPy x) (toPy y)) && (xs.all fun x => match x with
    | .tup _ => false
    | .non => false
    | _ => true))))
def sortD (xs : List D) : List D := xs.mergeSort (PySem.W.dataLe false toPy)
def bifD : Bif → List D → Option D
  | .sorted, [.lst xs] => if sortOk xs then some (.lst (sortD xs)) else none
  | .str, [.int i] => if i.natAbs < 2 ^ 64 then some (.str (toString i)) else none
  | .str, [.str a] => some (.str a)
  | .len, [.lst xs] => some (.int xs.length)
  | .len, [.tup xs] => some (.int xs.length)
  | .tuple, [.lst xs] => some (.tup xs)
  | .tuple, [.tup xs] => some (.tup xs)
  | .list, [.lst xs] => some (.lst xs)
  | .list, [.tup xs] => some (.lst xs)
  | .all, [.lst xs] => (asBools xs).map fun bs => .bl (bs.all id)
  | .any, [.lst xs] => (asBools xs).map fun bs => .bl (bs.any id)
  | .sum, [.lst xs] => (asInts xs).map fun is => .int is.sum
  | .sum, [.tup xs] => (asInts xs).map fun is => .int is.sum
  | .int, [.int i] => some (.int i)
  | .int, [.bl b] => some (.int (if b then 1 else 0))
  | .int, [.str a] => if a.length ≤ 640 then (PySem.intText? a).map .int else none
  | .min, [.int i, .int j] => some (.int (if j < i then j else i))
  | _, _ => none
inductive Mth where
  | get | index | split | join
  deriving DecidableEq
def mthD : Mth → D → List D → Option D
  | .get, .dct ks vs, [.str k, d] => some ((lookS k ks vs).getD d)
  | .join, .str a, [.lst ys] => (asStrs ys).bind fun zs => if (zs.map (·.length)).sum + zs.length * a.length ≤ 16777216 then some (.str (Txt.join a zs)) else none
  | .split, .str a, [.str b] => if (b.length == 0) = false ∧ a.length + 2 ≤ line then some (.lst ((Txt.split a b).map .str)) else none
  | _, _, _ => none

def recvOk : Mth → D → Bool
  | .get, .dct _ _ => true
  | .split, .str _ => true
  | .join, .str _ => true
  | _, _ => false
def mthM (m : Mth) (x : D) (ms : M (List D)) : M D := chk (recvOk m x) (ms >>= fun xs => optM (mthD m x xs))
/-! ### code -/
inductive Tg where
  | nm (i : Nat) | tp (is : List Nat)
inductive Cd where
  | var (i : Nat)
  | glob (x : Str)
  | cI (i : Int) | cS (s : Str) | cB (b : Bool) | cN
  | tup (es : List Cd) | lst (es : List Cd) | dct (ks : List Str) (es : List Cd)
  | loc (es : List Cd)
  | bin (op : BOp) (a b : Cd)
  | cmp (op : COp) (a b : Cd)
  | chain (p q : COp) (a b c : Cd)
  | and (a b : Cd) | or (a b : Cd) | not (a : Cd)
  | ife (t a b : Cd)
  | idx (a i : Cd)
  | slc (a : Cd) (lo hi : Option Cd)
  | neg (a : Cd)
  | isi (t : Ty) (a : Cd)
  | call (x : Str) (es : List Cd)
  | bif (f : Bif) (es : List Cd)
  | mth (m : Mth) (a : Cd) (es : List Cd)
  | lc (tg : Tg) (it : Cd) (t : Option Cd) (e : Cd)
  | lc2 (tg : Tg) (it : Cd) (tg2 : Tg) (it2 : Cd) (e : Cd)
  | rng1 (a : Cd) | rng2 (a b : Cd)
  | lrng (a b : Cd)
  | zip (es : List Cd)
  | enum (a : Cd)
  | cmpL (ne : Bool) (a b : Cd)
  | isL (a : Cd)
inductive Sd where
  | asg (tg : Tg) (e : Cd)
  | par (is : List Nat) (os : List Bool) (es : List Cd)
  | cat (i j : Nat) (e : Cd)
  | own (i : Nat) (es : List Cd)
  | frz (i : Nat)
  | app (i : Nat) (e : Cd)
  | set (i : Nat) (k e : Cd)
  | ret (e : Cd)
  | retN
  | ife (t : Cd) (a b : List Sd)
  | for_ (tg : Tg) (it : Cd) (b : List Sd)
  | whl (t : Cd) (b : List Sd)
  | exp (e : Cd)
  | rse (x : Str)
  | pass | brk | cnt
  | appL (i : Nat) (e : Cd)
  | ownL (i : Nat) (e : Cd)
  | setO (i : Nat) (k e : Cd)
  | try_ (b : List Sd) (hs : List (Str × D))

/-- what a name of a def holds: a value; a list that is its own -/
inductive Ov where
  | val (d : D)
  | own (xs : List D)
abbrev Env' := List (Option Ov)
def getV (ρ : Env') (i : Nat) : Option D := match ρ[i]? with
  | some (some (.val d)) => some d
  | _ => none
def setV (ρ : Env') (i : Nat) (d : D) : Env' := ρ.set i (some (.val d))
def bindTs : List Nat → List D → Env' → Option Env'
  | [], [], ρ => some ρ
  | i :: is, d :: ds, ρ => bindTs is ds (setV ρ i d)
  | _, _, _ => none
def bindT : Tg → D → Env' → Option Env'
  | .nm i, d, ρ => some (setV ρ i d)
  | .tp is, .tup ds, ρ => bindTs is ds ρ
  | .tp _, _, _ => none
structure Tab where
  fn : Str → Option (List D → M D)
  gl : Str → Option D
  /-- does an error of class x fit the clause except y -/
  exm : Str → Str → Option Bool
def asB : D → Option Bool
  | .bl b => some b
  | _ => none
/-- a comprehension: none is left out -/
def lcM (f : D → M (Option D)) : List D → M (List D)
  | [] => pure []
  | x :: r => do
    let y ← f x
    let ys ← lcM f r
    pure (match y with
      | some v => v :: ys
      | none => ys)
def lc2M (f : D → M (List D)) : List D → M (List D)
  | [] => pure []
  | x :: r => do
    let y ← f x
    let ys ← lc2M f r
    pure (y ++ ys)
def newM (xs : List D) : M D := fun s => .ok (.loc s.length) (s ++ [.lst xs])
def rangeD (a b : Int) : List D := (List.range (b - a).toNat).map fun k => .int (a + (k : Nat))
def okB (i : Int) : Bool := decide (-(2 ^ 62) ≤ i) && decide (i < 2 ^ 62)
def zipD : List (List D) → Option (List D)
  | [xs, ys] => some ((xs.zip ys).map fun p => .tup [p.1, p.2])
  | _ => none
def enumFrom : Nat → List D → List D
  | _, [] => []
  | n, x :: r => .tup [.int n, x] :: enumFrom (n + 1) r
def itemsAll : List D → Option (List (List D))
  | [] => some []
  | d :: r => match itemsD' d, itemsAll r with
    | some x, some xs => some (x :: xs)
    | _, _ => none

/-- the names forgotten -/
def wipe' (ρ : Env') : List Nat → Env'
  | [] => ρ
  | v :: vs => (wipe' ρ vs).set v none
def tgS : Tg → List Nat
  | .nm i => [i]
  | .tp is => is
def itemsM (m : M D) : M (List D) := m >>= fun d => optM (itemsD' d)
def lcF (tg : Tg) (mt : Env' → M Bool) (me : Env' → M D) (ρ : Env') (x : D) : M (Option D) := optM (bindT tg x ρ) >>= fun ρ' => mt ρ' >>= fun b => if b then me ρ' >>= fun y => pure (some y) else pure none
def lcE (tg : Tg) (mi : Env' → M (List D)) (mt : Env' → M Bool) (me : Env' → M D) (ρ : Env') : M D := mi ρ >>= fun xs => noExn (lcM (lcF tg mt me ρ) xs) >>= fun ys => chk (decide (xs.length ≤ line)) (pure (.lst ys))
def lc2F (tg tg2 : Tg) (mi2 : Env' → M (List D)) (me : Env' → M D) (ρ : Env') (x : D) : M (List D) := optM (bindT tg x (wipe' ρ (tgS tg2))) >>= fun ρ' => mi2 ρ' >>= fun zs => chk (decide (zs.length ≤ 1000)) (lcM (lcF tg2 (fun _ => pure true) me ρ') zs)
def lc2E (tg tg2 : Tg) (mi mi2 : Env' → M (List D)) (me : Env' → M D) (ρ : Env') : M D := mi ρ >>= fun xs => noExn (lc2M (lc2F tg tg2 mi2 me ρ) xs) >>= fun ys => chk (decide (xs.length ≤ 1000)) (pure (.lst ys))

/-- a shared list as it stands now -/
def drfD (s : Sto) : D → D
  | .loc n => (match s[n]? with
    | some (.lst xs) => .lst xs
    | none => .loc n)
  | d => d
/-- == and != of lists that may be shared -/
def cmpLM (ne : Bool) (x y : D) : M D := fun s => if shaped (drfD s x) && shaped (drfD s y) then .ok (.bl (if ne then !eqv (drfD s x) (drfD s y) else eqv (drfD s x) (drfD s y))) s else .bad
/-- isinstance(a shared list, list) -/
def isLM (x : D) : M D := fun s => match x with
  | .loc n => (match s[n]? with
    | some (.lst _) => .ok (.bl true) s
    | none => .bad)
  | _ => .bad
def idxM (x y : D) : M D := fun s => optM (idxD x y s) s
def callM (f : Option (List D → M D)) (ms : M (List D)) : M D := match f with
  | some g => ms >>= g
  | none => badM
section
variable (T : Tab)
mutual
def ev : Cd → Env' → M D
  | .var i, ρ => optM (getV ρ i)
  | .glob x, _ => optM (T.gl x)
  | .cI i, _ => pure (.int i)
  | .cS s, _ => pure (.str s)
  | .cB b, _ => pure (.bl b)
  | .cN, _ => pure .non
  | .tup es, ρ => do let xs ← evs es ρ; pure (.tup xs)
  | .lst es, ρ => do let xs ← evs es ρ; pure (.lst xs)
  | .loc es, ρ => do let xs ← evs es ρ; newM xs
  | .dct ks es, ρ => do let xs ← evs es ρ; pure (.dct ks xs)
  | .bin op a b, ρ => do let x ← ev a ρ; let y ← ev b ρ; optM (binD op x y)
  | .cmp op a b, ρ => do let x ← ev a ρ; let y ← ev b ρ; optM (cmpD op x y)
  | .chain p q a b c, ρ => do
    let x ← ev a ρ
    let y ← ev b ρ
    let r ← optM ((cmpD p x y).bind asB)
    if r then do
      let z ← ev c ρ
      optM (cmpD q y z)
    else pure (.bl false)
  | .and a b, ρ => do
    let x ← ev a ρ
    let r ← optM (asB x)
    if r then ev b ρ else pure (.bl false)
  | .or a b, ρ => do
    let x ← ev a ρ
    let r ← optM (asB x)
    if r then pure (.bl true) else ev b ρ
  | .not a, ρ => do
    let x ← ev a ρ
    let r ← optM (asB x)
    pure (.bl !r)
  | .ife t a b, ρ => do
    let x ← ev t ρ
    let r ← optM (asB x)
    if r then ev a ρ else ev b ρ
  | .idx a i, ρ => do let x ← ev a ρ; let y ← ev i ρ; idxM x y
  | .slc a lo hi, ρ => do
    let x ← ev a ρ
    let l ← bndM (evo lo ρ)
    let h ← bndM (evo hi ρ)
    optM (slcD x l h)
  | .neg a, ρ => do let x ← ev a ρ; optM ((asInt x).map fun i => .int (-i))
  | .isi t a, ρ => do let x ← ev a ρ; optM ((isiD t x).map .bl)
  | .call x es, ρ => callM (T.fn x) (evs es ρ)
  | .bif f es, ρ => do let xs ← evs es ρ; optM (bifD f xs)
  | .mth m a es, ρ => do let x ← ev a ρ; mthM m x (evs es ρ)
  | .lc tg it t e, ρ => lcE tg (fun ρ => itemsM (ev it ρ)) (fun ρ => evt t ρ) (fun ρ => ev e ρ) ρ
  | .lc2 tg it tg2 it2 e, ρ => lc2E tg tg2 (fun ρ => itemsM (ev it ρ)) (fun ρ => itemsM (ev it2 ρ)) (fun ρ => ev e ρ) ρ
  | .rng1 a, ρ => do
    let x ← ev a ρ
    let j ← optM (asInt x)
    chk (okB j) (pure (.lst (rangeD 0 j)))
  | .rng2 a b, ρ => do
    let x ← ev a ρ
    let y ← ev b ρ
    let i ← optM (asInt x)
    let j ← optM (asInt y)
    chk (okB i && okB j) (pure (.lst (rangeD i j)))
  | .lrng a b, ρ => do
    let x ← ev a ρ
    let y ← ev b ρ
    let i ← optM (asInt x)
    let j ← optM (asInt y)
    chk (okB i && okB j && decide ((j - i).toNat ≤ line)) (pure (.lst (rangeD i j)))
  | .zip es, ρ => do
    let xs ← evs es ρ
    let ls ← optM (itemsAll xs)
    let r ← optM (zipD ls)
    pure (.lst r)
  | .enum a, ρ => do
    let x ← ev a ρ
    let xs ← optM (lstD x)
    pure (.lst (enumFrom 0 xs))
  | .cmpL ne a b, ρ => do let x ← ev a ρ; let y ← ev b ρ; cmpLM ne x y
  | .isL a, ρ => do let x ← ev a ρ; isLM x
def evs : List Cd → Env' → M (List D)
  | [], _ => pure []
  | e :: es, ρ => do
    let x ← ev e ρ
    let xs ← evs es ρ
    pure (x :: xs)
def evo : Option Cd → Env' → M (Option D)
  | none, _ => pure none
  | some e, ρ => do
    let x ← ev e ρ
    pure (some x)
def evt : Option Cd → Env' → M Bool
  | none, _ => pure true
  | some e, ρ => do
    let x ← ev e ρ
    optM (asB x)
end
end

/-! ### statements -/
inductive Fl where
  | nx | rt (d : D) | bk | ct | ex (e : Exc)
/-- an expression in a statement: an exception leaves by the flow -/
def tryS {α : Type} (ρ : Env') (m : M α) (k : α → M (Fl × Env')) : M (Fl × Env') := fun s => match m s with
  | .ok a s' => k a s'
  | .exn e s' => .ok (.ex e, ρ) s'
  | .bad => .bad
def forK (p : Fl × Env') (k : Env' → M (Fl × Env')) : M (Fl × Env') := match p.1 with
  | .nx => k p.2
  | .ct => k p.2
  | .bk => pure (.nx, p.2)
  | .rt d => pure (.rt d, p.2)
  | .ex e => pure (.ex e, p.2)
def forM' (f : D → Env' → M (Fl × Env')) : List D → Env' → M (Fl × Env')
  | [], ρ => pure (.nx, ρ)
  | x :: r, ρ => f x ρ >>= fun p => forK p (forM' f r)
def whlM (c : Env' → M Bool) (b : Env' → M (Fl × Env')) : Nat → Env' → M (Fl × Env')
  | 0, _ => badM
  | n + 1, ρ => tryS ρ (c ρ) fun t => if t then b ρ >>= fun p => forK p (whlM c b n) else pure (.nx, ρ)
def bigN : Nat := 1000000000000
def setSto (s : Sto) (n : Nat) (i : Int) (d : D) : Option Sto := match s[n]? with
  | some (.lst xs) => (ixN xs.length i).map fun j => s.set n (.lst (xs.set j d))
  | _ => none
/-- d[j] = x of a shared list -/
def putM (ρ : Env') (o : Option D) (y x : D) : M (Fl × Env') := match o, y with
  | some (.loc n), .int j => fun s => match setSto s n j x with
    | some s' => .ok (.nx, ρ) s'
    | none => .bad
  | _, _ => badM
def appM (ρ : Env') (i : Nat) (x : D) : M (Fl × Env') := match ρ[i]? with
  | some (some (.own xs)) => chk (decide (xs.length < line)) (pure (.nx, ρ.set i (some (.own (xs ++ [x])))))
  | _ => badM
def isLocO : Option D → Bool
  | some (.loc _) => true
  | _ => false
/-- append to a shared list -/
def appLM (ρ : Env') (o : Option D) (x : D) : M (Fl × Env') := match o with
  | some (.loc n) => fun s => match s[n]? with
    | some (.lst xs) => if xs.length < line then .ok (.nx, ρ) (s.set n (.lst (xs ++ [x]))) else .bad
    | none => .bad
  | _ => badM
/-- a list of one's own, made of the items of d -/
def ownLM (ρ : Env') (i : Nat) (d : D) : M (Fl × Env') := match itemsD' d with
  | some xs => chk (decide (i < ρ.length)) (pure (.nx, ρ.set i (some (.own xs))))
  | none => badM
/-- its item at y is put -/
def setOM (ρ : Env') (i : Nat) (y x : D) : M (Fl × Env') := match ρ[i]?, y with
  | some (some (.own xs)), .int j => (match ixN xs.length j with
    | some jj => pure (.nx, ρ.set i (some (.own (xs.set jj x))))
    | none => badM)
  | _, _ => badM
def isOwn (ρ : Env') (i : Nat) : Bool := match ρ[i]? with
  | some (some (.own _)) => true
  | _ => false
def frzM (ρ : Env') (i : Nat) : Option Env' := match ρ[i]? with
  | some (some (.own xs)) => some (ρ.set i (some (.val (.lst xs))))
  | some (some (.val _)) => some ρ
  | _ => none
def seqK (p : Fl × Env') (k : Env' → M (Fl × Env')) : M (Fl × Env') := match p.1 with
  | .nx => k p.2
  | f => pure (f, p.2)
def bindOs : List Nat → List Ov → Env' → Option Env'
  | [], [], ρ => some ρ
  | i :: is, d :: ds, ρ => if i < ρ.length then bindOs is ds (ρ.set i (some d)) else none
  | _, _, _ => none
/-- the items that j stands for, its own or not -/
def lookL (ρ : Env') (j : Nat) : Option (List D) := match ρ[j]? with
  | some (some (.own xs)) => some xs
  | some (some (.val (.lst xs))) => some xs
  | _ => none
def catO (ρ : Env') (i j : Nat) (y : D) : Option Env' := match lookL ρ j, y with
  | some xs, .lst ys => if i < ρ.length ∧ xs.length + ys.length ≤ line then some (ρ.set i (some (.own (xs ++ ys)))) else none
  | _, _ => none
/-- the clauses of a try -/
def hdM (exm : Str → Str → Option Bool) (e : Exc) (ρ : Env') : List (Str × D) → M (Fl × Env')
  | [] => pure (.ex e, ρ)
  | (h, d) :: r => match exm e.cls h with
    | some true => pure (.rt d, ρ)
    | some false => hdM exm e ρ r
    | none => badM
def tryK (exm : Str → Str → Option Bool) (hs : List (Str × D)) (p : Fl × Env') : M (Fl × Env') := match p.1 with
  | .ex e => hdM exm e p.2 hs
  | _ => pure p
section
variable (T : Tab)
def evOs : List Bool → List Cd → Env' → M (List Ov)
  | [], [], _ => pure []
  | false :: os, e :: es, ρ => ev T e ρ >>= fun x => evOs os es ρ >>= fun xs => pure (.val x :: xs)
  | true :: os, .lst e :: es, ρ => evs T e ρ >>= fun x => evOs os es ρ >>= fun xs => pure (.own x :: xs)
  | _, _, _ => badM
mutual
def ex : Sd → Env' → M (Fl × Env')
  | .asg tg e, ρ => tryS ρ (ev T e ρ) fun x => optM (bindT tg x ρ) >>= fun ρ' => pure (.nx, ρ')
  | .par is os es, ρ => tryS ρ (evOs T os es ρ) fun xs => optM (bindOs is xs ρ) >>= fun ρ' => pure (.nx, ρ')
  | .cat i j e, ρ => chk (lookL ρ j).isSome (tryS ρ (ev T e ρ) fun y => optM (catO ρ i j y) >>= fun ρ' => pure (.nx, ρ'))
  | .own i es, ρ => tryS ρ (evs T es ρ) fun xs => chk (decide (i < ρ.length)) (pure (.nx, ρ.set i (some (.own xs))))
  | .frz i, ρ => optM (frzM ρ i) >>= fun ρ' => pure (.nx, ρ')
  | .app i e, ρ => chk (isOwn ρ i) (tryS ρ (ev T e ρ) fun x => appM ρ i x)
  | .set i k e, ρ => chk (getV ρ i).isSome (tryS ρ (ev T e ρ) fun x => tryS ρ (ev T k ρ) fun y => putM ρ (getV ρ i) y x)
  | .ret e, ρ => tryS ρ (ev T e ρ) fun x => pure (.rt x, ρ)
  | .retN, ρ => pure (.rt .non, ρ)
  | .ife t a b, ρ => tryS ρ (ev T t ρ >>= fun x => optM (asB x)) fun r => if r then exs a ρ else exs b ρ
  | .for_ tg it b, ρ => tryS ρ (itemsM (ev T it ρ)) fun xs => forM' (fun x ρ => optM (bindT tg x ρ) >>= fun ρ' => exs b ρ') xs ρ
  | .whl t b, ρ => whlM (fun ρ => ev T t ρ >>= fun x => optM (asB x)) (fun ρ => exs b ρ) bigN ρ
  | .exp e, ρ => tryS ρ (ev T e ρ) fun _ => pure (.nx, ρ)
  | .rse x, ρ => if x ≠ ("" : Str) ∧ (T.exm x x).isSome = true then pure (.ex ⟨x, none⟩, ρ) else badM
  | .pass, ρ => pure (.nx, ρ)
  | .brk, ρ => pure (.bk, ρ)
  | .cnt, ρ => pure (.ct, ρ)
  | .appL i e, ρ => chk (isLocO (getV ρ i)) (tryS ρ (ev T e ρ) fun x => appLM ρ (getV ρ i) x)
  | .ownL i e, ρ => tryS ρ (ev T e ρ) fun d => ownLM ρ i d
  | .setO i k e, ρ => chk (isOwn ρ i) (tryS ρ (ev T e ρ) fun x => tryS ρ (ev T k ρ) fun y => setOM ρ i y x)
  | .try_ b hs, ρ => chk (hs.all fun p => (T.exm p.1 p.1).isSome) (exs b ρ >>= tryK T.exm hs)
def exs : List Sd → Env' → M (Fl × Env')
  | [], ρ => pure (.nx, ρ)
  | c :: r, ρ => ex c ρ >>= fun p => seqK p (exs r)
end
def endM (p : Fl × Env') : M D := match p.1 with
  | .nx => pure .non
  | .rt d => pure d
  | .ex e => raiseM e
  | _ => badM
/-- a def: its parameters, its slots, its body -/
def run (k n : Nat) (b : List Sd) (args : List D) : M D :=
  chk (decide (args.length = k)) (noExn (exs T b (args.map (fun d => some (.val d)) ++ List.replicate (n - k) none)) >>= endM)
end
end PD

set_option Elab.async false
set_option linter.all false
set_option maxRecDepth 100000
set_option maxHeartbeats 4000000
/-! PD2: how data stands in the heap; what stays. -/
namespace PD
open PySem PySem.Spec L2

/-- the lists that stay as they are; where the shared things stand -/
structure Wd where
  Z : Addr → Prop
  mu : List Addr
def LsOk (Z : Addr → Prop) (H : Hp) (a : Addr) (xs : List V) : Prop := (Z a ∧ H a = some (.lst xs)) ∨ ∃ o, H a = some (.frz o (.lst xs))
def zipK (ks : List Str) (vs : List V) : List (Key × V) := (ks.zip vs).map fun p => (Sum.inr p.1, p.2)
/-- the script: an object that the proof only reads -/
def ScrOk (K : PySem.W.Frag) (H : Hp) (a : Addr) (xs : List V) : Prop := (∃ o, H a = some (.frz o (.lst xs))) ∨
    ∃ (o : Obj) (its : Array Value) (n : Nat), K.lookup a = some o ∧ o.cls = .type "list" ∧ o.dict = none ∧ o.data = .seq its n ∧ its.size ≤ sizeLine ∧ Vals xs its.toList
mutual
def RepV (K : PySem.W.Frag) (W : Wd) (H : Hp) : D → V → Prop
  | .non, v => v = .non
  | .bl b, v => v = .bl b
  | .int i, v => v = .int i
  | .str s, v => v = .str s
  | .tup xs, v => ∃ a vs, v = .ref a ∧ SqT K H a vs ∧ RepL K W H xs vs
  | .lst xs, v => ∃ a vs, v = .ref a ∧ LsOk W.Z H a vs ∧ RepL K W H xs vs
  | .dct ks xs, v => ∃ a vs, v = .ref a ∧ W.Z a ∧ H a = some (.dK (zipK ks vs)) ∧ ks.length = xs.length ∧ ks.Nodup ∧ RepL K W H xs vs
  | .dic _ _, _ => False
  | .scr ns, v => ∃ a, v = .ref a ∧ ScrOk K H a (ns.map V.int)
  | .loc n, v => ∃ a, v = .ref a ∧ W.mu[n]? = some a
def RepL (K : PySem.W.Frag) (W : Wd) (H : Hp) : List D → List V → Prop
  | [], vs => vs = []
  | x :: xs, vs => ∃ v r, vs = v :: r ∧ RepV K W H x v ∧ RepL K W H xs r
end
structure Ext (W W' : Wd) (H H' : Hp) : Prop where
  z : ∀ a, W.Z a → W'.Z a
  keep : ∀ a o, W.Z a → H a = some o → H' a = some o
  tup : ∀ a xs, H a = some (.tup xs) → H' a = some (.tup xs)
  frz : ∀ a o u, H a = some (.frz o u) → H' a = some (.frz o u)
  mu : ∀ (n : Nat) a, W.mu[n]? = some a → W'.mu[n]? = some a
theorem Ext.refl (W : Wd) (H : Hp) : Ext W W H H := ⟨fun _ h => h, fun _ _ _ h => h, fun _ _ h => h, fun _ _ _ h => h, fun _ _ h => h⟩
theorem Ext.trans {W W1 W2 : Wd} {H H1 H2 : Hp} (a : Ext W W1 H H1) (b : Ext W1 W2 H1 H2) : Ext W W2 H H2 :=
  ⟨fun x h => b.z x (a.z x h), fun x o h e => b.keep x o (a.z x h) (a.keep x o h e), fun x xs e => b.tup x xs (a.tup x xs e), fun x o u e => b.frz x o u (a.frz x o u e), fun n x e => b.mu n x (a.mu n x e)⟩
section
variable {K : PySem.W.Frag} {W W' : Wd} {H H' : Hp}
theorem sqT_mono (h : ∀ a xs, H a = some (.tup xs) → H' a = some (.tup xs)) (f : ∀ a o u, H a = some (.frz o u) → H' a = some (.frz o u)) {a : Addr} {xs : List V} (q : SqT K H a xs) : SqT K H' a xs := by
  rcases q with (q | ⟨o, q⟩) | q
  · exact .inl (.inl (h _ _ q))
  · exact .inl (.inr ⟨o, f _ _ _ q⟩)
  · exact .inr q
theorem LsOk.mono (e : Ext W W' H H') {a : Addr} {xs : List V} (q : LsOk W.Z H a xs) : LsOk W'.Z H' a xs := by
  rcases q with ⟨z, q⟩ | ⟨o, q⟩
  · exact .inl ⟨e.z _ z, e.keep _ _ z q⟩
  · exact .inr ⟨o, e.frz _ _ _ q⟩
mutual
theorem RepV.mono (e : Ext W W' H H') : ∀ (d : D) (v : V), RepV K W H d v → RepV K W' H' d v
  | .non, v, h => by unfold RepV at *; exact h
  | .bl b, v, h => by unfold RepV at *; exact h
  | .int i, v, h => by unfold RepV at *; exact h
  | .str s, v, h => by unfold RepV at *; exact h
  | .tup xs, v, h => by
    unfold RepV at *
    obtain ⟨a, vs, h1, h2, h3⟩ := h
    exact ⟨a, vs, h1, sqT_mono e.tup e.frz h2, RepL.mono e xs vs h3⟩
  | .lst xs, v, h => by
    unfold RepV at *
    obtain ⟨a, vs, h1, h2, h3⟩ := h
    exact ⟨a, vs, h1, h2.mono e, RepL.mono e xs vs h3⟩
  | .dct ks xs, v, h => by
    unfold RepV at *
    obtain ⟨a, vs, h1, h2, h3, h4, h5, h6⟩ := h
    exact ⟨a, vs, h1, e.z _ h2, e.keep _ _ h2 h3, h4, h5, RepL.mono e xs vs h6⟩
  | .dic _ _, v, h => by unfold RepV at h; exact h.elim
  | .scr ns, v, h => by
    unfold RepV at *
    obtain ⟨a, h1, h2⟩ := h
    refine ⟨a, h1, ?_⟩
    rcases h2 with ⟨o, q⟩ | q
    · exact .inl ⟨o, e.frz _ _ _ q⟩
    · exact .inr q
  | .loc n, v, h => by
    unfold RepV at *
    obtain ⟨a, h1, h2⟩ := h
    exact ⟨a, h1, e.mu _ _ h2⟩
theorem RepL.mono (e : Ext W W' H H') : ∀ (ds : List D) (vs : List V), RepL K W H ds vs → RepL K W' H' ds vs
  | [], vs, h => by unfold RepL at *; exact h
  | x :: xs, vs, h => by
    unfold RepL at *
    obtain ⟨v, r, h1, h2, h3⟩ := h
    exact ⟨v, r, h1, RepV.mono e x v h2, RepL.mono e xs r h3⟩
end
theorem RepL.length : ∀ {ds : List D} {vs : List V}, RepL K W H ds vs → vs.length = ds.length
  | [], vs, h => by unfold RepL at h; subst h; rfl
  | x :: xs, vs, h => by
    unfold RepL at h
    obtain ⟨v, r, rfl, h2, h3⟩ := h
    rw [List.length_cons, List.length_cons, RepL.length h3]
theorem RepL.nil : RepL K W H [] [] := by unfold RepL; rfl
theorem RepL.cons {d : D} {v : V} {ds : List D} {vs : List V} (h : RepV K W H d v) (r : RepL K W H ds vs) : RepL K W H (d :: ds) (v :: vs) := by
  unfold RepL
  exact ⟨v, vs, rfl, h, r⟩
theorem RepL.get : ∀ {ds : List D} {vs : List V} {i : Nat} {d : D}, RepL K W H ds vs → ds[i]? = some d → ∃ v, vs[i]? = some v ∧ RepV K W H d v
  | [], vs, i, d, h, e => by simp at e
  | x :: xs, vs, 0, d, h, e => by
    unfold RepL at h
    obtain ⟨v, r, rfl, h2, h3⟩ := h
    have e' : x = d := by simpa using e
    subst e'
    exact ⟨v, by simp, h2⟩
  | x :: xs, vs, i + 1, d, h, e => by
    unfold RepL at h
    obtain ⟨v, r, rfl, h2, h3⟩ := h
    obtain ⟨u, h4, h5⟩ := RepL.get (i := i) (d := d) h3 (by simpa using e)
    exact ⟨u, by simpa using h4, h5⟩
theorem RepL.get' {ds : List D} {vs : List V} {i : Nat} {v : V} (h : RepL K W H ds vs) (e : vs[i]? = some v) : ∃ d, ds[i]? = some d ∧ RepV K W H d v := by
  have hl := h.length
  have hi : i < ds.length := by
    have := (List.getElem?_eq_some_iff.mp e).1
    omega
  obtain ⟨u, h1, h2⟩ := h.get (List.getElem?_eq_getElem hi)
  rw [e] at h1
  cases h1
  exact ⟨_, List.getElem?_eq_getElem hi, h2⟩
theorem RepL.append : ∀ {ds es : List D} {vs us : List V}, RepL K W H ds vs → RepL K W H es us → RepL K W H (ds ++ es) (vs ++ us)
  | [], es, vs, us, h, g => by unfold RepL at h; subst h; exact g
  | x :: xs, es, vs, us, h, g => by
    unfold RepL at h
    obtain ⟨v, r, rfl, h2, h3⟩ := h
    exact .cons h2 (RepL.append h3 g)
theorem RepL.take : ∀ {ds : List D} {vs : List V} (n : Nat), RepL K W H ds vs → RepL K W H (ds.take n) (vs.take n)
  | ds, vs, 0, h => by simp; exact .nil
  | [], vs, n + 1, h => by unfold RepL at h; subst h; exact .nil
  | x :: xs, vs, n + 1, h => by
    unfold RepL at h
    obtain ⟨v, r, rfl, h2, h3⟩ := h
    exact .cons h2 (RepL.take n h3)
theorem RepL.drop : ∀ {ds : List D} {vs : List V} (n : Nat), RepL K W H ds vs → RepL K W H (ds.drop n) (vs.drop n)
  | ds, vs, 0, h => h
  | [], vs, n + 1, h => by unfold RepL at h; subst h; exact .nil
  | x :: xs, vs, n + 1, h => by
    unfold RepL at h
    obtain ⟨v, r, rfl, h2, h3⟩ := h
    exact RepL.drop n h3
theorem RepL.set : ∀ {ds : List D} {vs : List V} {d : D} {v : V} (n : Nat), RepL K W H ds vs → RepV K W H d v → RepL K W H (ds.set n d) (vs.set n v)
  | [], vs, d, v, n, h, g => by unfold RepL at h; subst h; exact .nil
  | x :: xs, vs, d, v, 0, h, g => by
    unfold RepL at h
    obtain ⟨u, r, rfl, h2, h3⟩ := h
    exact .cons g h3
  | x :: xs, vs, d, v, n + 1, h, g => by
    unfold RepL at h
    obtain ⟨u, r, rfl, h2, h3⟩ := h
    exact .cons h2 (RepL.set n h3 g)
theorem RepL.rep {ds : List D} {vs : List V} (h : RepL K W H ds vs) : ∀ n : Nat, RepL K W H (List.replicate n ds).flatten (List.replicate n vs).flatten
  | 0 => .nil
  | n + 1 => by
    rw [List.replicate_succ, List.replicate_succ, List.flatten_cons, List.flatten_cons]
    exact h.append (RepL.rep h n)
theorem RepL.ints : ∀ {ds : List D} {vs : List V} {is : List Int}, RepL K W H ds vs → asInts ds = some is → vs = is.map V.int
  | [], vs, is, h, e => by
    unfold RepL at h
    unfold asInts at e
    cases e
    exact h
  | x :: xs, vs, is, h, e => by
    unfold RepL at h
    obtain ⟨u, r, rfl, h2, h3⟩ := h
    cases x with
    | int i =>
      unfold asInts at e
      obtain ⟨js, e1, e2⟩ := Option.map_eq_some_iff.mp e
      subst e2
      unfold RepV at h2
      rw [h2, RepL.ints h3 e1]
      rfl
    | _ => cases e
theorem RepL.bools : ∀ {ds : List D} {vs : List V} {is : List Bool}, RepL K W H ds vs → asBools ds = some is → vs = is.map V.bl
  | [], vs, is, h, e => by
    unfold RepL at h
    unfold asBools at e
    cases e
    exact h
  | x :: xs, vs, is, h, e => by
    unfold RepL at h
    obtain ⟨u, r, rfl, h2, h3⟩ := h
    cases x with
    | bl i =>
      unfold asBools at e
      obtain ⟨js, e1, e2⟩ := Option.map_eq_some_iff.mp e
      subst e2
      unfold RepV at h2
      rw [h2, RepL.bools h3 e1]
      rfl
    | _ => cases e
theorem RepL.strs : ∀ {ds : List D} {vs : List V} {is : List Str}, RepL K W H ds vs → asStrs ds = some is → vs = is.map V.str
  | [], vs, is, h, e => by
    unfold RepL at h
    unfold asStrs at e
    cases e
    exact h
  | x :: xs, vs, is, h, e => by
    unfold RepL at h
    obtain ⟨u, r, rfl, h2, h3⟩ := h
    cases x with
    | str i =>
      unfold asStrs at e
      obtain ⟨js, e1, e2⟩ := Option.map_eq_some_iff.mp e
      subst e2
      unfold RepV at h2
      rw [h2, RepL.strs h3 e1]
      rfl
    | _ => cases e
theorem RepL.ofInts : ∀ is : List Int, RepL K W H (is.map D.int) (is.map V.int)
  | [] => .nil
  | x :: r => .cons (by unfold RepV; rfl) (RepL.ofInts r)
theorem RepL.ofStrs : ∀ is : List Str, RepL K W H (is.map D.str) (is.map V.str)
  | [] => .nil
  | x :: r => .cons (by unfold RepV; rfl) (RepL.ofStrs r)
theorem LsOk.sq {Z : Addr → Prop} {a : Addr} {xs : List V} (h : LsOk Z H a xs) : SqL K H a xs := by
  rcases h with ⟨_, q⟩ | ⟨o, q⟩
  · exact .inl (.inl q)
  · exact .inl (.inr ⟨o, q⟩)
theorem LsOk.rd {Z : Addr → Prop} {a : Addr} {xs : List V} (h : LsOk Z H a xs) : Rd H a (.lst xs) := by
  rcases h with ⟨_, q⟩ | ⟨o, q⟩
  · exact .inl q
  · exact .inr ⟨o, q⟩
mutual
/-- what has a shape is data that the library compares -/
theorem RepV.dp : ∀ (d : D) (v : V), (toPy d).canLay0 = true → RepV K W H d v → Dp K H v (toPy d)
  | .non, v, c, h => by unfold RepV at h; subst h; unfold toPy; exact .non
  | .bl b, v, c, h => by unfold RepV at h; subst h; unfold toPy; exact .bl b
  | .int i, v, c, h => by unfold RepV at h; subst h; unfold toPy; exact .int i
  | .str s, v, c, h => by unfold RepV at h; subst h; unfold toPy; exact .str s
  | .tup xs, v, c, h => by
    unfold RepV at h
    obtain ⟨a, vs, rfl, h2, h3⟩ := h
    unfold toPy at c ⊢
    exact .tup h2 (RepL.dp xs vs (by simpa [PyData.canLay0] using c) h3)
  | .lst xs, v, c, h => by
    unfold RepV at h
    obtain ⟨a, vs, rfl, h2, h3⟩ := h
    unfold toPy at c ⊢
    exact .lst h2.sq (RepL.dp xs vs (by simpa [PyData.canLay0] using c) h3)
  | .dct _ _, v, c, h => by unfold toPy at c; simp [PyData.canLay0] at c
  | .dic _ _, v, c, h => by unfold toPy at c; simp [PyData.canLay0] at c
  | .scr _, v, c, h => by unfold toPy at c; simp [PyData.canLay0] at c
  | .loc _, v, c, h => by unfold toPy at c; simp [PyData.canLay0] at c
theorem RepL.dp : ∀ (ds : List D) (vs : List V), PyData.canLayAll0 (toPys ds) = true → RepL K W H ds vs → DpAll K H vs (toPys ds)
  | [], vs, c, h => by unfold RepL at h; subst h; unfold toPys; exact .nil
  | x :: xs, vs, c, h => by
    unfold RepL at h
    obtain ⟨v, r, rfl, h2, h3⟩ := h
    unfold toPys at c ⊢
    unfold PyData.canLayAll0 at c
    have c2 := Bool.and_eq_true_iff.mp c
    exact .cons (RepV.dp x v c2.1 h2) (RepL.dp xs r c2.2 h3)
end
end

/-! ### what a piece of code leaves as it was -/
structure Frm (W W' : Wd) (H H' : Hp) : Prop where
  ext : Ext W W' H H'
  keep : ∀ a o, H a = some o → a ∉ W.mu → H' a = some o
  fz : ∀ a, W'.Z a → W.Z a ∨ H a = none
  fmu : ∀ a ∈ W'.mu, a ∈ W.mu ∨ H a = none
theorem Frm.refl (W : Wd) (H : Hp) : Frm W W H H := ⟨Ext.refl W H, fun _ _ h _ => h, fun _ h => .inl h, fun _ h => .inl h⟩
theorem Frm.back {W W1 : Wd} {H H1 : Hp} (a : Frm W W1 H H1) (hm : ∀ b ∈ W.mu, H1 b ≠ none) {b : Addr} (e : H1 b = none) : H b = none := by
  cases q : H b with
  | none => rfl
  | some o =>
    by_cases hb : b ∈ W.mu
    · exact absurd e (hm b hb)
    · rw [a.keep b o q hb] at e
      cases e
theorem Ext.mu_mem {W W1 : Wd} {H H1 : Hp} (a : Ext W W1 H H1) {b : Addr} (hb : b ∈ W.mu) : b ∈ W1.mu := by
  obtain ⟨n, hn⟩ := List.mem_iff_getElem?.mp hb
  exact List.mem_of_getElem? (a.mu n b hn)
theorem Frm.trans {W W1 W2 : Wd} {H H1 H2 : Hp} (a : Frm W W1 H H1) (b : Frm W1 W2 H1 H2) (hm : ∀ x ∈ W1.mu, H1 x ≠ none) : Frm W W2 H H2 := by
  have hm' : ∀ x ∈ W.mu, H1 x ≠ none := fun x hx => hm x (a.ext.mu_mem hx)
  refine ⟨a.ext.trans b.ext, fun x o e hx => ?_, fun x hx => ?_, fun x hx => ?_⟩
  · refine b.keep x o (a.keep x o e hx) fun h1 => ?_
    rcases a.fmu x h1 with h2 | h2
    · exact hx h2
    · rw [h2] at e; cases e
  · rcases b.fz x hx with h1 | h1
    · exact a.fz x h1
    · exact .inr (a.back hm' h1)
  · rcases b.fmu x hx with h1 | h1
    · exact a.fmu x h1
    · exact .inr (a.back hm' h1)
/-- new things alone -/
structure Alloc (W W' : Wd) (H H' : Hp) : Prop where
  same : ∀ a o, H a = some o → H' a = some o
  mu : W'.mu = W.mu
  z : ∀ a, W.Z a → W'.Z a
  fz : ∀ a, W'.Z a → W.Z a ∨ (H a = none ∧ H' a ≠ none)
theorem Alloc.refl (W : Wd) (H : Hp) : Alloc W W H H := ⟨fun _ _ h => h, rfl, fun _ h => h, fun _ h => .inl h⟩
theorem Alloc.fr {W W' : Wd} {H H' : Hp} (a : Alloc W W' H H') : Frm W W' H H' :=
  ⟨⟨a.z, fun x o _ e => a.same x o e, fun x xs e => a.same x _ e, fun x o u e => a.same x _ e, fun n x e => by rw [a.mu]; exact e⟩, fun x o e _ => a.same x o e, fun x hx => (a.fz x hx).imp_right And.left, fun x hx => .inl (by rw [a.mu] at hx; exact hx)⟩
theorem Alloc.trans {W W1 W2 : Wd} {H H1 H2 : Hp} (a : Alloc W W1 H H1) (b : Alloc W1 W2 H1 H2) : Alloc W W2 H H2 := by
  refine ⟨fun x o e => b.same x o (a.same x o e), b.mu.trans a.mu, fun x h => b.z x (a.z x h), fun x h => ?_⟩
  rcases b.fz x h with h1 | ⟨h1, h2⟩
  · rcases a.fz x h1 with h3 | ⟨h3, h4⟩
    · exact .inl h3
    · refine .inr ⟨h3, ?_⟩
      cases q : H1 x with
      | none => exact absurd q h4
      | some o => rw [b.same x o q]; exact fun z => nomatch z
  · refine .inr ⟨?_, h2⟩
    cases q : H x with
    | none => rfl
    | some o => rw [a.same x o q] at h1; cases h1
def Wd.add (W : Wd) (p : Addr) : Wd := ⟨fun a => W.Z a ∨ a = p, W.mu⟩
theorem Alloc.new (W : Wd) (H : Hp) {p : Addr} {o : HO} (hp : H p = none) : Alloc W (W.add p) H (upd H p o) := by
  refine ⟨fun a u e => ?_, rfl, fun a h => .inl h, fun a h => ?_⟩
  · rw [upd_ne (ne_of_none e hp)]; exact e
  · rcases h with h | h
    · exact .inl h
    · rw [h]; exact .inr ⟨hp, by rw [upd_same]; exact fun z => nomatch z⟩
theorem Alloc.new0 (W : Wd) (H : Hp) {p : Addr} {o : HO} (hp : H p = none) : Alloc W W H (upd H p o) := by
  refine ⟨fun a u e => ?_, rfl, fun a h => h, fun a h => .inl h⟩
  rw [upd_ne (ne_of_none e hp)]; exact e

/-! ### the store, the names -/
def CellOk (K : PySem.W.Frag) (W : Wd) (H : Hp) : Cell → Addr → Prop
  | .lst xs, a => ∃ vs, H a = some (.lst vs) ∧ RepL K W H xs vs
structure StoOk (K : PySem.W.Frag) (W : Wd) (H : Hp) (s : Sto) : Prop where
  len : s.length = W.mu.length
  nd : W.mu.Nodup
  at_ : ∀ (n : Nat) c a, s[n]? = some c → W.mu[n]? = some a → CellOk K W H c a
  nz : ∀ a ∈ W.mu, ¬ W.Z a
  zt : ∀ a, W.Z a → H a ≠ none
theorem StoOk.some {K : PySem.W.Frag} {W : Wd} {H : Hp} {s : Sto} (h : StoOk K W H s) : ∀ a ∈ W.mu, H a ≠ none := fun a ha e => by
  obtain ⟨n, hn⟩ := List.mem_iff_getElem?.mp ha
  have hl : n < s.length := by
    rw [h.len]
    exact (List.getElem?_eq_some_iff.mp hn).1
  have q := h.at_ n _ a (List.getElem?_eq_getElem hl) hn
  cases hc : s[n] with
  | lst xs =>
    rw [hc] at q
    obtain ⟨vs, q1, _⟩ := q
    rw [e] at q1
    cases q1
theorem CellOk.mono {K : PySem.W.Frag} {W W' : Wd} {H H' : Hp} {c : Cell} {a : Addr} (e : Ext W W' H H') (k : ∀ o, H a = some o → H' a = some o) (h : CellOk K W H c a) : CellOk K W' H' c a := by
  cases c with
  | lst xs =>
    obtain ⟨vs, q1, q2⟩ := h
    exact ⟨vs, k _ q1, q2.mono e⟩
/-- what stands ahead of the def's body: B -/
structure Cn where
  K : PySem.W.Frag
  mg : Str → Option Value
  W0 : Wd
  H0 : Hp
  Wx : WX
def ExcOk (K : PySem.W.Frag) (mg : Str → Option Value) (W : Wd) (H : Hp) (e : Exc) (c : Value) (d : Option Addr) : Prop :=
  ∃ C, mg e.cls = some (.ref C) ∧ c = .ref C ∧ match e.fld with
    | none => True
    | some (f, x) => ∃ dd v, d = some dd ∧ H dd = some (.xd [(f, v)]) ∧ RepV K W H x v
structure EnvOk (C : Cn) (W : Wd) (H : Hp) (ρ : Env') (σ : St) : Prop where
  len : ρ.length = σ.length
  val : ∀ (i : Nat) d, ρ[i]? = some (some (.val d)) → ∃ v, σ[i]? = some (some v) ∧ RepV C.K W H d v
  own : ∀ (i : Nat) xs, ρ[i]? = some (some (.own xs)) → ∃ a vs, σ[i]? = some (some (.ref a)) ∧ H a = some (.lst vs) ∧ RepL C.K W H xs vs ∧ ¬ W.Z a ∧ a ∉ W.mu ∧ C.H0 a = none
  sep : ∀ (i j : Nat) xs ys a, i ≠ j → ρ[i]? = some (some (.own xs)) → ρ[j]? = some (some (.own ys)) → σ[i]? = some (some (.ref a)) → σ[j]? ≠ some (some (.ref a))
structure SR (C : Cn) (W : Wd) (H : Hp) (ρ : Env') (σ : St) (s : Sto) : Prop where
  fr : Frm C.W0 W C.H0 H
  sto : StoOk C.K W H s
  env : EnvOk C W H ρ σ
section
variable {C : Cn} {W W' : Wd} {H H' : Hp} {ρ : Env'} {σ : St} {s s' : Sto}
/-- behind a call, an expression: the names as they were -/
theorem SR.step (h : SR C W H ρ σ s) (f : Frm W W' H H') (st : StoOk C.K W' H' s') : SR C W' H' ρ σ s' := by
  refine ⟨h.fr.trans f h.sto.some, st, h.env.len, fun i d e => ?_, fun i xs e => ?_, h.env.sep⟩
  · obtain ⟨v, e1, r⟩ := h.env.val i d e
    exact ⟨v, e1, r.mono f.ext⟩
  · obtain ⟨a, vs, e1, e2, r, nz, nm, n0⟩ := h.env.own i xs e
    refine ⟨a, vs, e1, f.keep a _ e2 nm, r.mono f.ext, fun z => ?_, fun m => ?_, n0⟩
    · rcases f.fz a z with q | q
      · exact nz q
      · rw [q] at e2; cases e2
    · rcases f.fmu a m with q | q
      · exact nm q
      · rw [q] at e2; cases e2
theorem SR.alloc (h : SR C W H ρ σ s) (a : Alloc W W' H H') : SR C W' H' ρ σ s := by
  refine h.step a.fr ⟨?_, ?_, fun n c x e1 e2 => ?_, fun x hx z => ?_, fun x hx => ?_⟩
  · rw [a.mu]; exact h.sto.len
  · rw [a.mu]; exact h.sto.nd
  · rw [a.mu] at e2
    exact (h.sto.at_ n c x e1 e2).mono a.fr.ext fun o e => a.same x o e
  · rw [a.mu] at hx
    rcases a.fz x z with q | q
    · exact h.sto.nz x hx q
    · exact h.sto.some x hx q.1
  · rcases a.fz x hx with q | q
    · cases e : H x with
      | none => exact absurd e (h.sto.zt x q)
      | some o => rw [a.same x o e]; exact fun z => nomatch z
    · exact q.2
/-- a thing of one's own is turned -/
theorem SR.turnO {D : Addr} {o0 o' : HO} (h : SR C W H ρ σ s) (hD : H D = some o0) (nt : ∀ xs, o0 ≠ .tup xs) (nf : ∀ a u, o0 ≠ .frz a u) (nz : ¬ W.Z D) (nm : D ∉ W.mu) (n0 : C.H0 D = none) (no : ∀ (i : Nat) zs, ρ[i]? = some (some (.own zs)) → σ[i]? ≠ some (some (.ref D))) :
    Ext W W H (upd H D o') ∧ SR C W (upd H D o') ρ σ s := by
  have ex : Ext W W H (upd H D o') := by
    refine ⟨fun _ h => h, fun a o z e => ?_, fun a zs e => ?_, fun a o u e => ?_, fun _ _ e => e⟩
    · rw [upd_ne (show a ≠ D from fun q => nz (q ▸ z))]; exact e
    · rw [upd_ne (ne_of e hD (Ne.symm (nt zs)))]; exact e
    · rw [upd_ne (ne_of e hD (Ne.symm (nf o u)))]; exact e
  refine ⟨ex, ⟨⟨?_, fun a o e ha => ?_, h.fr.fz, h.fr.fmu⟩, ⟨h.sto.len, h.sto.nd, fun n c a e1 e2 => ?_, h.sto.nz, fun a z => ?_⟩, h.env.len, fun i d e => ?_, fun i zs e => ?_, h.env.sep⟩⟩
  · exact h.fr.ext.trans ex
  · rw [upd_ne (ne_of_none e n0)]
    exact h.fr.keep a o e ha
  · refine (h.sto.at_ n c a e1 e2).mono ex fun o e => ?_
    rw [upd_ne (show a ≠ D from fun q => nm (q ▸ List.mem_of_getElem? e2))]
    exact e
  · rw [upd_ne (show a ≠ D from fun q => nz (q ▸ z))]
    exact h.sto.zt a z
  · obtain ⟨v, e1, r⟩ := h.env.val i d e
    exact ⟨v, e1, r.mono ex⟩
  · obtain ⟨a, vs, e1, e2, r, z, m, n⟩ := h.env.own i zs e
    refine ⟨a, vs, e1, ?_, r.mono ex, z, m, n⟩
    rw [upd_ne (show a ≠ D from fun q => no i zs e (q ▸ e1))]
    exact e2
theorem SR.turn {D : Addr} {xs ys : List V} (h : SR C W H ρ σ s) (hD : H D = some (.lst xs)) (nz : ¬ W.Z D) (nm : D ∉ W.mu) (n0 : C.H0 D = none) (no : ∀ (i : Nat) zs, ρ[i]? = some (some (.own zs)) → σ[i]? ≠ some (some (.ref D))) :
    Ext W W H (upd H D (.lst ys)) ∧ SR C W (upd H D (.lst ys)) ρ σ s := h.turnO hD (fun _ q => nomatch q) (fun _ _ q => nomatch q) nz nm n0 no
end

/-! ### runs -/
def Run {α β : Type} (C : Cn) (ρ : Env') (W : Wd) (σ : St) (H : Hp) (r : Res α) (R : Wd → Hp → α → β → Prop) (Q : β → Hp → Prop) : Prop := match r with
  | .ok a s => ∀ W' H' b, SR C W' H' ρ σ s → Frm W W' H H' → R W' H' a b → Q b H'
  | .exn e s => ∀ W' H' c d, SR C W' H' ρ σ s → Frm W W' H H' → ExcOk C.K C.mg W' H' e c d → C.Wx c d σ H'
  | .bad => False
section
variable {α β γ δ : Type} {C : Cn} {ρ : Env'} {W : Wd} {σ : St} {H : Hp}
theorem Run.imp {r : Res α} {R : Wd → Hp → α → β → Prop} {Q Q' : β → Hp → Prop} (h : Run C ρ W σ H r R Q) (q : ∀ b H', Q b H' → Q' b H') : Run C ρ W σ H r R Q' := by
  cases r with
  | ok a s => exact fun W' H' b x y z => q b H' (h W' H' b x y z)
  | exn e s => exact h
  | bad => exact h
theorem Run.fwd {W1 : Wd} {H1 : Hp} {r : Res α} {R : Wd → Hp → α → β → Prop} {Q : β → Hp → Prop} {s : Sto} (h : Run C ρ W σ H r R Q) (f : Frm W W1 H H1) (st : SR C W1 H1 ρ σ s) : Run C ρ W1 σ H1 r R Q := by
  cases r with
  | ok a s => exact fun W' H' b x y z => h W' H' b x (f.trans y st.sto.some) z
  | exn e s => exact fun W' H' c d x y z => h W' H' c d x (f.trans y st.sto.some) z
  | bad => exact h
theorem Run.bind {m : M α} {f : α → M γ} {s : Sto} {R1 : Wd → Hp → α → β → Prop} {R : Wd → Hp → γ → δ → Prop} {Q : δ → Hp → Prop} (h : Run C ρ W σ H ((m >>= f) s) R Q) :
    Run C ρ W σ H (m s) R1 fun b H1 => ∃ W1 a s1, SR C W1 H1 ρ σ s1 ∧ Frm W W1 H H1 ∧ R1 W1 H1 a b ∧ Run C ρ W1 σ H1 (f a s1) R Q := by
  have e : (m >>= f) s = M.bind m f s := rfl
  rw [e] at h
  unfold M.bind at h
  cases q : m s with
  | ok a s1 =>
    rw [q] at h
    exact fun W1 H1 b x y z => ⟨W1, a, s1, x, y, z, Run.fwd h y x⟩
  | exn e s1 =>
    rw [q] at h
    exact h
  | bad =>
    rw [q] at h
    exact h
end
/-- an expression's reading -/
def tE (C : Cn) (m : Env' → M D) : TE := fun σ H Q => ∃ ρ s W, SR C W H ρ σ s ∧ Run C ρ W σ H (m ρ s) (RepV C.K) Q
def tEs (C : Cn) (m : Env' → M (List D)) : TA := fun σ H Q => ∃ ρ s W, SR C W H ρ σ s ∧ Run C ρ W σ H (m ρ s) (RepL C.K) Q
def tTt (C : Cn) (m : Env' → M Bool) : TT := fun σ H Q => ∃ ρ s W, SR C W H ρ σ s ∧ Run C ρ W σ H (m ρ s) (fun _ _ a b => a = b) Q
end PD

set_option Elab.async false
set_option linter.all false
set_option maxRecDepth 100000
set_option maxHeartbeats 4000000
/-! PD3: the operators keep the data. -/
namespace PD
open PySem PySem.Spec L2

theorem line_eq : line = sizeLine := by rw [sizeLine_eq]; rfl
def opOf : BOp → Operator
  | .add => .Add | .sub => .Sub | .mul => .Mult | .fdiv => .FloorDiv | .mod => .Mod | .pow => .Pow
def copOf : COp → CmpOp
  | .eq => .Eq | .ne => .NotEq | .lt => .Lt | .le => .LtE | .gt => .Gt | .ge => .GtE | .isN => .Is | .notN => .IsNot | .in_ => .In | .notIn => .NotIn
/-- what is wanted of a new value -/
def Out (K : PySem.W.Frag) (W : Wd) (H : Hp) (o : Option D) (Q : VK) : Prop := ∃ d, o = some d ∧ ∀ W' H' v, Alloc W W' H H' → RepV K W' H' d v → Q v H'
theorem Out.here {K : PySem.W.Frag} {W : Wd} {H : Hp} {o : Option D} {Q : VK} {d : D} {v : V} (h : Out K W H o Q) (e : o = some d) (r : RepV K W H d v) : Q v H := by
  obtain ⟨d', e', q⟩ := h
  rw [e] at e'
  cases e'
  exact q W H v (Alloc.refl W H) r
theorem Out.newL {K : PySem.W.Frag} {W : Wd} {H : Hp} {o : Option D} {Q : VK} {ds : List D} {vs : List V} (h : Out K W H o Q) (e : o = some (.lst ds)) (r : RepL K W H ds vs) : ∀ p, H p = none → Q (.ref p) (upd H p (.lst vs)) := fun p hp => by
  obtain ⟨d', e', q⟩ := h
  rw [e] at e'
  cases e'
  have a := Alloc.new W H (o := .lst vs) hp
  refine q _ _ (.ref p) a ?_
  unfold RepV
  exact ⟨p, vs, rfl, .inl ⟨.inr rfl, upd_same⟩, r.mono a.fr.ext⟩
theorem Out.newT {K : PySem.W.Frag} {W : Wd} {H : Hp} {o : Option D} {Q : VK} {ds : List D} {vs : List V} (h : Out K W H o Q) (e : o = some (.tup ds)) (r : RepL K W H ds vs) : ∀ p, H p = none → Q (.ref p) (upd H p (.tup vs)) := fun p hp => by
  obtain ⟨d', e', q⟩ := h
  rw [e] at e'
  cases e'
  have a := Alloc.new0 W H (o := .tup vs) hp
  refine q _ _ (.ref p) a ?_
  unfold RepV
  exact ⟨p, vs, rfl, .inl (.inl upd_same), r.mono a.fr.ext⟩
section
variable {K : PySem.W.Frag} {W : Wd} {H : Hp}
theorem rep_non : RepV K W H .non .non := by unfold RepV; rfl
theorem rep_bl {b : Bool} : RepV K W H (.bl b) (.bl b) := by unfold RepV; rfl
theorem rep_int {i : Int} : RepV K W H (.int i) (.int i) := by unfold RepV; rfl
theorem rep_str {s : Str} : RepV K W H (.str s) (.str s) := by unfold RepV; rfl
theorem non_of {v : V} (h : RepV K W H .non v) : v = .non := by unfold RepV at h; exact h
theorem bl_of {b : Bool} {v : V} (h : RepV K W H (.bl b) v) : v = .bl b := by unfold RepV at h; exact h
theorem int_of {i : Int} {v : V} (h : RepV K W H (.int i) v) : v = .int i := by unfold RepV at h; exact h
theorem str_of {s : Str} {v : V} (h : RepV K W H (.str s) v) : v = .str s := by unfold RepV at h; exact h
theorem tup_of {xs : List D} {v : V} (h : RepV K W H (.tup xs) v) : ∃ a vs, v = .ref a ∧ SqT K H a vs ∧ RepL K W H xs vs := by unfold RepV at h; exact h
theorem lst_of {xs : List D} {v : V} (h : RepV K W H (.lst xs) v) : ∃ a vs, v = .ref a ∧ LsOk W.Z H a vs ∧ RepL K W H xs vs := by unfold RepV at h; exact h
theorem dct_of {ks : List Str} {xs : List D} {v : V} (h : RepV K W H (.dct ks xs) v) : ∃ a vs, v = .ref a ∧ W.Z a ∧ H a = some (.dK (zipK ks vs)) ∧ ks.length = xs.length ∧ ks.Nodup ∧ RepL K W H xs vs := by unfold RepV at h; exact h
theorem loc_of {n : Nat} {v : V} (h : RepV K W H (.loc n) v) : ∃ a, v = .ref a ∧ W.mu[n]? = some a := by unfold RepV at h; exact h
end

section
variable {X : Cx}
/-! ### arithmetic -/
def rBin (K : PySem.W.Frag) (op : BOp) : R2 := fun x y H Q => ∃ a b W, RepV K W H a x ∧ RepV K W H b y ∧ Out K W H (binD op a b) Q
theorem Inv.lstR {pins : List (Addr × Obj)} {σ : L2.St} {H : Hp} {s : Shared} {l : Addr} {xs : List V} (I : Inv X pins σ H s) (h : Rd H l (.lst xs)) :
    xs.length ≤ sizeLine ∧ ∃ (its : List Value) (n : Nat), Vals xs its ∧ xs.length = its.length ∧ s.heap.get? l = some { cls := .type "list", data := .seq its.toArray n } := by
  obtain ⟨z, its, n, r, e⟩ := h.ok I.hok
  exact ⟨z, its, n, r, r.length, e⟩
def rCatR : R2 := fun x y H Q => ∃ l b xs zs, x = .ref l ∧ y = .ref b ∧ Rd H l (.lst xs) ∧ Rd H b (.lst zs) ∧ xs.length + zs.length ≤ sizeLine ∧ ∀ p, H p = none → Q (.ref p) (upd H p (.lst (xs ++ zs)))
theorem op_catR : OpR X (binaryOp .Add) rCatR := by
  intro pins s σ H x y v u Q I rx ry h
  obtain ⟨l, b, xs, zs, rfl, rfl, hH, hB, hz, q⟩ := h
  cases rx
  cases ry
  obtain ⟨z, its, n, r, hl, e⟩ := Inv.lstR I hH
  obtain ⟨z2, its2, n2, r2, hl2, e2⟩ := Inv.lstR I hB
  refine PySem.P.add_list e e2 ?_ (by rw [List.size_toArray, List.size_toArray]; omega)
  have ea : its.toArray ++ its2.toArray = (its ++ its2).toArray := by simp
  rw [ea]
  exact ⟨.ref _, _, I.lnew (t' := s.toks) (r.append r2) (by rw [List.length_append]; omega), rfl, q _ I.fresh⟩
theorem op_catS {pins : List (Addr × Obj)} {s : Shared} {σ : L2.St} {H : Hp} {l b : Addr} {Q : VK} {xs zs : List V} (I : Inv X pins σ H s) (hx : SqL X.K H l xs) (hz : SqL X.K H b zs) (hn : xs.length + zs.length ≤ sizeLine) (q : ∀ p, H p = none → Q (.ref p) (upd H p (.lst (xs ++ zs)))) :
    wpAny (model X.prog X.w) X.A (binaryOp .Add (.ref l) (.ref b)) (EP X pins σ Q) X.xe s := by
  obtain ⟨its, r, p1, _⟩ := I.list hx
  obtain ⟨its2, r2, p2, _⟩ := I.list hz
  obtain ⟨⟨cls, dd, data, sl⟩, ho, hc, n, hd⟩ := p1.isList
  obtain ⟨⟨cls2, dd2, data2, sl2⟩, ho2, hc2, n2, hd2⟩ := p2.isList
  simp only at hc hd hc2 hd2
  subst hc hd hc2 hd2
  have e : its.toArray ++ its2.toArray = (its ++ its2).toArray := by simp
  have l1 := r.length
  have l2 := r2.length
  refine concat_meets ⟨_, ho, rfl⟩ ⟨_, ho2, rfl⟩ noFill_list_add seq_list_add PySem.F.slot_list_add PySem.F.entry_list_add (PySem.F.args_list_add_2 _ _) (PyProof.Rows.list_addW l b its.toArray its2.toArray n n2 dd dd2 sl sl2 (by rw [List.size_toArray, List.size_toArray]; omega)) ⟨ho, ho2, ?_⟩
  rw [e]
  exact ⟨.ref _, _, I.lnew (t' := s.toks) (r.append r2) (by rw [List.length_append]; omega), rfl, q _ I.fresh⟩
theorem ScrOk.sq {H : Hp} {K : PySem.W.Frag} {a : Addr} {xs : List V} (h : ScrOk K H a xs) : SqL K H a xs := by
  rcases h with ⟨o, q⟩ | q
  · exact .inl (.inr ⟨o, q⟩)
  · exact .inr q
theorem bad_o {P : Prop} {d : D} (e : (none : Option D) = some d) : P := nomatch e

theorem op_repF {pins : List (Addr × Obj)} {s : Shared} {σ : L2.St} {H : Hp} {l : Addr} {k : Int} {v u : Value} {Q : VK} {xs : List V} (I : Inv X pins σ H s) (rx : RelV (.ref l) v) (ry : RelV (.int k) u) (hR : Rd H l (.lst xs)) (h1 : -(2 ^ 63) ≤ k) (h2 : k < 2 ^ 63) (hz : xs.length * k.toNat ≤ sizeLine)
    (q : ∀ p, H p = none → Q (.ref p) (upd H p (.lst (List.replicate k.toNat xs).flatten))) : wpAny (model X.prog X.w) X.A (binaryOp .Mult v u) (EP X pins σ Q) X.xe s := by
  cases rx
  obtain ⟨t, rfl⟩ := ry
  obtain ⟨z, its, n, r, hl, e⟩ := Inv.lstR I hR
  have hlen : its.toArray.size * k.toNat ≤ sizeLine := by rw [List.size_toArray, ← hl]; exact hz
  have hcap : ¬ its.toArray.size * k.toNat > (2 ^ 63 - 1) / 8 := by
    have : (sizeLine : Nat) ≤ (2 ^ 63 - 1) / 8 := by decide
    omega
  have hfit : ¬ (!Builtin.List.listFitsIndex k) = true := by
    rw [fitsIndex_both h1 h2]
    exact Bool.false_ne_true
  have hlong : ¬ Builtin.List.listTooLong (its.toArray.size * k.toNat) = true := by
    rw [notLongL hlen]
    exact Bool.false_ne_true
  have hnew : List.foldl (fun x1 x2 => x1 ++ x2) #[] (List.replicate (if its.toArray.isEmpty = true then 0 else k.toNat) its.toArray) = (List.replicate k.toNat its).flatten.toArray := by
    have f0 : ∀ m : Nat, List.foldl (fun x1 x2 => x1 ++ x2) #[] (List.replicate m its.toArray) = (List.replicate m its).flatten.toArray := fun m => by
      have := foldl_rep its m []
      rw [List.nil_append] at this
      exact this
    rw [f0]
    cases its with
    | nil => simp
    | cons a r' => rw [if_neg (by simp)]
  refine wpAny_binaryOp_repeat_ref (T := "list") (U := "int") (by decide) ⟨_, e, rfl⟩ (fun s' => typeIs_int s' k t) PySem.noFill_list_mul F.fills_int_mul F.slot_int_rmul PySem.repeat_list F.slot_int_index.lookup
    (call_meets F.slot_int_rmul (typeIs_int s k t) F.entry_int_rmul (F.args_int_rmul_2 _ _) (PySem.int___rmul___int_list k t l its.toArray n)
      ⟨e, rfl, ⟨_, e, rfl⟩, call_meets F.slot_list_mul ⟨_, e, rfl⟩ F.entry_list_mul (F.args_list_mul_2 _ _) (AutoListH.list___mul___list_int_3 l its.toArray n k t hfit hcap hlong) ⟨e, ?_⟩⟩)
  rw [hnew]
  exact ⟨.ref _, _, I.lnew (t' := s.toks) (r.rep k.toNat) (by rw [PyProof.Rows.lm_len_rep_flat, Nat.mul_comm]; exact hz), rfl, q _ I.fresh⟩
/-- a tuple once, or nothing any number of times: the tuple itself -/
theorem tuple_mulS (l : Addr) (items : Array Value) (n : Nat) (dd : Option Addr) (sl : Array (Option Value)) (x : Int) (u : Tok) (c0 : (decide (x < -(2 ^ 63)) || decide (x ≥ 2 ^ 63)) = false) (c1 : (items.isEmpty || x == 1) = true) :
    Meets (Builtin.«tuple.__mul__» ⟨[.ref l, .int x u], []⟩) (fun _ R s => s.heap.get? l = some { cls := .type "tuple", dict := dd, data := .seq items n, slots := sl } ∧
      R (.ok (.ret (Value.ref l))) { s with heap := s.heap, toks := s.toks }) :=
  .of_wp fun prog w A R s h => by
    obtain ⟨hp, g, d, tk, os⟩ := s
    obtain ⟨hl, h⟩ := h
    have f1 := AutoSeq1.idx_int
    wp_walk using wpAny_loadPart' hl
    repeat (first
      | (refine wpAny_ite_false (decide_eq_false (by rw [c0]; exact Bool.false_ne_true)) ?_; wp_walk using wpAny_loadPart' hl)
      | (refine wpAny_ite_true (decide_eq_true c1) ?_; wp_walk using wpAny_loadPart' hl))
    exact ⟨_, rfl, h⟩
theorem op_mulT {pins : List (Addr × Obj)} {s : Shared} {σ : L2.St} {H : Hp} {x y : V} {v u : Value} {Q : VK} {W : Wd} {i : List D} {k : Int} {d0 : D} (I : Inv X pins σ H s) (rx : RelV x v) (ry : RelV y u) (ra : RepV X.K W H (.tup i) x) (rb : RepV X.K W H (.int k) y)
    (o : Out X.K W H (binD .mul (.tup i) (.int k)) Q) (e0 : binD .mul (.tup i) (.int k) = some d0) : wpAny (model X.prog X.w) X.A (binaryOp .Mult v u) (EP X pins σ Q) X.xe s := by
  obtain ⟨l, xs, rfl, l1, r1⟩ := tup_of ra
  cases int_of rb
  by_cases hz : 1 ≤ k ∧ k ≤ 1000 ∧ i.length ≤ 1000
  · have e : binD .mul (.tup i) (.int k) = some (.tup (List.replicate k.toNat i).flatten) := if_pos hz
    by_cases hs : xs = [] ∨ k = 1
    · have same : (List.replicate k.toNat i).flatten = i := by
        rcases hs with hs | hs
        · subst hs
          have := r1.length
          have hi : i = [] := List.eq_nil_of_length_eq_zero this.symm
          subst hi
          simp
        · subst hs
          simp
      rw [same] at e
      obtain ⟨its, r, ⟨⟨cls, dd, data, sl⟩, ho, hc, n, hd⟩, hs'⟩ := I.tuple l1
      simp only at hc hd
      subst hc hd
      cases rx
      obtain ⟨t, rfl⟩ := ry
      refine wpAny_binaryOp_repeat_ref (T := "tuple") (U := "int") (by decide) ⟨_, ho, rfl⟩ (fun s' => typeIs_int s' k t) noFill_tuple_mul F.fills_int_mul F.slot_int_rmul repeat_tuple F.slot_int_index.lookup
        (call_meets F.slot_int_rmul (typeIs_int s k t) F.entry_int_rmul (F.args_int_rmul_2 _ _) (int_rmul_tuple k t l its.toArray n dd sl)
          ⟨ho, rfl, ⟨_, ho, rfl⟩, call_meets F.slot_tuple_mul ⟨_, ho, rfl⟩ F.entry_tuple_mul (F.args_tuple_mul_2 _ _) (tuple_mulS l its.toArray n dd sl k t ?_ ?_) ⟨ho, ?_⟩⟩)
      · rw [decide_eq_false (by omega), decide_eq_false (by omega)] <;> rfl
      · rcases hs with hs | hs
        · subst hs
          cases r
          rfl
        · subst hs
          rw [Bool.or_eq_true]
          exact .inr (by decide)
      · refine ⟨.ref l, H, I, rfl, o.here e ?_⟩
        unfold RepV
        exact ⟨l, xs, rfl, l1, r1⟩
    · have hx : xs ≠ [] := fun q => hs (.inl q)
      have hk : k ≠ 1 := fun q => hs (.inr q)
      exact op_repT pins s σ H _ _ v u Q I rx ry ⟨l, k, xs, rfl, rfl, l1, hx, by omega, hz.2.1, by rw [r1.length]; exact hz.2.2, o.newT e (r1.rep _)⟩
  · have e : binD .mul (.tup i) (.int k) = none := if_neg hz
    exact bad_o (e.symm.trans e0)
theorem op_bin (op : BOp) : OpR X (binaryOp (opOf op)) (rBin X.K op) := by
  intro pins s σ H x y v u Q I rx ry ⟨a, b, W, ra, rb, o⟩
  obtain ⟨d0, e0, q0⟩ := id o
  cases op with
  | add =>
    cases a with
    | int i =>
      cases b with
      | int j =>
        cases int_of ra
        cases int_of rb
        exact op_add pins s σ H _ _ v u Q I rx ry ⟨i, j, rfl, rfl, o.here rfl rep_int⟩
      | _ => exact bad_o e0
    | str i =>
      cases b with
      | str j =>
        cases str_of ra
        cases str_of rb
        by_cases hz : i.length + j.length ≤ line
        · have e : binD .add (.str i) (.str j) = some (.str (i ++ j)) := if_pos hz
          exact op_add_str pins s σ H _ _ v u Q I rx ry ⟨i, j, rfl, rfl, by rw [← line_eq]; exact hz, o.here e rep_str⟩
        · have e : binD .add (.str i) (.str j) = none := if_neg hz
          exact bad_o (e.symm.trans e0)
      | _ => exact bad_o e0
    | lst i =>
      cases b with
      | lst j =>
        obtain ⟨l, xs, rfl, l1, r1⟩ := lst_of ra
        obtain ⟨m, ys, rfl, l2, r2⟩ := lst_of rb
        by_cases hz : i.length + j.length ≤ line
        · have e : binD .add (.lst i) (.lst j) = some (.lst (i ++ j)) := if_pos hz
          exact op_catR pins s σ H _ _ v u Q I rx ry ⟨l, m, xs, ys, rfl, rfl, l1.rd, l2.rd, by rw [r1.length, r2.length, ← line_eq]; exact hz, o.newL e (r1.append r2)⟩
        · have e : binD .add (.lst i) (.lst j) = none := if_neg hz
          exact bad_o (e.symm.trans e0)
      | scr j =>
        obtain ⟨l, xs, rfl, l1, r1⟩ := lst_of ra
        have rb' := rb
        unfold RepV at rb'
        obtain ⟨m, rfl, l2⟩ := rb'
        cases rx
        cases ry
        by_cases hz : i.length + j.length ≤ line
        · have e : binD .add (.lst i) (.scr j) = some (.lst (i ++ j.map .int)) := if_pos hz
          exact op_catS I l1.sq l2.sq (by rw [r1.length, List.length_map, ← line_eq]; exact hz) (o.newL e (r1.append (RepL.ofInts j)))
        · have e : binD .add (.lst i) (.scr j) = none := if_neg hz
          exact bad_o (e.symm.trans e0)
      | _ => exact bad_o e0
    | scr i =>
      cases b with
      | lst j =>
        obtain ⟨l, xs, rfl, l1, r1⟩ := lst_of rb
        have ra' := ra
        unfold RepV at ra'
        obtain ⟨m, rfl, l2⟩ := ra'
        cases rx
        cases ry
        by_cases hz : i.length + j.length ≤ line
        · have e : binD .add (.scr i) (.lst j) = some (.lst (i.map .int ++ j)) := if_pos hz
          exact op_catS I l2.sq l1.sq (by rw [r1.length, List.length_map, ← line_eq]; exact hz) (o.newL e ((RepL.ofInts i).append r1))
        · have e : binD .add (.scr i) (.lst j) = none := if_neg hz
          exact bad_o (e.symm.trans e0)
      | _ => exact bad_o e0
    | tup i =>
      cases b with
      | tup j =>
        obtain ⟨l, xs, rfl, l1, r1⟩ := tup_of ra
        obtain ⟨m, ys, rfl, l2, r2⟩ := tup_of rb
        by_cases hz : i.length + j.length ≤ line
        · have e : binD .add (.tup i) (.tup j) = some (.tup (i ++ j)) := if_pos hz
          refine op_catA pins s σ H _ _ v u Q I rx ry ⟨l, m, xs, ys, rfl, rfl, l1, l2, by rw [r1.length, r2.length, ← line_eq]; exact hz, fun hx => ?_, fun hx hy => ?_, fun hx hy => o.newT e (r1.append r2)⟩
          · subst hx
            refine o.here e ?_
            unfold RepV
            exact ⟨m, ys, rfl, l2, r1.append r2⟩
          · subst hy
            refine o.here e ?_
            unfold RepV
            have r3 := r1.append r2
            rw [List.append_nil] at r3
            exact ⟨l, xs, rfl, l1, r3⟩
        · have e : binD .add (.tup i) (.tup j) = none := if_neg hz
          exact bad_o (e.symm.trans e0)
      | _ => exact bad_o e0
    | _ => exact bad_o e0
  | sub =>
    cases a with
    | int i =>
      cases b with
      | int j =>
        cases int_of ra
        cases int_of rb
        exact op_sub pins s σ H _ _ v u Q I rx ry ⟨i, j, rfl, rfl, o.here rfl rep_int⟩
      | _ => exact bad_o e0
    | _ => exact bad_o e0
  | mul =>
    cases a with
    | int i =>
      cases b with
      | int j =>
        cases int_of ra
        cases int_of rb
        by_cases hz : (small64 i || small64 j) = true
        · have e : binD .mul (.int i) (.int j) = some (.int (i * j)) := if_pos hz
          refine op_mul pins s σ H _ _ v u Q I rx ry ⟨i, j, rfl, rfl, ?_, o.here e rep_int⟩
          unfold small64 at hz
          simp only [Bool.or_eq_true, Bool.and_eq_true, decide_eq_true_eq] at hz
          exact hz
        · have e : binD .mul (.int i) (.int j) = none := if_neg hz
          exact bad_o (e.symm.trans e0)
      | _ => exact bad_o e0
    | lst i =>
      cases b with
      | int k =>
        obtain ⟨l, xs, rfl, l1, r1⟩ := lst_of ra
        cases int_of rb
        by_cases hz : (decide (-(2 ^ 63) ≤ k) && decide (k < 2 ^ 63) && decide (i.length * k.toNat ≤ line)) = true
        · have e : binD .mul (.lst i) (.int k) = some (.lst (List.replicate k.toNat i).flatten) := if_pos hz
          simp only [Bool.and_eq_true, decide_eq_true_eq] at hz
          obtain ⟨⟨h1, h2⟩, h3⟩ := hz
          rcases l1 with ⟨z, l1⟩ | ⟨ob, l1⟩
          · exact op_rep pins s σ H _ _ v u Q I rx ry ⟨l, k, xs, rfl, rfl, l1, h1, h2, by rw [r1.length, ← line_eq]; exact h3, o.newL e (r1.rep _)⟩
          · have l2 : Rd H l (.lst xs) := .inr ⟨ob, l1⟩
            exact op_repF I rx ry l2 h1 h2 (by rw [r1.length, ← line_eq]; exact h3) (o.newL e (r1.rep _))
        · have e : binD .mul (.lst i) (.int k) = none := if_neg hz
          exact bad_o (e.symm.trans e0)
      | _ => exact bad_o e0
    | tup i =>
      cases b with
      | int k => exact op_mulT I rx ry ra rb o e0
      | _ => exact bad_o e0
    | _ => exact bad_o e0
  | fdiv =>
    cases a with
    | int i =>
      cases b with
      | int j =>
        cases int_of ra
        cases int_of rb
        by_cases hz : j ≠ 0 ∧ j.natAbs < 1073741824
        · have e : binD .fdiv (.int i) (.int j) = some (.int (i.fdiv j)) := if_pos hz
          exact op_fdivN pins s σ H _ _ v u Q I rx ry ⟨i, j, rfl, rfl, hz, o.here e rep_int⟩
        · have e : binD .fdiv (.int i) (.int j) = none := if_neg hz
          exact bad_o (e.symm.trans e0)
      | _ => exact bad_o e0
    | _ => exact bad_o e0
  | mod =>
    cases a with
    | int i =>
      cases b with
      | int j =>
        cases int_of ra
        cases int_of rb
        by_cases hz : j ≠ 0
        · have e : binD .mod (.int i) (.int j) = some (.int (i.fmod j)) := if_pos hz
          exact op_modN pins s σ H _ _ v u Q I rx ry ⟨i, j, rfl, rfl, hz, o.here e rep_int⟩
        · have e : binD .mod (.int i) (.int j) = none := if_neg hz
          exact bad_o (e.symm.trans e0)
      | _ => exact bad_o e0
    | _ => exact bad_o e0
  | pow =>
    cases a with
    | int i =>
      cases b with
      | int j =>
        cases int_of ra
        cases int_of rb
        by_cases hz : 0 ≤ j ∧ j ≤ 1000000 ∧ i.natAbs < 2 ^ 64
        · have e : binD .pow (.int i) (.int j) = some (.int (i ^ j.toNat)) := if_pos hz
          exact op_pow pins s σ H _ _ v u Q I rx ry ⟨i, j, rfl, rfl, hz, o.here e rep_int⟩
        · have e : binD .pow (.int i) (.int j) = none := if_neg hz
          exact bad_o (e.symm.trans e0)
      | _ => exact bad_o e0
    | _ => exact bad_o e0
end
end PD

set_option Elab.async false
set_option linter.all false
set_option maxRecDepth 100000
set_option maxHeartbeats 4000000
/-! PD4: comparisons, subscripts, slices, built-ins, by values. -/
namespace PD
open PySem PySem.Spec L2

theorem canLay_of {a : D} (h : shaped a = true) : (toPy a).canLay0 = true := SeqAt.canLay_of_shaped h
section
variable {X : Cx}
/-! ### == -/
def rCmp (K : PySem.W.Frag) (op : COp) : R2 := fun x y H Q => ∃ a b W, RepV K W H a x ∧ RepV K W H b y ∧ Out K W H (cmpD op a b) Q
theorem eq_of {K : PySem.W.Frag} {W : Wd} {H : Hp} {a b : D} {x y : V} {r : Bool} (ra : RepV K W H a x) (rb : RepV K W H b y) (e : eqD a b = some r) :
    (scal x y = true ∧ r = decide (x = y)) ∨ (shaped a = true ∧ shaped b = true ∧ r = eqv a b) := by
  have gen : (if (shaped a && shaped b) = true then some (eqv a b) else none) = some r → (scal x y = true ∧ r = decide (x = y)) ∨ (shaped a = true ∧ shaped b = true ∧ r = eqv a b) := fun e => by
    by_cases h : (shaped a && shaped b) = true
    · rw [if_pos h] at e
      have h2 := Bool.and_eq_true_iff.mp h
      exact .inr ⟨h2.1, h2.2, (Option.some.inj e).symm⟩
    · rw [if_neg h] at e
      cases e
  cases a with
  | int i =>
    cases b with
    | int j =>
      cases int_of ra
      cases int_of rb
      refine .inl ⟨rfl, ?_⟩
      have e' := (Option.some.inj (show some (decide (i = j)) = some r from e)).symm
      rw [e', Bool.eq_iff_iff]
      simp
    | _ => exact gen e
  | str i =>
    cases b with
    | str j =>
      cases str_of ra
      cases str_of rb
      refine .inl ⟨rfl, ?_⟩
      have e' := (Option.some.inj (show some (decide (i = j)) = some r from e)).symm
      rw [e', Bool.eq_iff_iff]
      simp
    | _ => exact gen e
  | bl i =>
    cases b with
    | bl j =>
      cases bl_of ra
      cases bl_of rb
      refine .inl ⟨rfl, ?_⟩
      have e' := (Option.some.inj (show some (decide (i = j)) = some r from e)).symm
      rw [e', Bool.eq_iff_iff]
      simp
    | _ => exact gen e
  | non =>
    cases b with
    | non =>
      cases non_of ra
      cases non_of rb
      refine .inl ⟨rfl, ?_⟩
      have e' := (Option.some.inj (show some true = some r from e)).symm
      rw [e']
      rfl
    | _ => exact gen e
  | _ => exact gen e
theorem isNon_of {K : PySem.W.Frag} {W : Wd} {H : Hp} {a : D} {x : V} (ra : RepV K W H a x) : decide (x = .non) = isNonD a := by
  cases a with
  | non => cases non_of ra; rfl
  | bl b => cases bl_of ra; rfl
  | int i => cases int_of ra; rfl
  | str s => cases str_of ra; rfl
  | tup xs => obtain ⟨a, vs, rfl, _⟩ := tup_of ra; rfl
  | lst xs => obtain ⟨a, vs, rfl, _⟩ := lst_of ra; rfl
  | dct ks xs => obtain ⟨a, vs, rfl, _⟩ := dct_of ra; rfl
  | dic ks xs => unfold RepV at ra; exact ra.elim
  | loc n => obtain ⟨a, rfl, _⟩ := loc_of ra; rfl
  | scr ns => unfold RepV at ra; obtain ⟨a, rfl, _⟩ := ra; rfl
theorem bad_b {P : Prop} {d : Bool} (e : (none : Option Bool) = some d) : P := nomatch e
theorem toPys_map : ∀ xs : List D, toPys xs = xs.map toPy
  | [] => by unfold toPys; rfl
  | x :: xs => by unfold toPys; rw [toPys_map xs]; rfl
theorem any_eqv (x : D) (ys : List D) : (toPys ys).any (fun y => PyData.eqv y (toPy x)) = ys.any fun z => eqv z x := by
  rw [toPys_map, List.any_map]
  rfl
theorem op_in (hu : X.A.units + 65 < cLine) {pins : List (Addr × Obj)} {s : Shared} {σ : L2.St} {H : Hp} {x y : V} {v u : Value} {a b : D} {W : Wd} {r : Bool} (I : Inv X pins σ H s) (rx : RelV x v) (ry : RelV y u) (ra : RepV X.K W H a x) (rb : RepV X.K W H b y)
    (e : inD a b = some r) : (∀ Q : Value → Shared → Prop, Q (.bool r) s → wpAny (model X.prog X.w) X.A (compareOp .In v u) Q X.xe s) ∧ (∀ Q : Value → Shared → Prop, Q (.bool (!r)) s → wpAny (model X.prog X.w) X.A (compareOp .NotIn v u) Q X.xe s) := by
  have key : ∀ ys, (if (shaped a && shaped (.lst ys)) = true then some (ys.any fun z => eqv z a) else none) = some r → shaped a = true ∧ shaped (.lst ys) = true ∧ r = ys.any fun z => eqv z a := fun ys e => by
    by_cases h : (shaped a && shaped (.lst ys)) = true
    · rw [if_pos h] at e
      have h2 := Bool.and_eq_true_iff.mp h
      exact ⟨h2.1, h2.2, (Option.some.inj e).symm⟩
    · rw [if_neg h] at e
      cases e
  cases b with
  | lst ys =>
    obtain ⟨s1, s2, e2⟩ := key ys e
    obtain ⟨as, r1⟩ := Dp.reads I _ x v (ra.dp a x (canLay_of s1)) rx
    obtain ⟨bs, r2⟩ := Dp.reads I _ y u (rb.dp (.lst ys) y (canLay_of s2)) ry
    unfold shaped at s1 s2
    unfold toPy at r2 s2
    have hr := PyProof.Rows.room_in_shaped s1 hu (xs := toPys ys)
    have e3 : r = (toPys ys).any fun y => PyData.eqv y (toPy a) := by rw [any_eqv]; exact e2
    exact ⟨fun Q q => SeqAt.in_list_reads r2 r1 (SeqAt.canLay_of_shaped s2) (SeqAt.canLay_of_shaped s1) hr (by rw [← e3]; exact q), fun Q q => SeqAt.notIn_list_reads r2 r1 (SeqAt.canLay_of_shaped s2) (SeqAt.canLay_of_shaped s1) hr (by rw [← e3]; exact q)⟩
  | tup ys =>
    obtain ⟨s1, s2, e2⟩ := key ys e
    have s3 : (toPy (.tup ys)).canLay0 = true := by
      have h := canLay_of s2
      unfold toPy at h ⊢
      exact h
    obtain ⟨as, r1⟩ := Dp.reads I _ x v (ra.dp a x (canLay_of s1)) rx
    obtain ⟨bs, r2⟩ := Dp.reads I _ y u (rb.dp (.tup ys) y s3) ry
    unfold shaped at s1 s2
    unfold toPy at r2 s2
    have hr := PyProof.Rows.room_in_shaped s1 hu (xs := toPys ys)
    have e3 : r = (toPys ys).any fun y => PyData.eqv y (toPy a) := by rw [any_eqv]; exact e2
    exact ⟨fun Q q => SeqAt.in_tuple_reads r2 r1 (SeqAt.canLay_of_shaped s2) (SeqAt.canLay_of_shaped s1) hr (by rw [← e3]; exact q), fun Q q => SeqAt.notIn_tuple_reads r2 r1 (SeqAt.canLay_of_shaped s2) (SeqAt.canLay_of_shaped s1) hr (by rw [← e3]; exact q)⟩
  | _ => exact bad_b e
theorem op_cmp (hu : X.A.units + 65 < cLine) (op : COp) : OpR X (compareOp (copOf op)) (rCmp X.K op) := by
  intro pins s σ H x y v u Q I rx ry ⟨a, b, W, ra, rb, o⟩
  obtain ⟨d0, e0, q0⟩ := id o
  cases op with
  | eq =>
    obtain ⟨r, e1, e2⟩ := Option.map_eq_some_iff.mp (show (eqD a b).map D.bl = some d0 from e0)
    have q : Q (.bl r) H := o.here (show (eqD a b).map D.bl = some (.bl r) by rw [e1]; rfl) rep_bl
    rcases eq_of ra rb e1 with ⟨h1, h2⟩ | ⟨h1, h2, h3⟩
    · exact op_eq pins s σ H x y v u Q I rx ry ⟨h1, by rw [← h2]; exact q⟩
    · exact op_eqD (by omega) pins s σ H x y v u Q I rx ry ⟨_, _, ra.dp a x (canLay_of h1), rb.dp b y (canLay_of h2), h1, h2, by
        have h4 : PyData.eqv (toPy a) (toPy b) = r := h3.symm
        rw [h4]; exact q⟩
  | ne =>
    obtain ⟨r, e1, e2⟩ := Option.map_eq_some_iff.mp (show (eqD a b).map (fun b => D.bl !b) = some d0 from e0)
    have q : Q (.bl !r) H := o.here (show (eqD a b).map (fun b => D.bl !b) = some (.bl !r) by rw [e1]; rfl) rep_bl
    rcases eq_of ra rb e1 with ⟨h1, h2⟩ | ⟨h1, h2, h3⟩
    · exact op_ne pins s σ H x y v u Q I rx ry ⟨h1, by rw [← h2]; exact q⟩
    · exact op_neD (by omega) pins s σ H x y v u Q I rx ry ⟨_, _, ra.dp a x (canLay_of h1), rb.dp b y (canLay_of h2), h1, h2, by
        have h4 : PyData.eqv (toPy a) (toPy b) = r := h3.symm
        rw [h4]; exact q⟩
  | lt =>
    cases a with
    | int i =>
      cases b with
      | int j =>
        cases int_of ra
        cases int_of rb
        exact op_lt pins s σ H _ _ v u Q I rx ry ⟨i, j, rfl, rfl, o.here rfl rep_bl⟩
      | _ => exact bad_o e0
    | _ => exact bad_o e0
  | le =>
    cases a with
    | int i =>
      cases b with
      | int j =>
        cases int_of ra
        cases int_of rb
        exact op_le pins s σ H _ _ v u Q I rx ry ⟨i, j, rfl, rfl, o.here rfl rep_bl⟩
      | _ => exact bad_o e0
    | _ => exact bad_o e0
  | gt =>
    cases a with
    | int i =>
      cases b with
      | int j =>
        cases int_of ra
        cases int_of rb
        exact op_gt pins s σ H _ _ v u Q I rx ry ⟨i, j, rfl, rfl, o.here rfl rep_bl⟩
      | _ => exact bad_o e0
    | _ => exact bad_o e0
  | ge =>
    cases a with
    | int i =>
      cases b with
      | int j =>
        cases int_of ra
        cases int_of rb
        exact op_ge pins s σ H _ _ v u Q I rx ry ⟨i, j, rfl, rfl, o.here rfl rep_bl⟩
      | _ => exact bad_o e0
    | _ => exact bad_o e0
  | isN =>
    cases b with
    | non =>
      cases non_of rb
      exact op_isN pins s σ H _ _ v u Q I rx ry ⟨rfl, by rw [isNon_of ra]; exact o.here rfl rep_bl⟩
    | _ => exact bad_o e0
  | notN =>
    cases b with
    | non =>
      cases non_of rb
      exact op_notN pins s σ H _ _ v u Q I rx ry ⟨rfl, by rw [isNon_of ra]; exact o.here rfl rep_bl⟩
    | _ => exact bad_o e0
  | in_ =>
    obtain ⟨r, e1, e2⟩ := Option.map_eq_some_iff.mp (show (inD a b).map D.bl = some d0 from e0)
    have q : Q (.bl r) H := o.here (show (inD a b).map D.bl = some (.bl r) by rw [e1]; rfl) rep_bl
    exact (op_in hu I rx ry ra rb e1).1 _ ⟨.bl r, H, I, rfl, q⟩
  | notIn =>
    obtain ⟨r, e1, e2⟩ := Option.map_eq_some_iff.mp (show (inD a b).map (fun b => D.bl !b) = some d0 from e0)
    have q : Q (.bl !r) H := o.here (show (inD a b).map (fun b => D.bl !b) = some (.bl !r) by rw [e1]; rfl) rep_bl
    exact (op_in hu I rx ry ra rb e1).2 _ ⟨.bl !r, H, I, rfl, q⟩

/-! ### subscripts -/
theorem atI_rep {K : PySem.W.Frag} {W : Wd} {H : Hp} {xs : List D} {vs : List V} {i : Int} {d : D} (r : RepL K W H xs vs) (e : atI xs i = some d) : ∃ v, atI vs i = some v ∧ RepV K W H d v := by
  unfold atI at e ⊢
  rw [r.length]
  cases h : ixN xs.length i with
  | none => rw [h] at e; cases e
  | some j =>
    rw [h] at e
    exact r.get e
theorem zipK_look {K : PySem.W.Frag} {W : Wd} {H : Hp} {k : Str} : ∀ {ks : List Str} {xs : List D} {vs : List V}, RepL K W H xs vs → ks.length = xs.length →
    (∀ d, lookS k ks xs = some d → ∃ v, valV (zipK ks vs) (Sum.inr k) = some v ∧ RepV K W H d v) ∧ (lookS k ks xs = none → valV (zipK ks vs) (Sum.inr k) = none)
  | [], [], vs, r, hl => by
    unfold RepL at r
    subst r
    exact ⟨fun d e => by simp [lookS] at e, fun _ => rfl⟩
  | x :: ks, y :: xs, vs, r, hl => by
    unfold RepL at r
    obtain ⟨v, rr, rfl, h2, h3⟩ := r
    have ih := zipK_look (k := k) h3 (by simpa using hl)
    have e1 : valV (zipK (x :: ks) (v :: rr)) (Sum.inr k) = if x = k then some v else valV (zipK ks rr) (Sum.inr k) := by
      unfold valV zipK
      rw [List.zip_cons_cons, List.map_cons, List.find?_cons]
      by_cases hx : x = k
      · subst hx
        simp
      · have : decide ((Sum.inr x : Key) = Sum.inr k) = false := decide_eq_false fun q => hx (Sum.inr.inj q)
        simp only [this]
        rw [if_neg hx]
    have e2 : lookS k (x :: ks) (y :: xs) = if x = k then some y else lookS k ks xs := rfl
    rw [e1, e2]
    by_cases hx : x = k
    · rw [if_pos hx, if_pos hx]
      exact ⟨fun d e => ⟨v, rfl, by cases e; exact h2⟩, fun e => by cases e⟩
    · rw [if_neg hx, if_neg hx]
      exact ih
theorem ix_dct (hu : X.A.units + 1 < cLine) : IxR X (fun x y H Q => ∃ a v, x = .ref a ∧ DGet H a y (some v) ∧ Q v H) := by
  intro value slice pins s σ H x y v u Q I rx ry ⟨a, w, e, g, q⟩ hs
  subst e
  obtain rfl : v = Value.ref a := rx
  exact PyProof.Rows.tail_any (dict_typeIs I g) PySem.F.slot_dict_getitem.lookup (d_getItem hu I g ry fun w' s3 I3 rw' => ⟨w, H, I3, rw', q⟩) hs
def rIdx (K : PySem.W.Frag) : R2 := fun x y H Q => ∃ a b W s, StoOk K W H s ∧ RepV K W H a x ∧ RepV K W H b y ∧ Out K W H (idxD a b s) Q
theorem ix_idx (hu : X.A.units + 65 < cLine) : IxR X (rIdx X.K) := by
  intro value slice pins sh σ H x y v u Q I rx ry ⟨a, b, W, s, so, ra, rb, o⟩ hs
  obtain ⟨d0, e0, q0⟩ := id o
  cases a with
  | lst xs =>
    cases b with
    | int i =>
      obtain ⟨p, vs, rfl, l, r⟩ := lst_of ra
      cases int_of rb
      by_cases hz : xs.length ≤ line
      · have e1 : idxD (.lst xs) (.int i) s = atI xs i := if_pos hz
        obtain ⟨w, e2, rw'⟩ := atI_rep r (e1.symm.trans e0)
        exact ix_list value slice pins sh σ H _ _ v u Q I rx ry ⟨p, vs, i, w, rfl, rfl, l.sq, e2, o.here e0 rw'⟩ hs
      · exact bad_o ((if_neg hz : idxD (.lst xs) (.int i) s = none).symm.trans e0)
    | _ => exact bad_o e0
  | tup xs =>
    cases b with
    | int i =>
      obtain ⟨p, vs, rfl, l, r⟩ := tup_of ra
      cases int_of rb
      by_cases hz : xs.length ≤ line
      · have e1 : idxD (.tup xs) (.int i) s = atI xs i := if_pos hz
        obtain ⟨w, e2, rw'⟩ := atI_rep r (e1.symm.trans e0)
        exact ix_tup value slice pins sh σ H _ _ v u Q I rx ry ⟨p, vs, i, w, rfl, rfl, l, e2, o.here e0 rw'⟩ hs
      · exact bad_o ((if_neg hz : idxD (.tup xs) (.int i) s = none).symm.trans e0)
    | _ => exact bad_o e0
  | dct ks xs =>
    cases b with
    | str k =>
      obtain ⟨p, vs, rfl, z, l, hl, nd, r⟩ := dct_of ra
      cases str_of rb
      obtain ⟨w, e2, rw'⟩ := (zipK_look (k := k) r hl).1 d0 e0
      exact ix_dct (by omega) value slice pins sh σ H _ _ v u Q I rx ry ⟨p, w, rfl, by
        have g := DGet.k (k := Sum.inr k) l
        rw [e2] at g
        exact g, o.here e0 rw'⟩ hs
    | _ => exact bad_o e0
  | loc n =>
    cases b with
    | int i =>
      obtain ⟨p, rfl, hm⟩ := loc_of ra
      cases int_of rb
      cases hc : s[n]? with
      | none =>
        have e1 : idxD (.loc n) (.int i) s = none := by unfold idxD; simp only [hc]
        exact bad_o (e1.symm.trans e0)
      | some c =>
        cases c with
        | lst xs =>
          have e1 : idxD (.loc n) (.int i) s = atI xs i := by unfold idxD; simp only [hc]
          obtain ⟨vs, l, r⟩ := so.at_ n _ p hc hm
          obtain ⟨w, e2, rw'⟩ := atI_rep r (e1.symm.trans e0)
          exact ix_list value slice pins sh σ H _ _ v u Q I rx ry ⟨p, vs, i, w, rfl, rfl, .inl (.inl l), e2, o.here e0 rw'⟩ hs
    | _ => exact bad_o e0
  | _ => exact bad_o e0

/-! ### slices -/
def rSlc (K : PySem.W.Frag) : V → Option Int → Option Int → Hp → VK → Prop := fun x lo hi H Q => ∃ a W, RepV K W H a x ∧ Out K W H (slcD a lo hi) Q
theorem cut_rep {K : PySem.W.Frag} {W : Wd} {H : Hp} {xs : List D} {vs : List V} {lo hi : Option Int} (r : RepL K W H xs vs) : RepL K W H (cutD xs lo hi) (cutV vs lo hi) := by
  unfold cutD cutV
  rw [r.length]
  exact (r.drop _).take _
theorem sl_slc : SlR X (rSlc X.K) := by
  intro pins s σ H x v vl vu lo hi sl Q I rx hs pl pu ⟨a, W, ra, o⟩
  obtain ⟨d0, e0, q0⟩ := id o
  cases a with
  | lst xs =>
    obtain ⟨p, vs, rfl, l, r⟩ := lst_of ra
    exact sl_list pins s σ H _ v vl vu lo hi sl Q I rx hs pl pu ⟨p, vs, rfl, l.sq, o.newL rfl (cut_rep r)⟩
  | tup xs =>
    obtain ⟨p, vs, rfl, l, r⟩ := tup_of ra
    refine sl_tupA pins s σ H _ v vl vu lo hi sl Q I rx hs pl pu ⟨p, vs, rfl, l, fun hw => ?_, fun _ => o.newT rfl (cut_rep r)⟩
    refine o.here (d := .tup (cutD xs lo hi)) rfl ?_
    unfold RepV
    refine ⟨p, vs, rfl, l, ?_⟩
    have q := cut_rep (lo := lo) (hi := hi) r
    have e : cutV vs lo hi = vs := by
      unfold cutV
      rw [hw.1, hw.2, List.drop_zero, Nat.sub_zero, List.take_length]
    rw [e] at q
    exact q
  | _ => exact bad_o e0
end
end PD

set_option Elab.async false
set_option linter.all false
set_option maxRecDepth 100000
set_option maxHeartbeats 4000000
/-! PD5s: sorted tuples that compare up to their first difference. -/
namespace PD
open PySem PySem.Spec L2
open PySem.W PyProof.Rows PySem.SeqAt in
theorem cmpTo_head {x y : PyData} {xs ys : List PyData} (h : cmpTo (x :: xs) (y :: ys) = true) : PySem.W.alike x y = true := by
  unfold cmpTo at h
  rw [Bool.and_eq_true] at h
  exact h.1
theorem cmpTo_tail {x y : PyData} {xs ys : List PyData} (h : cmpTo (x :: xs) (y :: ys) = true) (e : PyData.eqv x y = true) : cmpTo xs ys = true := by
  unfold cmpTo at h
  rw [Bool.and_eq_true, e] at h
  simpa using h.2
section
open PySem.W PyProof.Rows PySem.SeqAt PySem.Calls
variable {prog : Program} {w : World} {A : Around} {s : Shared}
theorem cmpTo_unique {hp : Heap} : ∀ (xs ys : List PyData) (us : List Value) (as1 as2 : List Addr), cmpTo xs ys = true → ReadsAll hp us xs as1 → ReadsAll hp us ys as2 → xs = ys
  | [], ys, us, as1, as2, _, r1, r2 => by
    cases r1
    cases r2
    rfl
  | x :: xs, [], us, as1, as2, _, r1, r2 => by
    cases r2
    cases r1
  | x :: xs, y :: ys, us, as1, as2, hc, r1, r2 => by
    cases r1 with
    | cons p1 p2 =>
      cases r2 with
      | cons q1 q2 =>
        have ha := cmpTo_head hc
        have exy : x = y := alike_unique x y _ _ _ ha p1 q1
        subst exy
        have et := cmpTo_tail hc (eqv_refl_alike x ha)
        rw [cmpTo_unique xs ys _ _ _ et p2 q2]
theorem cmpTo_lex {first fin : Bool} {R : Bool → Shared → Prop} : ∀ (xs ys : List PyData) (n : Nat) (us ws : List Value) (as1 as2 : List Addr), ReadsAll s.heap us xs as1 → ReadsAll s.heap ws ys as2 → cmpTo xs ys = true →
    A.units + min (PyData.depthAll xs) (PyData.depthAll ys) < cLine → (first = true → n = 0 → ∀ x r t, xs = x :: r → x ≠ .tuple t) → fin = decide (xs.length < ys.length) → R (PyProof.Rows.lexLt itemOrd (keyToksAll xs) (keyToksAll ys)) s → KatLex prog w A first fin R (us.zip ws) n s
  | [], ys, n, us, ws, as1, as2, r1, r2, hc, hu, hf, he, hr => katLex_alike [] ys n us ws as1 as2 r1 r2 (by unfold alikeAll; cases ys <;> rfl) hu hf he hr
  | x :: xs, [], n, us, ws, as1, as2, r1, r2, hc, hu, hf, he, hr => katLex_alike (x :: xs) [] n us ws as1 as2 r1 r2 (by unfold alikeAll; rfl) hu hf he hr
  | x :: xs, y :: ys, n, us, ws, as1, as2, r1, r2, hc, hu, hf, he, hr => by
    have ha := cmpTo_head hc
    have he2 : fin = decide (xs.length < ys.length) := by
      rw [he, List.length_cons, List.length_cons]
      exact decide_eq_decide.mpr (by omega)
    cases r1 with
    | cons p1 p2 =>
      cases r2 with
      | cons q1 q2 =>
        rw [List.zip_cons_cons]
        refine kat_cons (eqAt_alike x y A s _ _ _ _ p1 q1 ha (room_head hu) prog w _ _ ?_)
        cases hv : PyData.eqv x y with
        | true =>
          rw [dataLt_all_yes ha hv] at hr
          refine kat_yes (cmpTo_lex xs ys (n + 1) _ _ _ _ p2 q2 (cmpTo_tail hc hv) (room_tail hu) (fun _ z => ?_) he2 hr)
          omega
        | false =>
          rw [dataLt_all_no ha hv] at hr
          refine kat_no (oneLt_alike (fun z t => ?_) p1 q1 ha (ne_none_of ha hv) (room_head hu) hr)
          rw [Bool.and_eq_true, beq_iff_eq] at z
          exact hf z.1 z.2 x xs t rfl
/-- rows, no two of which cannot be compared -/
def AllCmp (ds : List PyData) : Prop := ∀ d ∈ ds, ∃ x r, d = .tuple (x :: r) ∧ ∀ d' ∈ ds, ∃ y t, d' = .tuple (y :: t) ∧ cmpTo (x :: r) (y :: t) = true
theorem AllCmp.two {ds : List PyData} (h : AllCmp ds) {x y : PyData} {r t : List PyData} (h1 : .tuple (x :: r) ∈ ds) (h2 : .tuple (y :: t) ∈ ds) : cmpTo (x :: r) (y :: t) = true := by
  obtain ⟨x1, r1, e1, k1⟩ := h _ h1
  obtain ⟨y1, t1, e2, k2⟩ := k1 _ h2
  injection e1 with e1
  injection e2 with e2
  rw [e1, e2]
  exact k2
theorem AllCmp.uniq {hp : Heap} {ds : List PyData} (h : AllCmp ds) {d d' : PyData} {v : Value} {as1 as2 : List Addr} (h1 : d ∈ ds) (h2 : d' ∈ ds) (r1 : Reads hp v d as1) (r2 : Reads hp v d' as2) : d = d' := by
  obtain ⟨x, r, rfl, _⟩ := h _ h1
  obtain ⟨y, t, rfl, _⟩ := h _ h2
  have hc := h.two h1 h2
  cases r1 with
  | tuple p1 p2 p3 p4 =>
    cases r2 with
    | tuple q1 q2 q3 q4 =>
      rw [p1] at q1
      cases q1
      rw [p3] at q3
      cases q3
      rw [cmpTo_unique _ _ _ _ _ hc p4 q4]
theorem AllCmp.key {hp : Heap} {ds : List PyData} (h : AllCmp ds) {v : Value} {d : PyData} {as1 : List Addr} (hd : d ∈ ds) (r : Reads hp v d as1) : (dataKind hp ds).keyOf v = some (keyToks d) := by
  have ex : ∃ d, d ∈ ds ∧ ∃ as2, Reads hp v d as2 := ⟨d, hd, as1, r⟩
  obtain ⟨m1, as2, m2⟩ := ex.choose_spec
  have e1 := h.uniq m1 hd m2 r
  show (open Classical in if q : ∃ d, d ∈ ds ∧ ∃ as2, Reads hp v d as2 then some (keyToks q.choose) else none) = some (keyToks d)
  rw [dif_pos ex, e1]
theorem AllCmp.sorts {vs : List Value} {ds : List PyData} (h : AllCmp ds) (e : EachIs (fun v d => ∃ as2, Reads s.heap v d as2) vs ds) (hu : ∀ d ∈ ds, A.units + d.depth < cLine) : SortsAt prog w A s (dataKind s.heap ds) vs := by
  have ht : ∀ d, d ∈ ds → ∃ x r, d = .tuple (x :: r) := fun d hd => by
    obtain ⟨x, r, e1, _⟩ := h d hd
    exact ⟨x, r, e1⟩
  refine ⟨fun v hv => ?_, ?_⟩
  · obtain ⟨d, hd, as2, r⟩ := e.left v hv
    exact ⟨_, h.key hd r⟩
  · cases ds with
    | nil =>
      cases e
      refine ⟨general', fun E x y a b R ha _ _ => ?_, fun h2 => absurd h2 (by simp)⟩
      obtain ⟨d, as2, hd, _⟩ := dataKind_inv ha
      cases hd
    | cons d0 dr =>
      obtain ⟨x0, r0, rfl, k0⟩ := h d0 List.mem_cons_self
      have hfst : ∀ x r, PyData.tuple (x :: r) ∈ PyData.tuple (x0 :: r0) :: dr → alike x x0 = true := fun x r hm => cmpTo_head (h.two hm List.mem_cons_self)
      refine ⟨tuples' (dataType x0 != Value.type "tuple"), fun E x y a b R ha hb hr => ?_, fun h2 E R hr => ?_⟩
      · obtain ⟨d, as1, hd, r1, rfl⟩ := dataKind_inv ha
        obtain ⟨d', as2, hd', r2, rfl⟩ := dataKind_inv hb
        obtain ⟨x1, t1, rfl⟩ := ht d hd
        obtain ⟨x2, t2, rfl⟩ := ht d' hd'
        have hc := h.two hd hd'
        have hr1 : R (dataLt (.tuple (x1 :: t1)) (.tuple (x2 :: t2))) s := hr
        rw [dataLt_tuple] at hr1
        have hroom : A.units + min (PyData.tuple (x1 :: t1)).depth (PyData.tuple (x2 :: t2)).depth < cLine := Nat.lt_of_le_of_lt (Nat.add_le_add_left (Nat.min_le_left _ _) _) (hu _ hd)
        cases r1 with
        | @tuple l1 o1 us n1 _ _ p1 p2 p3 p4 =>
          cases r2 with
          | @tuple l2 o2 ws n2 _ _ q1 q2 q3 q4 =>
            have z1 : us.size = (x1 :: t1).length := by simpa using SeqAt.ReadsAll.length _ _ _ p4
            have z2 : ws.size = (x2 :: t2).length := by simpa using SeqAt.ReadsAll.length _ _ _ q4
            refine kat_lt p1 p3 q1 q3 (cmpTo_lex (x1 :: t1) (x2 :: t2) 0 _ _ _ _ p4 q4 hc ?_ (fun hb _ x r t ex => ?_) ?_ hr1)
            · have := SeqAt.room_in hroom
              omega
            · cases ex
              rw [← dataType_alike (hfst _ _ hd)] at hb
              exact dataType_tuple hb t
            · rw [z1, z2]
      · obtain ⟨fs, g1, g2, g3⟩ := each_katTups e ht
        refine kat_kind (T := dataType x0) g1 (by omega) (fun f hf => ?_) (beq_self_eq_true _) hr
        obtain ⟨x, r, as2, m1, m2⟩ := g3 f hf
        have := looks_reads (M := model prog w) m2
        rw [dataType_alike (hfst x r m1)] at this
        exact this
theorem sorted_cmp {E : Value → Shared → Prop} {β : Type} {vs : List Value} {bs : List β} {enc : β → PyData} {R : Value → β → Prop} {l : Addr} {Q : Value → Shared → Prop} (hl : s.heap.IsList l vs.toArray) (e : EachIs R vs bs) (er : EachIs (fun v b => ∃ as, Reads s.heap v (enc b) as) vs bs) (hal : AllCmp (bs.map enc)) (hL : bs.length ≤ sizeLine)
    (hu : ∀ b ∈ bs, A.units + 2 + (enc b).depth < cLine) (h : ∀ out : List Value, out.length = bs.length → EachIs R out (bs.mergeSort (dataLe false enc)) → Q (.ref (s.heap.objs.size + 1)) { s with heap := sortedAll s.heap vs out.toArray }) :
    wpAny (model prog w) A (call (.builtin "sorted") [.ref l]) Q E s := by
  have er2 : EachIs (fun v b => ∃ as2, Reads (sortingHeap (copyHeap s.heap vs) (s.heap.objs.size + 1) vs) v (enc b) as2) vs bs := er.mono fun _ _ ⟨as2, r⟩ => ⟨as2, PyProof.Rows.Reads.keeps (fun _ _ => sorting_copy_old) r⟩
  have hb2 : ∀ d ∈ bs.map enc, A.in1.in1.units + d.depth < cLine := by
    intro d hd
    obtain ⟨b, hb, rfl⟩ := List.mem_map.mp hd
    exact hu b hb
  refine sorted_vals hl (AllCmp.sorts (s := { s with heap := sortingHeap (copyHeap s.heap vs) (s.heap.objs.size + 1) vs }) hal (each_map (R := fun v d => ∃ as2, Reads (sortingHeap (copyHeap s.heap vs) (s.heap.objs.size + 1) vs) v d as2) enc er2) hb2) (by rw [e.length]; exact hL) (h _ ?_ ?_)
  · rw [sortVals_length false rfl]
    exact e.length
  · have hk : EachIs (fun v d => (dataKind (sortingHeap (copyHeap s.heap vs) (s.heap.objs.size + 1) vs) (bs.map enc)).keyOf v = some (keyToks d)) vs (bs.map enc) :=
      (PySem.W.each_mem (each_map (R := fun v d => ∃ as2, Reads (sortingHeap (copyHeap s.heap vs) (s.heap.objs.size + 1) vs) v d as2) enc er2)).mono fun _ _ ⟨⟨_, r⟩, hd⟩ => hal.key hd r
    exact sortVals_each (κ := dataKind (sortingHeap (copyHeap s.heap vs) (s.heap.objs.size + 1) vs) (bs.map enc)) (fun b => keyToks (enc b)) e (each_of_map (R := fun v d => (dataKind (sortingHeap (copyHeap s.heap vs) (s.heap.objs.size + 1) vs) (bs.map enc)).keyOf v = some (keyToks d)) enc hk)
end
end PD

set_option Elab.async false
set_option linter.all false
set_option maxRecDepth 100000
set_option maxHeartbeats 4000000
/-! PD5: built-ins by values. -/
namespace PD
open PySem PySem.Spec L2

section
variable {X : Cx}
def rBif (K : PySem.W.Frag) (f : Bif) : List V → Hp → VK → Prop := fun vs H Q => ∃ ds W, RepL K W H ds vs ∧ Out K W H (bifD f ds) Q
theorem one_of {K : PySem.W.Frag} {W : Wd} {H : Hp} {d : D} {vs : List V} (r : RepL K W H [d] vs) : ∃ v, vs = [v] ∧ RepV K W H d v := by
  unfold RepL at r
  obtain ⟨v, rr, rfl, h2, h3⟩ := r
  unfold RepL at h3
  subst h3
  exact ⟨v, rfl, h2⟩
theorem two_of {K : PySem.W.Frag} {W : Wd} {H : Hp} {d e : D} {vs : List V} (r : RepL K W H [d, e] vs) : ∃ v u, vs = [v, u] ∧ RepV K W H d v ∧ RepV K W H e u := by
  unfold RepL at r
  obtain ⟨v, rr, rfl, h2, h3⟩ := r
  obtain ⟨u, rfl, h4⟩ := one_of h3
  exact ⟨v, u, rfl, h2, h4⟩
theorem cr_sumT (hc : X.calm = true) : CallR X (.builtin "sum") (fun vs H Q => ∃ (a : Addr) (ns : List Int), vs = [V.ref a] ∧ SqT X.K H a (ns.map V.int) ∧ Q (.int ns.sum) H) := by
  intro pins s σ H vs us Q I r ⟨a, ns, e, hs, q⟩
  subst e
  obtain ⟨its, rv, hl, _⟩ := I.tuple hs
  rw [Vals.ref1 r]
  have hi := rv.ints
  have hl2 : s.heap.IsTuple a its.toArray := hl
  obtain ⟨xs, hx⟩ := hi.allInts.items
  have hn : PySem.numsOf its.toArray.toList = ns := by rw [show its.toArray.toList = its from rfl, hi.numsOf]
  rw [hx] at hl2 hn
  rw [PySem.nums_intItems] at hn
  refine PySem.W.ktm_sumG (I.ok.hd hc) hl2 fun h' tk t' hk => ?_
  rw [PySem.preSum_eq, List.take_of_length_le (by simp), hn]
  exact ⟨.int _, H, I.kept hk, ⟨_, rfl⟩, q⟩
theorem each_of {K : PySem.W.Frag} {W : Wd} {H : Hp} : ∀ {xs : List D} {ws : List V} {its : List Value}, RepL K W H xs ws → Vals ws its → PySem.W.EachIs (fun v d => ∃ x, RelV x v ∧ RepV K W H d x) its xs
  | [], ws, its, h, r => by
    unfold RepL at h
    subst h
    cases r
    exact .nil
  | d :: xs, ws, its, h, r => by
    unfold RepL at h
    obtain ⟨v, rr, rfl, h1, h2⟩ := h
    cases r with
    | cons a b => exact .cons ⟨v, a, h1⟩ (each_of h2 b)
theorem of_each {K : PySem.W.Frag} {W : Wd} {H : Hp} : ∀ {xs : List D} {out : List Value}, PySem.W.EachIs (fun v d => ∃ x, RelV x v ∧ RepV K W H d x) out xs → ∃ ys, RepL K W H xs ys ∧ Vals ys out
  | _, _, .nil => ⟨[], .nil, .nil⟩
  | _, _, .cons ⟨x, h1, h2⟩ t => by
    obtain ⟨ys, h3, h4⟩ := of_each t
    exact ⟨x :: ys, .cons h2 h3, .cons h1 h4⟩
theorem each_mem {α β : Type} {R : α → β → Prop} {P : β → Prop} : ∀ {as : List α} {bs : List β}, PySem.W.EachIs R as bs → (∀ b ∈ bs, P b) → PySem.W.EachIs (fun a b => R a b ∧ P b) as bs
  | _, _, .nil, _ => .nil
  | _, _, .cons h t, hp => .cons ⟨h, hp _ List.mem_cons_self⟩ (each_mem t fun b hb => hp b (List.mem_cons_of_mem _ hb))
theorem cr_sortedD (hu : X.A.units + 65 < cLine) {pins : List (Addr × Obj)} {σ : L2.St} {H : Hp} {s : Shared} {Q : VK} {p : Addr} {xs : List D} {ws : List V} {W : Wd} (I : Inv X pins σ H s) (l : SqL X.K H p ws) (rl : RepL X.K W H xs ws) (ok : sortOk xs = true) (q : ∀ a ys, RepL X.K W H (sortD xs) ys → H a = none → Q (.ref a) (upd H a (.lst ys))) :
    wpAny (model X.prog X.w) X.A (call (.builtin "sorted") [.ref p]) (EP X pins σ Q) X.xe s := by
  unfold sortOk at ok
  simp only [Bool.and_eq_true, Bool.or_eq_true, decide_eq_true_eq, List.all_eq_true] at ok
  obtain ⟨hlen, hd, hk⟩ := ok
  obtain ⟨its, rv, hl, hz⟩ := I.list l
  have e := each_of rl rv
  have er : PySem.W.EachIs (fun v b => ∃ as, Reads s.heap v (toPy b) as) its xs := (each_mem e hd).mono fun v b ⟨⟨x, h1, h2⟩, h3⟩ => Dp.reads I (toPy b) x v (h2.dp b x h3.2) h1
  have hu2 : ∀ b ∈ xs, X.A.units + 2 + (toPy b).depth < cLine := fun b hb => by
    have := (hd b hb).1
    omega
  have fin : ∀ out : List Value, out.length = xs.length → PySem.W.EachIs (fun v d => ∃ x, RelV x v ∧ RepV X.K W H d x) out (xs.mergeSort (PySem.W.dataLe false toPy)) → EP X pins σ Q (.ref (s.heap.objs.size + 1)) { s with heap := PyProof.Rows.sortedAll s.heap its out.toArray } := fun out ho hr => by
    obtain ⟨ys, h1, h2⟩ := of_each hr
    obtain ⟨ep, he'⟩ := PyProof.Rows.sortedAll_at s.heap its out.toArray
    have hl2 : ys.length ≤ sizeLine := by rw [h2.length, ho, ← line_eq]; exact hlen
    exact ⟨.ref _, upd H (s.heap.objs.size + 1) (.lst ys), I.laid (t' := s.toks) (fun _ _ => PyProof.Rows.sortedAll_old) (Nat.le_succ _) ⟨hl2, out, ep, h2, by simpa using he'⟩, rfl, q _ ys h1 (I.hok.fresh (Nat.le_succ _))⟩
  rcases hk with hk | ⟨hal, hk⟩
  · refine sorted_cmp (enc := toPy) hl.isList e er (fun d hd1 => ?_) (by rw [← line_eq]; exact hlen) hu2 fin
    obtain ⟨b, hb, rfl⟩ := List.mem_map.mp hd1
    have row : ∀ b' ∈ xs, ∃ x r y t, toPy b = .tuple (x :: r) ∧ toPy b' = .tuple (y :: t) ∧ cmpTo (x :: r) (y :: t) = true := fun b' hb' => by
      have := hk b hb b' hb'
      unfold cmpRow at this
      split at this
      · unfold toPys at this
        unfold toPy toPys
        exact ⟨_, _, _, _, rfl, rfl, this⟩
      · cases this
    obtain ⟨x, r, y, t, e1, e2, e3⟩ := row b hb
    refine ⟨x, r, e1, fun d' hd' => ?_⟩
    obtain ⟨b', hb', rfl⟩ := List.mem_map.mp hd'
    obtain ⟨x', r', y', t', f1, f2, f3⟩ := row b' hb'
    rw [e1] at f1
    cases f1
    exact ⟨y', t', f2, f3⟩
  · refine PySem.W.sorted_data (enc := toPy) hl.isList e er (fun d hd1 d' hd2 => ?_) ?_ (by rw [← line_eq]; exact hlen) hu2 fin
    · obtain ⟨b, hb, rfl⟩ := List.mem_map.mp hd1
      obtain ⟨b', hb', rfl⟩ := List.mem_map.mp hd2
      exact hal b hb b' hb'
    · refine .inr fun d hd1 => ?_
      obtain ⟨b, hb, rfl⟩ := List.mem_map.mp hd1
      have := hk b hb
      cases b <;> first | exact absurd (show false = true from this) (by decide) | (unfold toPy; exact ⟨fun z => (nomatch z), fun xs z => (nomatch z)⟩)
def bifV : Bif → Value
  | .len => .builtin "len" | .tuple => .type "tuple" | .list => .type "list" | .all => .builtin "all" | .any => .builtin "any" | .sum => .builtin "sum"
  | .int => .type "int" | .str => .type "str" | .min => .builtin "min" | .sorted => .builtin "sorted"
theorem cr_bif (hc : X.calm = true) (hu : X.A.units + 65 < cLine) (f : Bif) : CallR X (bifV f) (rBif X.K f) := by
  intro pins s σ H vs us Q I rv ⟨ds, W, r, o⟩
  obtain ⟨d0, e0, q0⟩ := id o
  cases ds with
  | nil => cases f <;> exact bad_o e0
  | cons d ds =>
    cases ds with
    | nil =>
      obtain ⟨v, rfl, r1⟩ := one_of r
      cases d with
      | lst xs =>
        obtain ⟨p, ws, rfl, l, rl⟩ := lst_of r1
        cases f with
        | len => exact call_len_seq pins s σ H _ us Q I rv ⟨p, ws, rfl, .inl l.sq, by rw [rl.length]; exact o.here rfl rep_int⟩
        | tuple => exact call_tuple_of pins s σ H _ us Q I rv ⟨p, ws, rfl, .inl ⟨l.sq, o.newT rfl rl⟩⟩
        | list => exact call_list_of pins s σ H _ us Q I rv ⟨p, ws, rfl, .inl l.sq, o.newL rfl rl⟩
        | all =>
          obtain ⟨bs, e1, e2⟩ := Option.map_eq_some_iff.mp (show (asBools xs).map (fun bs => D.bl (bs.all id)) = some d0 from e0)
          have eb := rl.bools e1
          subst eb
          exact cr_all hc pins s σ H _ us Q I rv ⟨p, bs, rfl, l.sq, o.here (show (asBools xs).map (fun bs => D.bl (bs.all id)) = some _ by rw [e1]; rfl) rep_bl⟩
        | any =>
          obtain ⟨bs, e1, e2⟩ := Option.map_eq_some_iff.mp (show (asBools xs).map (fun bs => D.bl (bs.any id)) = some d0 from e0)
          have eb := rl.bools e1
          subst eb
          exact cr_any hc pins s σ H _ us Q I rv ⟨p, bs, rfl, l.sq, o.here (show (asBools xs).map (fun bs => D.bl (bs.any id)) = some _ by rw [e1]; rfl) rep_bl⟩
        | sorted =>
          by_cases ok : sortOk xs = true
          · have e : bifD .sorted [.lst xs] = some (.lst (sortD xs)) := if_pos ok
            rw [Vals.ref1 rv]
            exact cr_sortedD hu I l.sq rl ok fun a ys r2 ha => o.newL e r2 a ha
          · have e : bifD .sorted [.lst xs] = none := if_neg ok
            exact bad_o (e.symm.trans e0)
        | sum =>
          obtain ⟨bs, e1, e2⟩ := Option.map_eq_some_iff.mp (show (asInts xs).map (fun bs => D.int bs.sum) = some d0 from e0)
          have eb := rl.ints e1
          subst eb
          exact cr_sum hc pins s σ H _ us Q I rv ⟨p, bs, rfl, l.sq, o.here (show (asInts xs).map (fun bs => D.int bs.sum) = some _ by rw [e1]; rfl) rep_int⟩
        | _ => exact bad_o e0
      | tup xs =>
        obtain ⟨p, ws, rfl, l, rl⟩ := tup_of r1
        cases f with
        | len => exact call_len_seq pins s σ H _ us Q I rv ⟨p, ws, rfl, .inr l, by rw [rl.length]; exact o.here rfl rep_int⟩
        | tuple => exact call_tuple_of pins s σ H _ us Q I rv ⟨p, ws, rfl, .inr ⟨l, o.here rfl r1⟩⟩
        | list => exact call_list_of pins s σ H _ us Q I rv ⟨p, ws, rfl, .inr l, o.newL rfl rl⟩
        | sum =>
          obtain ⟨bs, e1, e2⟩ := Option.map_eq_some_iff.mp (show (asInts xs).map (fun bs => D.int bs.sum) = some d0 from e0)
          have eb := rl.ints e1
          subst eb
          exact cr_sumT hc pins s σ H _ us Q I rv ⟨p, bs, rfl, l, o.here (show (asInts xs).map (fun bs => D.int bs.sum) = some _ by rw [e1]; rfl) rep_int⟩
        | _ => exact bad_o e0
      | int i =>
        cases int_of r1
        cases f with
        | int => exact call_int1 pins s σ H _ us Q I rv (.inl ⟨i, rfl, o.here rfl rep_int⟩)
        | str =>
          by_cases hz : i.natAbs < 2 ^ 64
          · have e : bifD .str [.int i] = some (.str (toString i)) := if_pos hz
            refine call_str_int pins s σ H _ us Q I rv ⟨i, rfl, ?_, o.here e rep_str⟩
            by_cases h0 : i.natAbs = 0
            · rw [h0]
              decide
            · have := (Nat.log2_lt h0).mpr hz
              omega
          · have e : bifD .str [.int i] = none := if_neg hz
            exact bad_o (e.symm.trans e0)
        | _ => exact bad_o e0
      | str a =>
        cases str_of r1
        cases f with
        | str => exact SkE.call_str_str pins s σ H _ us Q I rv ⟨a, rfl, o.here rfl rep_str⟩
        | int =>
          by_cases hz : a.length ≤ 640
          · have e : bifD .int [.str a] = (PySem.intText? a).map .int := if_pos hz
            obtain ⟨n, e1, e2⟩ := Option.map_eq_some_iff.mp (e.symm.trans e0)
            exact call_int_str pins s σ H _ us Q I rv ⟨a, n, rfl, e1, hz, o.here (show bifD .int [.str a] = some (.int n) by rw [e, e1]; rfl) rep_int⟩
          · have e : bifD .int [.str a] = none := if_neg hz
            exact bad_o (e.symm.trans e0)
        | _ => exact bad_o e0
      | bl i =>
        cases bl_of r1
        cases f with
        | int => exact call_int1 pins s σ H _ us Q I rv (.inr ⟨i, rfl, o.here rfl rep_int⟩)
        | _ => exact bad_o e0
      | _ => cases f <;> exact bad_o e0
    | cons e ds =>
      cases ds with
      | nil =>
        obtain ⟨v, u, rfl, r1, r2⟩ := two_of r
        cases f with
        | min =>
          cases d with
          | int i =>
            cases e with
            | int j =>
              cases int_of r1
              cases int_of r2
              exact call_min2 hc pins s σ H _ us Q I rv ⟨i, j, rfl, o.here rfl rep_int⟩
            | _ => exact bad_o e0
          | _ => exact bad_o e0
        | _ => first | exact bad_o e0 | (cases d <;> exact bad_o e0)
      | cons e2 ds => cases f <;> first | exact bad_o e0 | (cases d <;> exact bad_o e0) | (cases d <;> cases e <;> exact bad_o e0)

/-! ### isinstance -/
def tyN : Ty → String
  | .bool => "bool" | .int => "int" | .str => "str" | .tuple => "tuple" | .list => "list"
theorem sqT_ty {K : PySem.W.Frag} {H : Hp} {a : Addr} {xs : List V} (h : SqT K H a xs) : TyX K H (.ref a) (.type "tuple") := by
  rcases h with (h | ⟨o, h⟩) | ⟨o, its, n, h, hc, _⟩
  · exact .base (.tup h)
  · exact .fTuple h
  · exact .kTuple h hc
theorem lsOk_ty {K : PySem.W.Frag} {Z : Addr → Prop} {H : Hp} {a : Addr} {xs : List V} (h : LsOk Z H a xs) : TyX K H (.ref a) (.type "list") := by
  rcases h with ⟨_, h⟩ | ⟨o, h⟩
  · exact .base (.lst h)
  · exact .base (.frz h)
def tyD : D → Option String
  | .non => some "NoneType" | .bl _ => some "bool" | .int _ => some "int" | .str _ => some "str" | .tup _ => some "tuple" | .lst _ => some "list"
  | _ => none
theorem tyD_of {K : PySem.W.Frag} {W : Wd} {H : Hp} {d : D} {v : V} {n : String} (r : RepV K W H d v) (e : tyD d = some n) : TyX K H v (.type n) := by
  cases d with
  | non => cases non_of r; cases e; exact .base .non
  | bl b => cases bl_of r; cases e; exact .base (.bl b)
  | int i => cases int_of r; cases e; exact .base (.int i)
  | str s => cases str_of r; cases e; exact .base (.str s)
  | tup xs => obtain ⟨a, vs, rfl, l, _⟩ := tup_of r; cases e; exact sqT_ty l
  | lst xs => obtain ⟨a, vs, rfl, l, _⟩ := lst_of r; cases e; exact lsOk_ty l
  | _ => cases e
theorem isi_ty (t : Ty) (d : D) (b : Bool) (e : isiD t d = some b) : ∃ n, tyD d = some n ∧ kitB n (tyN t) = some b := by
  cases t <;> cases d <;> first
    | exact nomatch (show (none : Option Bool) = some b from e)
    | exact ⟨"NoneType", rfl, Eq.trans (b := some true) (by decide +kernel) e⟩
    | exact ⟨"NoneType", rfl, Eq.trans (b := some false) (by decide +kernel) e⟩
    | exact ⟨"bool", rfl, Eq.trans (b := some true) (by decide +kernel) e⟩
    | exact ⟨"bool", rfl, Eq.trans (b := some false) (by decide +kernel) e⟩
    | exact ⟨"int", rfl, Eq.trans (b := some true) (by decide +kernel) e⟩
    | exact ⟨"int", rfl, Eq.trans (b := some false) (by decide +kernel) e⟩
    | exact ⟨"str", rfl, Eq.trans (b := some true) (by decide +kernel) e⟩
    | exact ⟨"str", rfl, Eq.trans (b := some false) (by decide +kernel) e⟩
    | exact ⟨"tuple", rfl, Eq.trans (b := some true) (by decide +kernel) e⟩
    | exact ⟨"tuple", rfl, Eq.trans (b := some false) (by decide +kernel) e⟩
    | exact ⟨"list", rfl, Eq.trans (b := some true) (by decide +kernel) e⟩
    | exact ⟨"list", rfl, Eq.trans (b := some false) (by decide +kernel) e⟩
def rIsiD (K : PySem.W.Frag) (t : Ty) : List V → Hp → VK → Prop := fun vs H Q => ∃ d v W b, vs = [v, .ty (tyN t)] ∧ RepV K W H d v ∧ isiD t d = some b ∧ Q (.bl b) H
theorem cr_isi (t : Ty) : CallR X (.builtin "isinstance") (rIsiD X.K t) := by
  intro pins s σ H vs us Q I rv ⟨d, v, W, b, e, r, e1, q⟩
  obtain ⟨n, h1, h2⟩ := isi_ty t d b e1
  exact call_isi pins s σ H vs us Q I rv ⟨v, .ty (tyN t), .type n, .type (tyN t), b, e, .ty _, tyD_of r h1, kit_ty h2, q⟩
end
end PD

set_option Elab.async false
set_option linter.all false
set_option maxRecDepth 100000
set_option maxHeartbeats 4000000
/-! PD6: the tables, the context; helpers for readings; what is walked. -/
namespace PD
open PySem PySem.Spec L2

/-- a def's promise by its mirror -/
def spOf (K : PySem.W.Frag) (mg : Str → Option Value) (n : Nat) (m : List D → M D) : Sp := fun vs H Q E => ∃ W s ds, StoOk K W H s ∧ RepL K W H ds vs ∧ ds.length = n ∧ match m ds s with
  | .ok d s' => ∀ W' H' v, Frm W W' H H' → StoOk K W' H' s' → RepV K W' H' d v → Q v H'
  | .exn e s' => ∀ W' H' c dd, Frm W W' H H' → StoOk K W' H' s' → ExcOk K mg W' H' e c dd → E c dd H'
  | .bad => False
def boots : List (Str × Value) := [("len", .builtin "len"), ("isinstance", .builtin "isinstance"), ("tuple", .type "tuple"), ("list", .type "list"), ("range", .type "range"), ("any", .builtin "any"), ("all", .builtin "all"), ("zip", .type "zip"), ("sorted", .builtin "sorted"), ("sum", .builtin "sum"),
  ("int", .type "int"), ("str", .type "str"), ("min", .builtin "min"), ("enumerate", .type "enumerate"), ("bool", .type "bool")]
def veB : List Value := [.type "ValueError", .type "Exception", .type "BaseException", .type "object"]
structure TabOk (P : Program) (w : World) (K : PySem.W.Frag) (mg : Str → Option Value) (base : Heap) (k : Nat) (T : Tab) : Prop where
  fn : ∀ x m, T.fn x = some m → ∃ f fd ps, mg x = some (.ref f) ∧ PySem.W.keepIn K (.ref f) = true ∧ Binds K fd ps [] ∧ FnOk P w K mg base (L2.CX P w) k f fd ps (spOf K mg ps.length m) ∧ ∀ ds s, ds.length ≠ ps.length → m ds s = .bad
  gl : ∀ x d, T.gl x = some d → ∃ u v, mg x = some u ∧ RelV v u ∧ ∀ W H, RepV K W H d v
  bi : ∀ x v, boots.lookup x = some v → mg x = none
  exm : ∀ x h b, T.exm x h = some b → ∃ Cx Ch, mg x = some (.ref Cx) ∧ mg h = some (.ref Ch) ∧ PySem.W.exmOne K (.ref Cx) (.ref Ch) = some b
  exc : ∀ x, (T.exm x x).isSome = true → ∃ Cx, mg x = some (.ref Cx) ∧ PySem.W.excIn K Cx veB "ValueError.__new__" = true ∧ PySem.W.keepIn K (.ref Cx) = true ∧ PySem.W.subIn K (.ref Cx) (.type "BaseException") = some true ∧ PySem.W.typeIn K (.ref Cx) = some (.type "type")
structure Fit (C : Cn) (T : Tab) (N : List Str) (k : Nat) (sc : Scope) (X : Cx) : Prop where
  n : X.N = N
  nd : X.N.Nodup
  sc : X.env.scope = sc
  calm : X.calm = true
  room : Room k X.A
  takes : Takes X C.Wx
  K : X.K = C.K
  mg : X.mg = C.mg
  tab : TabOk X.prog X.w X.K X.mg X.base k T
section
variable {C : Cn} {T : Tab} {N : List Str} {k : Nat} {sc : Scope} {X : Cx}
theorem Fit.hu (F : Fit C T N k sc X) : X.A.units + 65 < cLine := by have := F.room.un; omega
end

/-! ### M's laws -/
theorem bind_bind {α β γ : Type} (m : M α) (f : α → M β) (g : β → M γ) : (m >>= f) >>= g = m >>= fun x => f x >>= g := by
  funext s
  show M.bind (M.bind m f) g s = M.bind m (fun x => M.bind (f x) g) s
  unfold M.bind
  cases m s <;> rfl
theorem pure_bind {α β : Type} (a : α) (f : α → M β) : (pure a : M α) >>= f = f a := rfl
theorem bind_pure {α : Type} (m : M α) : m >>= pure = m := by
  funext s
  show M.bind m M.pure s = m s
  unfold M.bind
  cases m s <;> rfl

/-! ### readings -/
theorem wkE {X : Cx} {e : Expr} {t t' : TE} (h : PE X e t) (w : ∀ σ H Q, t' σ H Q → t σ H Q) : PE X e t' := ⟨fun pins s σ H Q I q => h.run pins s σ H Q I (w σ H Q q)⟩
theorem wkT {X : Cx} {e : Expr} {t t' : TT} (h : PT X e t) (w : ∀ σ H Q, t' σ H Q → t σ H Q) : PT X e t' := ⟨fun pins s σ H Q I q => h.run pins s σ H Q I (w σ H Q q)⟩
theorem wkW {X : Cx} {e : Expr} {t t' : TT} (h : PW X e t) (w : ∀ σ H Q, t' σ H Q → t σ H Q) : PW X e t' := ⟨fun wh pins s σ H Q I q => h.run wh pins s σ H Q I (w σ H Q q)⟩
theorem wkA {X : Cx} {e : List Expr} {t t' : TA} (h : PA X e t) (w : ∀ σ H Q, t' σ H Q → t σ H Q) : PA X e t' := ⟨fun pos pins s σ H Q I q => h.run pos pins s σ H Q I (w σ H Q q)⟩
theorem wkS {X : Cx} {e : Stmt} {t t' : TS} (h : PS X e t) (w : ∀ D σ H, t' D σ H → t D σ H) : PS X e t' := ⟨fun pins s σ H D I q => h.run pins s σ H D I (w D σ H q)⟩
theorem wkSs {X : Cx} {e : List Stmt} {t t' : TS} (h : PSs X e t) (w : ∀ D σ H, t' D σ H → t D σ H) : PSs X e t' := ⟨fun pins s σ H D I q => h.run pins s σ H D I (w D σ H q)⟩
section
variable {α β γ δ : Type} {C : Cn} {ρ : Env'} {W : Wd} {σ : L2.St} {H : Hp} {s : Sto}
theorem Run.bindE {m : M D} {f : D → M γ} {R : Wd → Hp → γ → δ → Prop} {Q : δ → Hp → Prop} (h : Run C ρ W σ H ((m >>= f) s) R Q) :
    Run C ρ W σ H (m s) (RepV C.K) fun v H1 => ∃ W1 d s1, SR C W1 H1 ρ σ s1 ∧ Frm W W1 H H1 ∧ RepV C.K W1 H1 d v ∧ Run C ρ W1 σ H1 (f d s1) R Q := Run.bind h
theorem Run.bindL {m : M (List D)} {f : List D → M γ} {R : Wd → Hp → γ → δ → Prop} {Q : δ → Hp → Prop} (h : Run C ρ W σ H ((m >>= f) s) R Q) :
    Run C ρ W σ H (m s) (RepL C.K) fun v H1 => ∃ W1 d s1, SR C W1 H1 ρ σ s1 ∧ Frm W W1 H H1 ∧ RepL C.K W1 H1 d v ∧ Run C ρ W1 σ H1 (f d s1) R Q := Run.bind h
theorem Run.bindB {m : M Bool} {f : Bool → M γ} {R : Wd → Hp → γ → δ → Prop} {Q : δ → Hp → Prop} (h : Run C ρ W σ H ((m >>= f) s) R Q) :
    Run C ρ W σ H (m s) (fun _ _ a b => a = b) fun b H1 => ∃ W1 s1, SR C W1 H1 ρ σ s1 ∧ Frm W W1 H H1 ∧ Run C ρ W1 σ H1 (f b s1) R Q :=
  (Run.bind (R1 := fun _ _ a b => a = b) h).imp fun b H1 ⟨W1, a, s1, x, y, z, q⟩ => by subst z; exact ⟨W1, s1, x, y, q⟩
theorem Run.opt {o : Option α} {f : α → M γ} {R : Wd → Hp → γ → δ → Prop} {Q : δ → Hp → Prop} (h : Run C ρ W σ H ((optM o >>= f) s) R Q) : ∃ a, o = some a ∧ Run C ρ W σ H (f a s) R Q := by
  cases o with
  | none => exact h.elim
  | some a => exact ⟨a, rfl, h⟩
theorem Run.chk {b : Bool} {m : M γ} {R : Wd → Hp → γ → δ → Prop} {Q : δ → Hp → Prop} (h : Run C ρ W σ H (PD.chk b m s) R Q) : b = true ∧ Run C ρ W σ H (m s) R Q := by
  cases b with
  | false => exact h.elim
  | true => exact ⟨rfl, h⟩
theorem Run.out {o : Option D} {Q : V → Hp → Prop} (h : Run C ρ W σ H (optM o s) (RepV C.K) Q) (sr : SR C W H ρ σ s) : Out C.K W H o Q := by
  cases o with
  | none => exact h.elim
  | some d => exact ⟨d, rfl, fun W' H' v a r => h W' H' v (sr.alloc a) a.fr r⟩
theorem Run.val {d : D} {Q : V → Hp → Prop} (h : Run C ρ W σ H ((pure d : M D) s) (RepV C.K) Q) (sr : SR C W H ρ σ s) : Out C.K W H (some d) Q := Run.out (o := some d) h sr
theorem Run.pur {a : α} {b : β} {R : Wd → Hp → α → β → Prop} {Q : β → Hp → Prop} (h : Run C ρ W σ H ((pure a : M α) s) R Q) (sr : SR C W H ρ σ s) (r : R W H a b) : Q b H := h W H b sr (Frm.refl W H) r
theorem Run.rel {a : α} {b : β} {W' : Wd} {H' : Hp} {s' : Sto} {R : Wd → Hp → α → β → Prop} {Q : β → Hp → Prop} (h : Run C ρ W σ H (.ok a s') R Q) (sr : SR C W' H' ρ σ s') (f : Frm W W' H H') (r : R W' H' a b) : Q b H' := h W' H' b sr f r
/-- nothing may leave: the wish does not matter -/
def Cn.calm0 (C : Cn) : Cn := { C with Wx := fun _ _ _ _ => False }
theorem SR.calm0 {W : Wd} {H : Hp} (h : SR C W H ρ σ s) : SR C.calm0 W H ρ σ s := ⟨h.fr, h.sto, ⟨h.env.len, h.env.val, h.env.own, h.env.sep⟩⟩
theorem SR.uncalm {W : Wd} {H : Hp} (h : SR C.calm0 W H ρ σ s) : SR C W H ρ σ s := ⟨h.fr, h.sto, ⟨h.env.len, h.env.val, h.env.own, h.env.sep⟩⟩
theorem noExn_ok {m : M α} {a : α} {s' : Sto} (h : noExn m s = .ok a s') : m s = .ok a s' := by
  unfold noExn at h
  cases q : m s with
  | ok b s1 => rw [q] at h; exact h
  | exn e s1 => rw [q] at h; cases h
  | bad => rw [q] at h; cases h
end

/-! ### what is walked: the data xs by the iterator J, as long as it stays -/
structure WalkR (K : PySem.W.Frag) (W : Wd) (H : Hp) (xs : List D) (J : It) : Prop where
  go : ∀ i W1 H1, Ext W W1 H H1 → i < xs.length → J.go i H1
  stop : ∀ W1 H1, Ext W W1 H H1 → J.stop xs.length H1
  yld : ∀ i W1 H1 x H2 d, Ext W W1 H H1 → J.yld i H1 x H2 → xs[i]? = some d → ∃ W2, Alloc W1 W2 H1 H2 ∧ RepV K W2 H2 d x
theorem WalkR.mono {K : PySem.W.Frag} {W W' : Wd} {H H' : Hp} {xs : List D} {J : It} (w : WalkR K W H xs J) (e : Ext W W' H H') : WalkR K W' H' xs J :=
  ⟨fun i W1 H1 f hi => w.go i W1 H1 (e.trans f) hi, fun W1 H1 f => w.stop W1 H1 (e.trans f), fun i W1 H1 x H2 d f y hd => w.yld i W1 H1 x H2 d (e.trans f) y hd⟩
theorem rd_inj {K : PySem.W.Frag} {H : Hp} {a : Addr} {xs : List V} (h : Rd H a (.lst xs)) : ∃ ys, SqL K H a ys ∧ ys = xs := ⟨xs, .inl h, rfl⟩
section
variable {K : PySem.W.Frag} {W : Wd} {H : Hp} {xs : List D} {vs : List V} {a : Addr}
theorem walkR_list (l : LsOk W.Z H a vs) (r : RepL K W H xs vs) : WalkR K W H xs (Itl K a) := by
  refine ⟨fun i W1 H1 e hi => ?_, fun W1 H1 e => ?_, fun i W1 H1 x H2 d e y hd => ?_⟩
  · have q : SqL K H1 a vs := (l.mono e).sq
    have hi2 : i < vs.length := by rw [r.length]; exact hi
    exact ⟨vs, vs[i], q, List.getElem?_eq_getElem hi2⟩
  · exact ⟨vs, (l.mono e).sq, by rw [r.length]; exact Nat.le_refl _⟩
  · obtain ⟨e2, hx⟩ := y
    subst e2
    obtain ⟨v, h1, h2⟩ := r.get hd
    have h3 := hx vs (l.mono e).sq
    rw [h1] at h3
    cases h3
    exact ⟨W1, Alloc.refl _ _, h2.mono e⟩
theorem walkR_tup (l : SqT K H a vs) (r : RepL K W H xs vs) : WalkR K W H xs (Itt K a) := by
  refine ⟨fun i W1 H1 e hi => ?_, fun W1 H1 e => ?_, fun i W1 H1 x H2 d e y hd => ?_⟩
  · have q : SqT K H1 a vs := sqT_mono e.tup e.frz l
    have hi2 : i < vs.length := by rw [r.length]; exact hi
    exact ⟨vs, vs[i], q, List.getElem?_eq_getElem hi2⟩
  · exact ⟨vs, sqT_mono e.tup e.frz l, by rw [r.length]; exact Nat.le_refl _⟩
  · obtain ⟨e2, hx⟩ := y
    subst e2
    obtain ⟨v, h1, h2⟩ := r.get hd
    have h3 := hx vs (sqT_mono e.tup e.frz l)
    rw [h1] at h3
    cases h3
    exact ⟨W1, Alloc.refl _ _, h2.mono e⟩
theorem rangeD_len (i j : Int) : (rangeD i j).length = (j - i).toNat := by unfold rangeD; rw [List.length_map, List.length_range]
theorem rangeD_get {i j : Int} {n : Nat} {d : D} (h : (rangeD i j)[n]? = some d) : d = .int (i + (n : Nat)) := by
  unfold rangeD at h
  rw [List.getElem?_map] at h
  obtain ⟨m, h1, h2⟩ := Option.map_eq_some_iff.mp h
  obtain ⟨h3, h4⟩ := List.getElem?_eq_some_iff.mp h1
  rw [List.getElem_range] at h4
  subst h4
  exact h2.symm
theorem walkR_range (i j : Int) : WalkR K W H (rangeD i j) (Itr i (j - i).toNat) := by
  refine ⟨fun n W1 H1 e hi => by rw [rangeD_len] at hi; exact hi, fun W1 H1 e => by rw [rangeD_len]; exact Nat.le_refl _, fun n W1 H1 x H2 d e y hd => ?_⟩
  obtain ⟨e2, hx⟩ := y
  subst e2
  rw [hx, rangeD_get hd]
  exact ⟨W1, Alloc.refl _ _, rep_int⟩
end
/-- an iterator's reading -/
def iG (C : Cn) (m : Env' → M (List D)) : TI := fun σ H R => ∃ ρ s W, SR C W H ρ σ s ∧ Run C ρ W σ H (m ρ s) (WalkR C.K) R
section
variable {X : Cx} {tg : Expr}
theorem it_list {pins : List (Addr × Obj)} {σ : L2.St} {H : Hp} {s : Shared} {R : It → Hp → Prop} {E : Value → Shared → Prop} {a : Addr} {xs : List V} (I : Inv X pins σ H s) (hq : SqL X.K H a xs) (q : R (Itl X.K a) H) : wpAny (model X.prog X.w) X.A (pyIter (.ref a)) (PIE X pins σ tg R) E s := by
  obtain ⟨its, rv, p, hz⟩ := I.list hq
  refine wpAny_pyIter_list p.isList ?_
  refine ⟨s.heap.objs.size, [s.heap.objs.size], _, _, H, rfl, I.kept (t' := s.toks) fun b o e => Heap.get?_push_of_some _ e, turn_list a _, ⟨_, Heap.get?_push_size _ rfl, rfl, rfl⟩, fun b hb => ?_, q⟩
  have e : b = s.heap.objs.size := by simpa using hb
  subst e
  exact I.fpOk (Nat.le_refl _) (I.hok.fresh (Nat.le_refl _))
theorem it_tup {pins : List (Addr × Obj)} {σ : L2.St} {H : Hp} {s : Shared} {R : It → Hp → Prop} {E : Value → Shared → Prop} {a : Addr} {xs : List V} (I : Inv X pins σ H s) (hq : SqT X.K H a xs) (q : R (Itt X.K a) H) : wpAny (model X.prog X.w) X.A (pyIter (.ref a)) (PIE X pins σ tg R) E s := by
  obtain ⟨its, rv, p, hz⟩ := I.tuple hq
  refine wpAny_pyIter_tuple (show s.heap.IsTuple a its.toArray from p) ?_
  refine ⟨s.heap.objs.size, [s.heap.objs.size], _, _, H, rfl, I.kept (t' := s.toks) fun b o e => Heap.get?_push_of_some _ e, turn_tuple a _, ⟨_, Heap.get?_push_size _ rfl, rfl, rfl⟩, fun b hb => ?_, q⟩
  have e : b = s.heap.objs.size := by simpa using hb
  subst e
  exact I.fpOk (Nat.le_refl _) (I.hok.fresh (Nat.le_refl _))
theorem wkI {iter : Expr} {t t' : TI} (h : PI X tg iter t) (w : ∀ σ H R, t' σ H R → t σ H R) : PI X tg iter t' := ⟨fun pins s σ H R I q => h.run pins s σ H R I (w σ H R q)⟩
theorem pi_val {C : Cn} {m : Env' → M D} {l : Expr} (hK : X.K = C.K) (hl : PE X l (tE C m)) : PI X tg l (iG C fun ρ => itemsM (m ρ)) := by
  refine ⟨fun pins s σ H R I h => ?_⟩
  obtain ⟨ρ, st, W, sr, h⟩ := h
  refine thn (hl.run pins s σ H _ I ⟨ρ, st, W, sr, Run.bindE h⟩) fun v s1 ⟨x, H1, I1, r1, W1, d, st1, sr1, f1, rd, h1⟩ => ?_
  cases d with
  | lst xs =>
    obtain ⟨a, vs, rfl, l, rl⟩ := lst_of rd
    cases r1
    refine it_list I1 l.sq (h1 W1 H1 _ sr1 (Frm.refl _ _) ?_)
    rw [hK]
    exact walkR_list l rl
  | tup xs =>
    obtain ⟨a, vs, rfl, l, rl⟩ := tup_of rd
    cases r1
    refine it_tup I1 (by rw [hK]; exact l) (h1 W1 H1 _ sr1 (Frm.refl _ _) ?_)
    rw [hK]
    exact walkR_tup l rl
  | _ => exact h1.elim
end
end PD

set_option Elab.async false
set_option linter.all false
set_option maxRecDepth 100000
set_option maxHeartbeats 4000000
/-! PD7: names bound, lists frozen; one comprehension. -/
namespace PD
open PySem PySem.Spec L2

/-! ### binding names -/
theorem bindTs_agree : ∀ (is : List Nat) (ds : List D) (ρ ρ0 : Env'), (∀ j, j ∉ is → ρ[j]? = ρ0[j]?) → ρ.length = ρ0.length → bindTs is ds ρ = bindTs is ds ρ0
  | [], [], ρ, ρ0, h, hl => by
    have e : ρ = ρ0 := List.ext_getElem? fun j => h j (by simp)
    rw [e]
  | [], _ :: _, ρ, ρ0, h, hl => rfl
  | _ :: _, [], ρ, ρ0, h, hl => rfl
  | i :: is, d :: ds, ρ, ρ0, h, hl => by
    show bindTs is ds (setV ρ i d) = bindTs is ds (setV ρ0 i d)
    refine bindTs_agree is ds _ _ (fun j hj => ?_) (by unfold setV; rw [List.length_set, List.length_set]; exact hl)
    unfold setV
    by_cases hji : j = i
    · subst hji
      rw [List.getElem?_set, List.getElem?_set, hl, if_pos rfl, if_pos rfl]
    · rw [List.getElem?_set_ne (Ne.symm hji), List.getElem?_set_ne (Ne.symm hji)]
      exact h j (by simp only [List.mem_cons, not_or]; exact ⟨hji, hj⟩)
theorem wipe'_len (ρ : Env') : ∀ vs, (wipe' ρ vs).length = ρ.length
  | [] => rfl
  | v :: vs => by unfold wipe'; rw [List.length_set, wipe'_len ρ vs]
theorem wipe'_some {ρ : Env'} {i : Nat} {x : Ov} : ∀ {vs : List Nat}, (wipe' ρ vs)[i]? = some (some x) → ρ[i]? = some (some x) ∧ i ∉ vs
  | [], h => ⟨h, by simp⟩
  | v :: vs, h => by
    unfold wipe' at h
    by_cases hi : v = i
    · subst hi
      by_cases hv : v < (wipe' ρ vs).length
      · rw [List.getElem?_set_self hv] at h; cases h
      · rw [List.getElem?_eq_none (by simpa using hv)] at h; cases h
    · rw [List.getElem?_set_ne hi] at h
      obtain ⟨h1, h2⟩ := wipe'_some h
      exact ⟨h1, by simp only [List.mem_cons, not_or]; exact ⟨fun e => hi e.symm, h2⟩⟩
theorem wipe'_out {ρ : Env'} {i : Nat} : ∀ {vs : List Nat}, i ∉ vs → (wipe' ρ vs)[i]? = ρ[i]?
  | [], _ => rfl
  | v :: vs, h => by
    have h1 : i ≠ v := fun e => h (by simp [e])
    have h2 : i ∉ vs := fun e => h (by simp [e])
    unfold wipe'
    rw [List.getElem?_set_ne (Ne.symm h1), wipe'_out h2]
theorem wipe_out' {σ : L2.St} {i : Nat} : ∀ {vs : List Nat}, i ∉ vs → (wipe σ vs)[i]? = σ[i]?
  | [], _ => rfl
  | v :: vs, h => by
    have h1 : i ≠ v := fun e => h (by simp [e])
    have h2 : i ∉ vs := fun e => h (by simp [e])
    unfold wipe
    rw [List.getElem?_set_ne (Ne.symm h1), wipe_out' h2]
section
variable {C : Cn} {W : Wd} {H : Hp} {ρ : Env'} {σ : L2.St} {s : Sto}
theorem EnvOk.wipe (h : EnvOk C W H ρ σ) (vs : List Nat) : EnvOk C W H (wipe' ρ vs) (L2.wipe σ vs) := by
  refine ⟨by rw [wipe'_len, wipe_length]; exact h.len, fun i d e => ?_, fun i xs e => ?_, fun i j xs ys a hij e1 e2 e3 => ?_⟩
  · obtain ⟨e1, hi⟩ := wipe'_some e
    rw [wipe_out' hi]
    exact h.val i d e1
  · obtain ⟨e1, hi⟩ := wipe'_some e
    rw [wipe_out' hi]
    exact h.own i xs e1
  · obtain ⟨e1, hi⟩ := wipe'_some e1
    obtain ⟨e2, hj⟩ := wipe'_some e2
    rw [wipe_out' hi] at e3
    rw [wipe_out' hj]
    exact h.sep i j xs ys a hij e1 e2 e3
theorem EnvOk.setV (h : EnvOk C W H ρ σ) {i : Nat} {d : D} {v : V} (r : RepV C.K W H d v) : EnvOk C W H (PD.setV ρ i d) (σ.set i (some v)) := by
  have key : ∀ (j : Nat) x, (PD.setV ρ i d)[j]? = some (some x) → (j = i ∧ i < ρ.length ∧ x = .val d) ∨ (j ≠ i ∧ ρ[j]? = some (some x)) := fun j x e => by
    unfold PD.setV at e
    by_cases hj : j = i
    · subst hj
      by_cases hl : j < ρ.length
      · rw [List.getElem?_set_self hl] at e
        cases e
        exact .inl ⟨rfl, hl, rfl⟩
      · rw [List.getElem?_eq_none (by simpa using hl)] at e
        cases e
    · rw [List.getElem?_set_ne (Ne.symm hj)] at e
      exact .inr ⟨hj, e⟩
  refine ⟨by unfold PD.setV; rw [List.length_set, List.length_set]; exact h.len, fun j d' e => ?_, fun j xs e => ?_, fun j k xs ys a hij e1 e2 e3 => ?_⟩
  · rcases key j _ e with ⟨hj, hl, e'⟩ | ⟨hj, e'⟩
    · subst hj
      cases e'
      exact ⟨v, List.getElem?_set_self (by rw [← h.len]; exact hl), r⟩
    · rw [List.getElem?_set_ne (Ne.symm hj)]
      exact h.val j d' e'
  · rcases key j _ e with ⟨hj, hl, e'⟩ | ⟨hj, e'⟩
    · cases e'
    · rw [List.getElem?_set_ne (Ne.symm hj)]
      exact h.own j xs e'
  · rcases key j _ e1 with ⟨hj, hl, e'⟩ | ⟨hj, e1'⟩
    · cases e'
    · rcases key k _ e2 with ⟨hk, hl, e'⟩ | ⟨hk, e2'⟩
      · cases e'
      · rw [List.getElem?_set_ne (Ne.symm hj)] at e3
        rw [List.getElem?_set_ne (Ne.symm hk)]
        exact h.sep j k xs ys a hij e1' e2' e3
def setAll (σ : L2.St) : List Nat → List V → L2.St
  | i :: is, v :: vs => setAll (σ.set i (some v)) is vs
  | _, _ => σ
theorem EnvOk.setAll : ∀ {is : List Nat} {ds : List D} {vs : List V} {ρ ρ' : Env'} {σ : L2.St}, EnvOk C W H ρ σ → RepL C.K W H ds vs → bindTs is ds ρ = some ρ' → EnvOk C W H ρ' (PD.setAll σ is vs)
  | [], [], vs, ρ, ρ', σ, h, r, e => by
    unfold bindTs at e
    cases e
    unfold PD.setAll
    exact h
  | [], _ :: _, vs, ρ, ρ', σ, h, r, e => by cases e
  | _ :: _, [], vs, ρ, ρ', σ, h, r, e => by cases e
  | i :: is, d :: ds, vs, ρ, ρ', σ, h, r, e => by
    unfold RepL at r
    obtain ⟨v, rr, rfl, h2, h3⟩ := r
    have e' : bindTs is ds (PD.setV ρ i d) = some ρ' := e
    show EnvOk C W H ρ' (PD.setAll (σ.set i (some v)) is rr)
    exact EnvOk.setAll (is := is) (ds := ds) (h.setV h2) h3 e'
theorem SR.env_ (h : SR C W H ρ σ s) {ρ' : Env'} {σ' : L2.St} (e : EnvOk C W H ρ' σ') : SR C W H ρ' σ' s := ⟨h.fr, h.sto, e⟩
/-- a list of one's own is frozen -/
theorem SR.freeze {D : Addr} (h : SR C W H ρ σ s) (ht : H D ≠ none) (nm : D ∉ W.mu) (n0 : C.H0 D = none) (no : ∀ (i : Nat) zs, ρ[i]? = some (some (.own zs)) → σ[i]? ≠ some (some (.ref D))) : Ext W (W.add D) H H ∧ SR C (W.add D) H ρ σ s := by
  have ex : Ext W (W.add D) H H := ⟨fun _ h => .inl h, fun _ _ _ e => e, fun _ _ e => e, fun _ _ _ e => e, fun _ _ e => e⟩
  refine ⟨ex, ⟨h.fr.ext.trans ex, h.fr.keep, fun a z => ?_, h.fr.fmu⟩, ⟨h.sto.len, h.sto.nd, fun n c a e1 e2 => (h.sto.at_ n c a e1 e2).mono ex fun _ e => e, fun a ha z => ?_, fun a z => ?_⟩, h.env.len, fun i d e => ?_, fun i zs e => ?_, h.env.sep⟩
  · rcases z with z | z
    · exact h.fr.fz a z
    · rw [z]; exact .inr n0
  · rcases z with z | z
    · exact h.sto.nz a ha z
    · exact nm (z ▸ ha)
  · rcases z with z | z
    · exact h.sto.zt a z
    · rw [z]; exact ht
  · obtain ⟨v, e1, r⟩ := h.env.val i d e
    exact ⟨v, e1, r.mono ex⟩
  · obtain ⟨a, vs, e1, e2, r, z, m, n⟩ := h.env.own i zs e
    refine ⟨a, vs, e1, e2, r.mono ex, fun q => ?_, m, n⟩
    rcases q with q | q
    · exact z q
    · exact no i zs e (q ▸ e1)
end

/-! ### targets -/
def gAll : List Nat → TGs
  | [] => gNil
  | i :: is => gCons (gName i) (gAll is)
def gOf (K : PySem.W.Frag) : Tg → TG
  | .nm i => gName i
  | .tp is => gTup K is.length (gAll is)
theorem gAll_ok : ∀ {is : List Nat} {vs : List V} {σ : L2.St} {H : Hp} {Q : L2.St → Hp → Prop}, vs.length = is.length → Q (setAll σ is vs) H → gAll is vs σ H Q
  | [], [], σ, H, Q, h, q => ⟨rfl, q⟩
  | [], _ :: _, σ, H, Q, h, q => by simp at h
  | _ :: _, [], σ, H, Q, h, q => by simp at h
  | i :: is, v :: vs, σ, H, Q, h, q => ⟨v, vs, rfl, gAll_ok (by simpa using h) q⟩
theorem bindTs_len : ∀ {is : List Nat} {ds : List D} {ρ ρ' : Env'}, bindTs is ds ρ = some ρ' → ds.length = is.length
  | [], [], _, _, _ => rfl
  | [], _ :: _, _, _, e => by cases e
  | _ :: _, [], _, _, e => by cases e
  | i :: is, d :: ds, ρ, ρ', e => by rw [List.length_cons, List.length_cons, bindTs_len (is := is) (ds := ds) e]
theorem wipe_set_self {σ : L2.St} {i : Nat} {x : Option V} : ∀ {vs : List Nat}, i ∈ vs → wipe (σ.set i x) vs = wipe σ vs
  | [], h => by simp at h
  | v :: vs, h => by
    unfold wipe
    by_cases hv : i ∈ vs
    · rw [wipe_set_self hv]
    · have e : i = v := by
        rcases List.mem_cons.mp h with e | e
        · exact e
        · exact absurd e hv
      subst e
      have key : ∀ (us : List Nat), i ∉ us → wipe (σ.set i x) us = (wipe σ us).set i x := by
        intro us
        induction us with
        | nil => intro _; rfl
        | cons u us ih =>
          intro hu
          have h1 : i ≠ u := fun e => hu (by simp [e])
          have h2 : i ∉ us := fun e => hu (by simp [e])
          unfold wipe
          rw [ih h2, List.set_comm _ _ h1]
      rw [key vs hv, List.set_set]
theorem wipe_setAll : ∀ {is : List Nat} {xs : List V} {σ : L2.St} {vs : List Nat}, (∀ i ∈ is, i ∈ vs) → wipe (setAll σ is xs) vs = wipe σ vs
  | [], _, σ, vs, h => by unfold setAll; rfl
  | _ :: _, [], σ, vs, h => by unfold setAll; rfl
  | i :: is, x :: xs, σ, vs, h => by
    show wipe (setAll (σ.set i (some x)) is xs) vs = _
    rw [wipe_setAll fun j hj => h j (by simp [hj]), wipe_set_self (h i (by simp))]
theorem wipe_wipe {σ : L2.St} : ∀ {us vs : List Nat}, (∀ i ∈ us, i ∈ vs) → wipe (wipe σ us) vs = wipe σ vs
  | [], vs, h => rfl
  | u :: us, vs, h => by
    show wipe ((wipe σ us).set u none) vs = _
    rw [wipe_set_self (h u (by simp)), wipe_wipe fun i hi => h i (by simp [hi])]
theorem setV_own {ρ : Env'} {i j : Nat} {d : D} {zs : List D} (e : (PD.setV ρ i d)[j]? = some (some (.own zs))) : ρ[j]? = some (some (.own zs)) ∧ j ≠ i := by
  unfold PD.setV at e
  by_cases hj : j = i
  · subst hj
    by_cases hl : j < ρ.length
    · rw [List.getElem?_set_self hl] at e
      cases e
    · rw [List.getElem?_eq_none (by simpa using hl)] at e
      cases e
  · rw [List.getElem?_set_ne (Ne.symm hj)] at e
    exact ⟨e, hj⟩
theorem bindTs_own : ∀ {is : List Nat} {ds : List D} {ρ ρ' : Env'} {j : Nat} {zs : List D}, bindTs is ds ρ = some ρ' → ρ'[j]? = some (some (.own zs)) → ρ[j]? = some (some (.own zs)) ∧ j ∉ is
  | [], [], ρ, ρ', j, zs, e, h => by
    unfold bindTs at e
    cases e
    exact ⟨h, by simp⟩
  | [], _ :: _, _, _, _, _, e, _ => by cases e
  | _ :: _, [], _, _, _, _, e, _ => by cases e
  | i :: is, d :: ds, ρ, ρ', j, zs, e, h => by
    obtain ⟨h1, h2⟩ := bindTs_own (is := is) (ds := ds) (show bindTs is ds (PD.setV ρ i d) = some ρ' from e) h
    obtain ⟨h3, h4⟩ := setV_own h1
    exact ⟨h3, by simp only [List.mem_cons, not_or]; exact ⟨h4, h2⟩⟩
theorem setAll_out : ∀ {is : List Nat} {vs : List V} {σ : L2.St} {j : Nat}, j ∉ is → (setAll σ is vs)[j]? = σ[j]?
  | [], _, σ, j, h => by unfold setAll; rfl
  | _ :: _, [], σ, j, h => by unfold setAll; rfl
  | i :: is, v :: vs, σ, j, h => by
    have h1 : j ≠ i := fun e => h (by simp [e])
    have h2 : j ∉ is := fun e => h (by simp [e])
    show (setAll (σ.set i (some v)) is vs)[j]? = _
    rw [setAll_out h2, List.getElem?_set_ne (Ne.symm h1)]
/-- the target of a comprehension is bound -/
theorem bind_wiped {C : Cn} {W : Wd} {H : Hp} {ρ ρ' : Env'} {σ σ0 : L2.St} {s : Sto} {tg : Tg} {d : D} {x : V} {Q : L2.St → Hp → Prop} (sr : SR C W H ρ σ s) (hσ : σ0 = wipe σ (tgS tg)) (r : RepV C.K W H d x) (e : bindT tg d ρ = some ρ')
    (q : ∀ σ2, wipe σ2 (tgS tg) = wipe σ0 (tgS tg) → SR C W H ρ' σ2 s → (∀ (i : Nat) zs, ρ'[i]? = some (some (.own zs)) → ρ[i]? = some (some (.own zs)) ∧ σ2[i]? = σ[i]?) → Q σ2 H) : gOf C.K tg x σ0 H Q := by
  have base : EnvOk C W H (wipe' ρ (tgS tg)) σ0 := by rw [hσ]; exact sr.env.wipe _
  cases tg with
  | nm i =>
    have e' : setV ρ i d = ρ' := Option.some.inj e
    have e2 : setV (wipe' ρ [i]) i d = setV ρ i d := by
      unfold setV wipe' wipe'
      rw [List.set_set]
    refine q (σ0.set i (some x)) (wipe_set_self (by simp [tgS])) (sr.env_ ?_) fun j zs ej => ?_
    · have h := base.setV (i := i) r
      rw [show (tgS (.nm i)) = [i] from rfl, e2, e'] at h
      exact h
    · rw [← e'] at ej
      obtain ⟨h1, h2⟩ := setV_own ej
      refine ⟨h1, ?_⟩
      rw [List.getElem?_set_ne (Ne.symm h2), hσ]
      exact wipe_out' (by simpa [tgS] using h2)
  | tp is =>
    cases d with
    | tup ds =>
      obtain ⟨a, vs, rfl, l, rl⟩ := tup_of r
      have e' : bindTs is ds ρ = some ρ' := e
      have hl := bindTs_len e'
      have e2 : bindTs is ds (wipe' ρ is) = some ρ' := by
        rw [← e']
        exact (bindTs_agree is ds ρ (wipe' ρ is) (fun j hj => (wipe'_out hj).symm) (wipe'_len ρ is).symm).symm
      refine ⟨a, vs, rfl, l, by rw [rl.length, hl], gAll_ok (by rw [rl.length, hl]) (q (setAll σ0 is vs) (wipe_setAll fun i hi => hi) (sr.env_ (base.setAll rl e2)) fun j zs ej => ?_)⟩
      obtain ⟨h1, h2⟩ := bindTs_own e' ej
      exact ⟨h1, by rw [setAll_out h2, hσ]; exact wipe_out' h2⟩
    | _ => cases e
/-- a plain assignment's target is bound -/
theorem bind_plain {C : Cn} {W : Wd} {H : Hp} {ρ ρ' : Env'} {σ : L2.St} {s : Sto} {tg : Tg} {d : D} {x : V} {Q : L2.St → Hp → Prop} (sr : SR C W H ρ σ s) (r : RepV C.K W H d x) (e : bindT tg d ρ = some ρ')
    (q : ∀ σ2, SR C W H ρ' σ2 s → Q σ2 H) : gOf C.K tg x σ H Q := by
  cases tg with
  | nm i =>
    have e' : setV ρ i d = ρ' := Option.some.inj e
    refine q (σ.set i (some x)) (sr.env_ ?_)
    rw [← e']
    exact sr.env.setV r
  | tp is =>
    cases d with
    | tup ds =>
      obtain ⟨a, vs, rfl, l, rl⟩ := tup_of r
      have e' : bindTs is ds ρ = some ρ' := e
      have hl := bindTs_len e'
      exact ⟨a, vs, rfl, l, by rw [rl.length, hl], gAll_ok (by rw [rl.length, hl]) (q (setAll σ is vs) (sr.env_ (sr.env.setAll rl e')))⟩
    | _ => cases e

/-! ### a comprehension -/
theorem ok_bind {α β : Type} {m : M α} {f : α → M β} {s s2 : Sto} {b : β} (h : (m >>= f) s = .ok b s2) : ∃ a s1, m s = .ok a s1 ∧ f a s1 = .ok b s2 := by
  have e : (m >>= f) s = M.bind m f s := rfl
  rw [e] at h
  unfold M.bind at h
  cases q : m s with
  | ok a s1 => rw [q] at h; exact ⟨a, s1, rfl, h⟩
  | exn x s1 => rw [q] at h; cases h
  | bad => rw [q] at h; cases h
theorem ok_opt {α : Type} {o : Option α} {a : α} {s s2 : Sto} (h : (optM o : M α) s = .ok a s2) : o = some a ∧ s = s2 := by
  cases o with
  | none => cases h
  | some b =>
    have h' : Res.ok b s = .ok a s2 := h
    cases h'
    exact ⟨rfl, rfl⟩
theorem ok_pure {α : Type} {a b : α} {s s2 : Sto} (h : (pure a : M α) s = .ok b s2) : a = b ∧ s = s2 := by
  have h' : Res.ok a s = .ok b s2 := h
  cases h'
  exact ⟨rfl, rfl⟩
/-- what stands while the new list at D grows: Wc, Hc at its start -/
structure Grow (C : Cn) (Wc : Wd) (Hc : Hp) (ρ : Env') (σ : L2.St) (D : Addr) (ys : List PD.D) (W : Wd) (H : Hp) (s : Sto) (n : Nat) : Prop where
  at_ : ∃ acc, H D = some (.lst acc) ∧ RepL C.K W H ys acc ∧ acc.length ≤ n
  sr : SR C W H ρ σ s
  fr : Frm Wc W Hc H
  nz : ¬ W.Z D
  nm : D ∉ W.mu
  new : Hc D = none
  n0 : C.H0 D = none
  no : ∀ (i : Nat) zs, ρ[i]? = some (some (.own zs)) → σ[i]? ≠ some (some (.ref D))
section
variable {C : Cn} {W Wc : Wd} {H Hc : Hp} {ρ : Env'} {σ : L2.St} {s : Sto} {D : Addr} {ys : List PD.D} {n : Nat}
theorem Grow.start (sr : SR C Wc Hc ρ σ s) (hD : Hc D = none) : Grow C Wc Hc ρ σ D [] Wc (upd Hc D (.lst [])) s 0 := by
  have a := Alloc.new0 Wc Hc (o := .lst []) hD
  refine ⟨⟨[], upd_same, .nil, Nat.le_refl _⟩, sr.alloc a, a.fr, fun z => sr.sto.zt D z hD, fun m => sr.sto.some D m hD, hD, ?_, fun i zs e q => ?_⟩
  · exact sr.fr.back (fun b hb => sr.sto.some b (sr.fr.ext.mu_mem hb)) hD
  · obtain ⟨a, vs, e1, e2, _⟩ := sr.env.own i zs e
    rw [q] at e1
    cases e1
    rw [hD] at e2
    cases e2
end
end PD

set_option Elab.async false
set_option linter.all false
set_option maxRecDepth 100000
set_option maxHeartbeats 4000000
/-! PD8: comprehensions. -/
namespace PD
open PySem PySem.Spec L2

section
variable {C : Cn} {W Wc : Wd} {H Hc : Hp} {ρ : Env'} {σ : L2.St} {s : Sto} {D : Addr} {ys : List PD.D} {n : Nat}
/-- something ran meanwhile -/
theorem Grow.step {W' : Wd} {H' : Hp} {s' : Sto} (g : Grow C Wc Hc ρ σ D ys W H s n) (f : Frm W W' H H') (st : StoOk C.K W' H' s') : Grow C Wc Hc ρ σ D ys W' H' s' n := by
  obtain ⟨acc, h1, h2, h3⟩ := g.at_
  refine ⟨⟨acc, f.keep D _ h1 g.nm, h2.mono f.ext, h3⟩, g.sr.step f st, g.fr.trans f g.sr.sto.some, fun z => ?_, fun m => ?_, g.new, g.n0, g.no⟩
  · rcases f.fz D z with q | q
    · exact g.nz q
    · rw [q] at h1; cases h1
  · rcases f.fmu D m with q | q
    · exact g.nm q
    · rw [q] at h1; cases h1
/-- one more item -/
theorem Grow.push {y : PD.D} {v : V} {acc : List V} (g : Grow C Wc Hc ρ σ D ys W H s n) (ha : H D = some (.lst acc)) (r : RepV C.K W H y v) : Grow C Wc Hc ρ σ D (ys ++ [y]) W (upd H D (.lst (acc ++ [v]))) s (n + 1) := by
  obtain ⟨acc', h1, h2, h3⟩ := g.at_
  rw [ha] at h1
  cases h1
  obtain ⟨ex, sr'⟩ := g.sr.turn (ys := acc ++ [v]) ha g.nz g.nm g.n0 g.no
  refine ⟨⟨acc ++ [v], upd_same, (h2.append (.cons r .nil)).mono ex, by rw [List.length_append]; simpa using h3⟩, sr', ⟨g.fr.ext.trans ex, fun a o e ha' => ?_, g.fr.fz, g.fr.fmu⟩, g.nz, g.nm, g.new, g.n0, g.no⟩
  rw [upd_ne (ne_of_none e g.new)]
  exact g.fr.keep a o e ha'
theorem Grow.more (g : Grow C Wc Hc ρ σ D ys W H s n) : Grow C Wc Hc ρ σ D ys W H s (n + 1) := by
  obtain ⟨acc, h1, h2, h3⟩ := g.at_
  exact ⟨⟨acc, h1, h2, by omega⟩, g.sr, g.fr, g.nz, g.nm, g.new, g.n0, g.no⟩
/-- the list is done -/
theorem Grow.done (g : Grow C Wc Hc ρ σ D ys W H s n) : ∃ W', SR C W' H ρ σ s ∧ Frm Wc W' Hc H ∧ RepV C.K W' H (.lst ys) (.ref D) := by
  obtain ⟨acc, h1, h2, h3⟩ := g.at_
  obtain ⟨ex, sr'⟩ := g.sr.freeze (by rw [h1]; exact fun z => nomatch z) g.nm g.n0 g.no
  refine ⟨W.add D, sr', ⟨g.fr.ext.trans ex, g.fr.keep, fun a z => ?_, g.fr.fmu⟩, ?_⟩
  · rcases z with z | z
    · exact g.fr.fz a z
    · rw [z]; exact .inr g.new
  · unfold RepV
    exact ⟨D, acc, rfl, .inl ⟨.inr rfl, h1⟩, h2.mono ex⟩
end
/-- a test's reading follows its mirror -/
def RdT (C : Cn) (m : Env' → M Bool) (t : TT) : Prop := ∀ ρ W σ H s Q, SR C W H ρ σ s → Run C ρ W σ H (m ρ s) (fun _ _ a b => a = b) Q → t σ H Q
theorem RdT.of {C : Cn} {m : Env' → M Bool} : RdT C m (tTt C m) := fun ρ W σ H s Q sr h => ⟨ρ, s, W, sr, h⟩
theorem RdT.yes {C : Cn} : RdT C (fun _ => pure true) tYes := fun ρ W σ H s Q sr h => h W H true sr (Frm.refl _ _) rfl
theorem noExn_cases {α β : Type} {C : Cn} {ρ : Env'} {W : Wd} {σ : L2.St} {H : Hp} {m : M (List PD.D)} {f : List PD.D → M α} {s : Sto} {R : Wd → Hp → α → β → Prop} {Q : β → Hp → Prop} (h : Run C ρ W σ H ((noExn m >>= f) s) R Q) :
    ∃ ys s2, m s = .ok ys s2 ∧ Run C ρ W σ H (f ys s2) R Q := by
  have e : (noExn m >>= f) s = M.bind (noExn m) f s := rfl
  rw [e] at h
  unfold M.bind noExn at h
  cases q : m s with
  | ok ys s2 => rw [q] at h; exact ⟨ys, s2, rfl, h⟩
  | exn x s2 => rw [q] at h; exact h.elim
  | bad => rw [q] at h; exact h.elim
theorem lc_reading {C : Cn} {tg : Tg} {mi : Env' → M (List PD.D)} {mt : Env' → M Bool} {me : Env' → M PD.D} {tt : TT} {σ : L2.St} {H : Hp} {Q : VK} (ht : RdT C.calm0 mt tt) (h : tE C (lcE tg mi mt me) σ H Q) :
    tLc (iG C mi) (gOf C.K tg) tt (tE C.calm0 me) (tgS tg) σ H Q := by
  obtain ⟨ρ, s, W, sr, h⟩ := h
  refine ⟨ρ, s, W, sr, (Run.bind h).imp fun J H1 ⟨W1, xs, s1, sr1, f1, wk, h1⟩ => ?_⟩
  intro D hD
  obtain ⟨ys, s2, e2, h2⟩ := noExn_cases h1
  obtain ⟨hz, h3⟩ := h2.chk
  have hz : xs.length ≤ line := of_decide_eq_true hz
  refine ⟨fun i m Hx => m = xs.length - i ∧ i ≤ xs.length ∧ ∃ Wx st ys1 ys2, Grow C W1 H1 ρ σ D ys1 Wx Hx st i ∧ lcM (lcF tg mt me ρ) (xs.drop i) st = .ok ys2 s2 ∧ ys = ys1 ++ ys2, ⟨xs.length, by omega, Nat.zero_le _, W1, s1, [], ys, Grow.start sr1 hD, e2, rfl⟩, ?_⟩
  rintro i m Hx ⟨rfl, hi, Wx, st, ys1, ys2, g, e, ey⟩
  by_cases hlt : i < xs.length
  · refine .inr ⟨wk.go i Wx Hx g.fr.ext hlt, fun H' => ∃ Wx st ys1 ys2, Grow C W1 H1 ρ σ D ys1 Wx H' st (i + 1) ∧ lcM (lcF tg mt me ρ) (xs.drop (i + 1)) st = .ok ys2 s2 ∧ ys = ys1 ++ ys2, fun H' ⟨a, b, c, d, q1, q2, q3⟩ => ⟨xs.length - (i + 1), by omega, rfl, hlt, a, b, c, d, q1, q2, q3⟩, fun x H' y => ?_⟩
    have hd : xs[i]? = some xs[i] := List.getElem?_eq_getElem hlt
    obtain ⟨W2, al, rx⟩ := wk.yld i Wx Hx x H' xs[i] g.fr.ext y hd
    have g2 : Grow C W1 H1 ρ σ D ys1 W2 H' st i := g.step al.fr (g.sr.alloc al).sto
    rw [List.drop_eq_getElem_cons hlt] at e
    obtain ⟨o, st1, e3, e4⟩ := ok_bind (show (lcF tg mt me ρ xs[i] >>= fun y => lcM (lcF tg mt me ρ) (xs.drop (i + 1)) >>= fun ys => pure (match y with
      | some v => v :: ys
      | none => ys)) st = .ok ys2 s2 from e)
    obtain ⟨ys3, st2, e5, e6⟩ := ok_bind e4
    obtain ⟨f6, e7⟩ := ok_pure e6
    subst e7
    obtain ⟨ρ', st3, e8, e9⟩ := ok_bind e3
    obtain ⟨e8', e10⟩ := ok_opt e8
    subst e10
    obtain ⟨b, st4, e11, e12⟩ := ok_bind e9
    refine bind_wiped (C := C.calm0) (g2.sr.calm0) rfl rx e8' fun σ2 hw sr2 _ => ⟨?_, ?_⟩
    · rw [hw]
      exact wipe_wipe fun i hi => hi
    · refine ht ρ' W2 σ2 H' st _ sr2 ?_
      rw [e11]
      intro W3 H3 b' sr3 f3 eb
      subst eb
      have g3 := g2.step f3 sr3.sto
      cases b with
      | false =>
        rw [if_neg Bool.false_ne_true] at e12 ⊢
        obtain ⟨e16, e17⟩ := ok_pure e12
        subst e16 e17
        exact ⟨W3, st4, ys1, ys3, g3.more, e5, by rw [ey, ← f6]⟩
      | true =>
        rw [if_pos rfl] at e12 ⊢
        obtain ⟨y', st5, e13, e14⟩ := ok_bind e12
        obtain ⟨e16, e17⟩ := ok_pure e14
        subst e16 e17
        refine ⟨ρ', st4, W3, sr3, ?_⟩
        rw [e13]
        intro W4 H4 v sr4 f4 rv
        have g4 := g3.step f4 sr4.sto
        obtain ⟨acc, h41, h42, h43⟩ := g4.at_
        refine ⟨acc, h41, ?_, W4, st5, ys1 ++ [y'], ys3, g4.push h41 rv, e5, by rw [ey, ← f6, List.append_assoc]; rfl⟩
        rw [← line_eq]
        omega
  · have ei : i = xs.length := by omega
    refine .inl ⟨by rw [ei]; exact wk.stop Wx Hx g.fr.ext, ?_⟩
    rw [ei, List.drop_length] at e
    obtain ⟨e6, e7⟩ := ok_pure (show (pure [] : M (List PD.D)) st = .ok ys2 s2 from e)
    subst e6 e7
    rw [List.append_nil] at ey
    subst ey
    obtain ⟨W', sr', f', r'⟩ := g.done
    exact h3 W' Hx (.ref D) sr' f' r'

/-! ### two clauses -/
theorem tYes_ok {σ : L2.St} {H : Hp} {Q : Bool → Hp → Prop} (h : Q true H) : tYes σ H Q := h
theorem wipe_app (σ : L2.St) : ∀ us vs : List Nat, wipe σ (us ++ vs) = wipe (wipe σ vs) us
  | [], vs => rfl
  | u :: us, vs => by
    show (wipe σ (us ++ vs)).set u none = (wipe (wipe σ vs) us).set u none
    rw [wipe_app σ us vs]
theorem ok_chk {α : Type} {b : Bool} {m : M α} {a : α} {s s2 : Sto} (h : (chk b m) s = .ok a s2) : b = true ∧ m s = .ok a s2 := by
  cases b with
  | false => cases h
  | true => exact ⟨rfl, h⟩
theorem iG_calm {C : Cn} {ρ : Env'} {W : Wd} {σ : L2.St} {H : Hp} {m : Env' → M (List PD.D)} {s s' : Sto} {xs : List PD.D} {R : It → Hp → Prop} (sr : SR C W H ρ σ s) (e : m ρ s = .ok xs s')
    (h : ∀ W' H' J, SR C W' H' ρ σ s' → Frm W W' H H' → WalkR C.K W' H' xs J → R J H') : iG C m σ H R := by
  refine ⟨ρ, s, W, sr, ?_⟩
  rw [e]
  exact h
theorem lc2_reading {C : Cn} {tg tg2 : Tg} {mi mi2 : Env' → M (List PD.D)} {me : Env' → M PD.D} {σ : L2.St} {H : Hp} {Q : VK} 
    (h : tE C (lc2E tg tg2 mi mi2 me) σ H Q) :
    tLc2 (iG C mi) (gOf C.K tg) tYes (iG C.calm0 mi2) (gOf C.K tg2) tYes (tE C.calm0 me) (tgS tg ++ tgS tg2) (tgS tg2) σ H Q := by
  obtain ⟨ρ, s, W, sr, h⟩ := h
  refine ⟨ρ, s, W, sr, (Run.bind h).imp fun J H1 ⟨W1, xs, s1, sr1, f1, wk, h1⟩ => ?_⟩
  intro D hD
  obtain ⟨ys, s2, e2, h2⟩ := noExn_cases h1
  obtain ⟨hz, h3⟩ := h2.chk
  have hz : xs.length ≤ 1000 := of_decide_eq_true hz
  refine ⟨fun i m Hx => m = xs.length - i ∧ i ≤ xs.length ∧ ∃ Wx st ys1 ys2, Grow C W1 H1 ρ σ D ys1 Wx Hx st (i * 1000) ∧ lc2M (lc2F tg tg2 mi2 me ρ) (xs.drop i) st = .ok ys2 s2 ∧ ys = ys1 ++ ys2, ⟨xs.length, by omega, Nat.zero_le _, W1, s1, [], ys, by
    have g := Grow.start sr1 hD
    rwa [Nat.zero_mul], e2, rfl⟩, ?_⟩
  rintro i m Hx ⟨rfl, hi, Wx, st, ys1, ys2, g, e, ey⟩
  by_cases hlt : i < xs.length
  · refine .inr ⟨wk.go i Wx Hx g.fr.ext hlt, fun H' => ∃ Wx st ys1 ys2, Grow C W1 H1 ρ σ D ys1 Wx H' st ((i + 1) * 1000) ∧ lc2M (lc2F tg tg2 mi2 me ρ) (xs.drop (i + 1)) st = .ok ys2 s2 ∧ ys = ys1 ++ ys2, fun H' ⟨a, b, c, d, q1, q2, q3⟩ => ⟨xs.length - (i + 1), by omega, rfl, hlt, a, b, c, d, q1, q2, q3⟩, fun x H' y => ?_⟩
    have hdd : xs[i]? = some xs[i] := List.getElem?_eq_getElem hlt
    obtain ⟨W2, al, rx⟩ := wk.yld i Wx Hx x H' xs[i] g.fr.ext y hdd
    have g2 : Grow C W1 H1 ρ σ D ys1 W2 H' st (i * 1000) := g.step al.fr (g.sr.alloc al).sto
    rw [List.drop_eq_getElem_cons hlt] at e
    obtain ⟨o, st1, e3, e4⟩ := ok_bind (show (lc2F tg tg2 mi2 me ρ xs[i] >>= fun y => lc2M (lc2F tg tg2 mi2 me ρ) (xs.drop (i + 1)) >>= fun ys => pure (y ++ ys)) st = .ok ys2 s2 from e)
    obtain ⟨ys3, st2, e5, e6⟩ := ok_bind e4
    obtain ⟨f6, e7⟩ := ok_pure e6
    subst e7
    obtain ⟨ρ', st3, e8, e9⟩ := ok_bind e3
    obtain ⟨e8', e10⟩ := ok_opt e8
    subst e10
    obtain ⟨zs, st4, e11, e12⟩ := ok_bind e9
    obtain ⟨hz2, e12⟩ := ok_chk e12
    have hz2 : zs.length ≤ 1000 := of_decide_eq_true hz2
    have srw : SR C.calm0 W2 H' (wipe' ρ (tgS tg2)) (wipe σ (tgS tg2)) st := g2.sr.calm0.env_ (g2.sr.calm0.env.wipe _)
    refine bind_wiped (C := C.calm0) srw (wipe_app σ (tgS tg) (tgS tg2)) rx e8' fun σ2 hw sr2 ho => ⟨?_, ?_⟩
    · have a1 : wipe (wipe σ2 (tgS tg)) (tgS tg ++ tgS tg2) = wipe σ2 (tgS tg ++ tgS tg2) := wipe_wipe fun i hi => List.mem_append_left _ hi
      have a2 : wipe (wipe (wipe σ (tgS tg ++ tgS tg2)) (tgS tg)) (tgS tg ++ tgS tg2) = wipe (wipe σ (tgS tg ++ tgS tg2)) (tgS tg ++ tgS tg2) := wipe_wipe fun i hi => List.mem_append_left _ hi
      rw [← a1, hw, a2]
      exact wipe_wipe fun i hi => hi
    refine tYes_ok ?_
    try simp only []
    rw [if_pos trivial]
    refine iG_calm sr2 e11 fun W3 H3 J1 sr3 f3 wk3 => ?_
    have g3 := g2.step f3 sr3.sto
    refine ⟨fun j k Hy => k = zs.length - j ∧ j ≤ zs.length ∧ ∃ Wy sty zs1 zs2, Grow C W1 H1 ρ σ D (ys1 ++ zs1) Wy Hy sty (i * 1000 + j) ∧ SR C.calm0 Wy Hy ρ' σ2 sty ∧ Ext W3 Wy H3 Hy ∧ lcM (lcF tg2 (fun _ => pure true) me ρ') (zs.drop j) sty = .ok zs2 st1 ∧ o = zs1 ++ zs2, ⟨zs.length, by omega, Nat.zero_le _, W3, st4, [], o, by rw [List.append_nil]; exact g3, sr3, Ext.refl _ _, e12, rfl⟩, ?_⟩
    rintro j k Hy ⟨rfl, hj, Wy, sty, zs1, zs2, gy, sry, exy, ez, eo⟩
    by_cases hlt2 : j < zs.length
    · refine .inr ⟨wk3.go j Wy Hy exy hlt2, fun H' => ∃ Wy sty zs1 zs2, Grow C W1 H1 ρ σ D (ys1 ++ zs1) Wy H' sty (i * 1000 + (j + 1)) ∧ SR C.calm0 Wy H' ρ' σ2 sty ∧ Ext W3 Wy H3 H' ∧ lcM (lcF tg2 (fun _ => pure true) me ρ') (zs.drop (j + 1)) sty = .ok zs2 st1 ∧ o = zs1 ++ zs2, fun H' ⟨a, b, c, d, q1, q2, q3, q4, q5⟩ => ⟨zs.length - (j + 1), by omega, rfl, hlt2, a, b, c, d, q1, q2, q3, q4, q5⟩, fun z Hz yz => ?_⟩
      have hdz : zs[j]? = some zs[j] := List.getElem?_eq_getElem hlt2
      obtain ⟨W5, al5, rz⟩ := wk3.yld j Wy Hy z Hz zs[j] exy yz hdz
      have g5 := gy.step al5.fr (gy.sr.alloc al5).sto
      have sr5 := sry.alloc al5
      rw [List.drop_eq_getElem_cons hlt2] at ez
      obtain ⟨oz, st5, ez3, ez4⟩ := ok_bind (show (lcF tg2 (fun _ => pure true) me ρ' zs[j] >>= fun y => lcM (lcF tg2 (fun _ => pure true) me ρ') (zs.drop (j + 1)) >>= fun ys => pure (match y with
        | some v => v :: ys
        | none => ys)) sty = .ok zs2 st1 from ez)
      obtain ⟨zs3, st6, ez5, ez6⟩ := ok_bind ez4
      obtain ⟨fz6, ez7⟩ := ok_pure ez6
      subst ez7
      obtain ⟨ρ2, st7, ez8, ez9⟩ := ok_bind ez3
      obtain ⟨ez8', ez10⟩ := ok_opt ez8
      subst ez10
      obtain ⟨bz, st8, ez11, ez12⟩ := ok_bind ez9
      obtain ⟨fz11, fz13⟩ := ok_pure ez11
      subst fz11 fz13
      rw [if_pos rfl] at ez12
      obtain ⟨yv, st9, ez14, ez15⟩ := ok_bind ez12
      obtain ⟨fz15, fz16⟩ := ok_pure ez15
      subst fz15 fz16
      refine bind_wiped (C := C.calm0) sr5 rfl rz ez8' fun σ3 hw3 sr6 _ => ⟨?_, ?_⟩
      · rw [hw3]
        exact wipe_wipe fun i hi => hi
      · refine tYes_ok ?_
        try simp only []
        rw [if_pos trivial]
        refine ⟨ρ2, sty, W5, sr6, ?_⟩
        rw [ez14]
        intro W6 H6 v sr7 f6 rv
        have g6 := g5.step f6 sr7.sto
        obtain ⟨acc, h61, h62, h63⟩ := g6.at_
        have sr8 : SR C.calm0 W6 H6 ρ' σ2 st9 := sr5.step f6 sr7.sto
        have no8 : ∀ (i : Nat) zs, ρ'[i]? = some (some (.own zs)) → σ2[i]? ≠ some (some (.ref D)) := fun i zs e q => by
          obtain ⟨o1, o2⟩ := ho i zs e
          obtain ⟨o3, o4⟩ := wipe'_some o1
          rw [o2, wipe_out' o4] at q
          exact g2.no i zs o3 q
        obtain ⟨ex9, sr9⟩ := sr8.turn (ys := acc ++ [v]) h61 g6.nz g6.nm g6.n0 no8
        refine ⟨acc, h61, ?_, W6, st9, zs1 ++ [yv], zs3, ?_, sr9, (exy.trans (al5.fr.ext.trans f6.ext)).trans ex9, ez5, by rw [eo, ← fz6, List.append_assoc]; rfl⟩
        · rw [← line_eq]
          have : i * 1000 ≤ 1000 * 1000 := Nat.mul_le_mul (by omega) (Nat.le_refl _)
          show acc.length < 16777216
          omega
        · have g9 := g6.push h61 rv
          rw [List.append_assoc] at g9
          exact g9
    · have ej : j = zs.length := by omega
      refine .inl ⟨by rw [ej]; exact wk3.stop Wy Hy exy, ?_⟩
      rw [ej, List.drop_length] at ez
      obtain ⟨ez6, ez7⟩ := ok_pure (show (pure [] : M (List PD.D)) sty = .ok zs2 st1 from ez)
      subst ez6 ez7
      rw [List.append_nil] at eo
      subst eo
      obtain ⟨acc, k1, k2, k3⟩ := gy.at_
      refine ⟨Wy, sty, ys1 ++ o, ys3, ⟨⟨acc, k1, k2, by omega⟩, gy.sr, gy.fr, gy.nz, gy.nm, gy.new, gy.n0, gy.no⟩, e5, by rw [ey, ← f6, List.append_assoc]⟩
  · have ei : i = xs.length := by omega
    refine .inl ⟨by rw [ei]; exact wk.stop Wx Hx g.fr.ext, ?_⟩
    rw [ei, List.drop_length] at e
    obtain ⟨e6, e7⟩ := ok_pure (show (pure [] : M (List PD.D)) st = .ok ys2 s2 from e)
    subst e6 e7
    rw [List.append_nil] at ey
    subst ey
    obtain ⟨W', sr', f', r'⟩ := g.done
    exact h3 W' Hx (.ref D) sr' f' r'
end PD

set_option Elab.async false
set_option linter.all false
set_option maxRecDepth 100000
set_option maxHeartbeats 4000000
/-! PDz: zip of two, each a list or a tuple. -/
namespace PD
open PySem PySem.Spec L2

def skIter (k : Bool) (h : Heap) (it a : Addr) (i : Nat) : Prop := match k with
  | true => h.IsTupleIter it a i
  | false => h.IsListIter it a i
def skSeq (k : Bool) (h : Heap) (a : Addr) (its : Array Value) : Prop := match k with
  | true => h.IsTuple a its
  | false => h.IsList a its
def skSq (K : PySem.W.Frag) (k : Bool) (H : Hp) (a : Addr) (xs : List V) : Prop := match k with
  | true => SqT K H a xs
  | false => SqL K H a xs
theorem skDraws {prog : Program} {w : World} {A : Around} (hh : A.handled = none) (k : Bool) (it a : Addr) (hne : a ≠ it) (its : Array Value) : Draws prog w A it [it, a] its.size (fun i v => its[i]? = some v) (fun i h => skIter k h it a i ∧ skSeq k h a its) := by
  cases k
  · exact Draws.list hh it a hne its
  · exact Draws.tuple hh it a hne its
theorem skSq_get {X : Cx} {pins : List (Addr × Obj)} {σ : L2.St} {H : Hp} {s : Shared} {k : Bool} {a : Addr} {xs : List V} (I : Inv X pins σ H s) (h : skSq X.K k H a xs) : ∃ its : List Value, Vals xs its ∧ skSeq k s.heap a its.toArray ∧ a < s.heap.objs.size := by
  cases k
  · obtain ⟨its, r, p, _⟩ := I.list h
    exact ⟨its, r, p.isList, p.lt⟩
  · obtain ⟨its, r, p, _⟩ := I.tuple h
    obtain ⟨o, ho, _⟩ := id p
    exact ⟨its, r, p, Heap.lt_size ho⟩
theorem skSq_inj {X : Cx} {pins : List (Addr × Obj)} {σ : L2.St} {H : Hp} {s : Shared} {k : Bool} {a : Addr} {xs ys : List V} (I : Inv X pins σ H s) (h : skSq X.K k H a xs) (h' : skSq X.K k H a ys) : xs = ys := by
  cases k
  · exact I.list_inj h h'
  · exact I.tuple_inj h h'
theorem skIter_keep {k : Bool} {h h' : Heap} {it a : Addr} {i : Nat} (st : skIter k h it a i) (e : ∀ o, h.get? it = some o → h'.get? it = some o) : skIter k h' it a i := by
  cases k
  · exact Heap.IsListIter.at st e
  · exact Heap.IsTupleIter.at st e
theorem skIter_obj {k : Bool} {h : Heap} {it a : Addr} {i : Nat} (st : skIter k h it a i) : ∃ o, h.get? it = some o ∧ ∀ v, o.data ≠ .cell v := by
  cases k
  · obtain ⟨o, e, _, d⟩ := st
    exact ⟨o, e, fun v q => by rw [d] at q; cases q⟩
  · obtain ⟨o, e, _, d⟩ := st
    exact ⟨o, e, fun v q => by rw [d] at q; cases q⟩
def ItzM (K : PySem.W.Frag) (k1 k2 : Bool) (a b : Addr) : It :=
  ⟨fun i H => ∃ (xs ys : List V) (x y : V), skSq K k1 H a xs ∧ skSq K k2 H b ys ∧ xs[i]? = some x ∧ ys[i]? = some y,
    fun i H v H' => ∃ T x y, v = .ref T ∧ H T = none ∧ H' = upd H T (.tup [x, y]) ∧ (∀ xs, skSq K k1 H a xs → xs[i]? = some x) ∧ ∀ ys, skSq K k2 H b ys → ys[i]? = some y,
    fun i H => ∃ xs ys : List V, skSq K k1 H a xs ∧ skSq K k2 H b ys ∧ i = min xs.length ys.length⟩
theorem sep2_of {z TI TO i1 i2 a b : Addr} (D : ZipApart z TI TO i1 i2 a b) : ZipSep2 z TI TO i1 i2 [i1, a] [i2, b] := by
  refine ⟨D.TIz, D.TOz, D.TITO, D.TIi1, by simp, ?_, ?_, D.TIi2, by simp, ?_, ?_, ?_, ?_⟩
  · simp only [List.mem_cons, List.not_mem_nil, or_false, not_or]; exact ⟨D.i1z.symm, D.l1z.symm⟩
  · simp only [List.mem_cons, List.not_mem_nil, or_false, not_or]; exact ⟨D.TOi1, D.l1TO.symm⟩
  · simp only [List.mem_cons, List.not_mem_nil, or_false, not_or]; exact ⟨D.i2z.symm, D.l2z.symm⟩
  · simp only [List.mem_cons, List.not_mem_nil, or_false, not_or]; exact ⟨D.TOi2, D.l2TO.symm⟩
  · simp only [List.mem_cons, List.not_mem_nil, or_false, not_or]; exact ⟨D.i12, D.l2i1.symm⟩
  · simp only [List.mem_cons, List.not_mem_nil, or_false, not_or]; exact ⟨D.i12.symm, D.l1i2.symm⟩
theorem turn_zipM {P : Program} {w : World} {K : PySem.W.Frag} {elts : List Expr} {kk : Nat} {tpos : Pos} {k1 k2 : Bool} {a b z TI TO i1 i2 : Addr} (D : ZipApart z TI TO i1 i2 a b) :
    Turn P w K (.Tuple elts kk tpos) (ItzM K k1 k2 a b) [z, TI, TO, i1, i2] z (fun i h => IsZip h z TI TO .none ∧ IsTupOf2 h TI (.ref i1) (.ref i2) ∧ (∃ x y, IsTupOf2 h TO x y) ∧ skIter k1 h i1 a i ∧ skIter k2 h i2 b i) where
  mem := by simp
  obj := fun i h st c hc => by
    obtain ⟨hz, hTI, ⟨x, y, hTO⟩, s1, s2⟩ := st
    have e' : c = z ∨ c = TI ∨ c = TO ∨ c = i1 ∨ c = i2 := by simpa using hc
    rcases e' with q | q | q | q | q
    · rw [q]; exact ⟨_, hz, fun v q => nomatch q⟩
    · rw [q]; exact ⟨_, hTI, fun v q => nomatch q⟩
    · rw [q]; exact ⟨_, hTO, fun v q => nomatch q⟩
    · rw [q]; exact skIter_obj s1
    · rw [q]; exact skIter_obj s2
  keep := fun i h h' st k => by
    obtain ⟨hz, hTI, ⟨x, y, hTO⟩, h1, h2⟩ := st
    exact ⟨k z (by simp) _ hz, k TI (by simp) _ hTI, ⟨x, y, k TO (by simp) _ hTO⟩, skIter_keep h1 fun o q => k i1 (by simp) o q, skIter_keep h2 fun o q => k i2 (by simp) o q⟩
  item := by
    intro X hP hw hK hc i pins s σ H E I hf st hg
    subst hP hw hK
    obtain ⟨hz, hTI, hTO, h1, h2⟩ := st
    obtain ⟨xs, ys, x, y, hqx, hqy, hx, hy⟩ := hg
    obtain ⟨its, rv, p, la⟩ := skSq_get I hqx
    obtain ⟨its2, rv2, p2, lb⟩ := skSq_get I hqy
    obtain ⟨u, hu, ru⟩ := rv.get hx
    obtain ⟨u2, hu2, ru2⟩ := rv2.get hy
    have hh : X.A.in1.handled = none := I.ok.hd hc
    have W := WalksT.zipD2 (prog := X.prog) (w := X.w) (A := X.A) (sep2_of D) (skDraws hh k1 i1 a D.l1i1 its.toArray) (skDraws hh k2 i2 b D.l2i2 its2.toArray)
    have hi : i < min its.toArray.size its2.toArray.size := by
      have q1 := (List.getElem?_eq_some_iff.mp hu).1
      have q2 := (List.getElem?_eq_some_iff.mp hu2).1
      simp only [List.size_toArray]
      omega
    refine W.item i s _ _ hi ⟨hz, hTI, hTO, ⟨h1, p⟩, ⟨h2, p2⟩⟩ fun T vals h' tk ⟨x1, x2, hx1, hx2, ev⟩ hT hIs mid hk => ?_
    refine ⟨_, rfl, W.go elts kk tpos i T { s with heap := h', toks := tk } _ _ mid fun h'' st'' hk2 => ?_⟩
    have ex1 : x1 = u := by
      have q : its[i]? = some x1 := by simpa using hx1
      rw [hu] at q; exact (Option.some.inj q).symm
    have ex2 : x2 = u2 := by
      have q : its2[i]? = some x2 := by simpa using hx2
      rw [hu2] at q; exact (Option.some.inj q).symm
    subst ex1 ex2 ev
    have hIs2 : h''.IsTuple T #[x1, x2] := by
      obtain ⟨o, ho, r⟩ := hIs
      exact ⟨o, hk2 T o (W.apart i T h' mid) ho, r⟩
    have new : ObjOk X.prog X.w (upd H T (.tup [x, y])) h'' T (.tup [x, y]) := ⟨by show 2 ≤ sizeLine; decide, [x1, x2], .cons ru (.cons ru2 .nil), hIs2⟩
    have wrs : ∀ c, c ∉ [z, TI, TO, i1, i2] → c ∉ [z, TO, i1, i2] := fun c hc q => hc (by
      have q' : c = z ∨ c = TO ∨ c = i1 ∨ c = i2 := by simpa using q
      rcases q' with q' | q' | q' | q' <;> simp [q'])
    have I1 : Inv X pins σ (upd H T (.tup [x, y])) { s with heap := h'', toks := tk } :=
      I.turnedNew (t' := tk) (ch := [z, TI, TO, i1, i2]) (fun c o hb q => hk2 c o (wrs c hb) (hk c o (wrs c hb) q)) hf hT new
    obtain ⟨z'', TI'', TO'', ⟨s1, _⟩, ⟨s2, _⟩⟩ := st''
    refine ⟨.ref T, _, I1, rfl, ⟨T, x, y, rfl, I.hok.fresh hT, rfl, fun l hl => by rw [skSq_inj I hl hqx]; exact hx, fun l hl => by rw [skSq_inj I hl hqy]; exact hy⟩, ⟨z'', TI'', TO'', s1, s2⟩, fun c hcm => ?_⟩
    have hlt : c < s.heap.objs.size := by
      have e' : c = z ∨ c = TI ∨ c = TO ∨ c = i1 ∨ c = i2 := by simpa using hcm
      rcases e' with q | q | q | q | q
      · rw [q]; exact Heap.lt_size hz
      · rw [q]; exact Heap.lt_size hTI
      · rw [q]; obtain ⟨_, _, e⟩ := hTO; exact Heap.lt_size e
      · rw [q]; obtain ⟨_, e, _⟩ := skIter_obj h1; exact Heap.lt_size e
      · rw [q]; obtain ⟨_, e, _⟩ := skIter_obj h2; exact Heap.lt_size e
    rw [upd_ne (Nat.ne_of_lt (Nat.lt_of_lt_of_le hlt hT))]
    exact (hf c hcm).1
  done := by
    intro X hP hw hK hc i pins s σ H E I hf st hg
    subst hP hw hK
    obtain ⟨hz, hTI, hTO, h1, h2⟩ := st
    obtain ⟨xs, ys, hqx, hqy, hend⟩ := hg
    obtain ⟨its, rv, p, la⟩ := skSq_get I hqx
    obtain ⟨its2, rv2, p2, lb⟩ := skSq_get I hqy
    have hh : X.A.in1.handled = none := I.ok.hd hc
    have W := WalksT.zipD2 (prog := X.prog) (w := X.w) (A := X.A) (sep2_of D) (skDraws hh k1 i1 a D.l1i1 its.toArray) (skDraws hh k2 i2 b D.l2i2 its2.toArray)
    have e1 : i = min its.toArray.size its2.toArray.size := by
      rw [hend, rv.length, rv2.length, List.size_toArray, List.size_toArray]
    refine W.done s _ _ (by rw [← e1]; exact ⟨hz, hTI, hTO, ⟨h1, p⟩, ⟨h2, p2⟩⟩) fun h' tk hk => ⟨rfl, I.turnedL (t' := tk) (ch := [z, TI, TO, i1, i2]) (fun c o hb q => hk c o (fun q2 => hb ?_) q) hf⟩
    have q' : c = z ∨ c = TO ∨ c = i1 ∨ c = i2 := by simpa using q2
    rcases q' with q' | q' | q' | q' <;> simp [q']
  self := fun A i s Q E st h => wpAny_pyIter_zip st.1 h
def iZipM (K : PySem.W.Frag) (ta : TA) : TI := fun σ H R => ta σ H fun vs H1 => ∃ k1 k2 a b xs ys, vs = [.ref a, .ref b] ∧ skSq K k1 H1 a xs ∧ skSq K k2 H1 b ys ∧ R (ItzM K k1 k2 a b) H1
def skObj (k : Bool) (a : Addr) : Obj := match k with
  | true => { cls := .type "tuple_iterator", data := .fields #[.ref a, .int 0 0] }
  | false => { cls := .type "list_iterator", data := .fields #[.ref a, .int 0 0] }
theorem skBegins (k : Bool) (a : Addr) (its : Array Value) : Begins (.ref a) (skObj k a) fun h => skSeq k h a its := by
  cases k
  · exact begins_list a its
  · exact begins_tuple a its
theorem skIter_new {k : Bool} {h : Heap} {it a : Addr} (e : h.get? it = some (skObj k a)) : skIter k h it a 0 := by
  cases k
  · exact ⟨_, e, rfl, rfl⟩
  · exact ⟨_, e, rfl, rfl⟩
theorem pi_zipM {X : Cx} {e e2 : Expr} {ta : TA} {p pos tpos : Pos} {elts : List Expr} {kk : Nat} (hg : Gl X "zip") (hm : X.mg "zip" = none) (ha : PA X [e, e2] ta)
    (hs : starEach [e, e2] X.env = (false, eval e X.env) :: starEach [e2] X.env) (hpl : (backTo pos (starEach [e2] X.env)).any (·.1) = false) :
    PI X (.Tuple elts kk tpos) (.Call (.Name "zip" p) [e, e2] [] pos) (iZipM X.K ta) := by
  refine ⟨fun pins s σ H R I h => ?_⟩
  refine PyProof.Rows.Call_ (ld_blt I hg hm PyProof.Rows.boot_zip (PyProof.Rows.callWith_type1 (thn (ha.run pos pins s σ H _ I h) fun us s1 ⟨vs, H1, I1, r1, q1⟩ => ?_) hs hpl))
  obtain ⟨k1, k2, a, b, xs, ys, ex, hqx, hqy, q⟩ := q1
  subst ex
  obtain ⟨u1, u2, rfl, ra, rb⟩ := vals2 r1
  cases ra
  cases rb
  obtain ⟨its, rv, p1, la⟩ := skSq_get I1 hqx
  obtain ⟨its2, rv2, p2, lb⟩ := skSq_get I1 hqy
  have fresh5 : ∀ c, c ∈ [s1.heap.objs.size + 4, s1.heap.objs.size + 2, s1.heap.objs.size + 3, s1.heap.objs.size, s1.heap.objs.size + 1] → FpOk X pins H1 c := fun c hcm => by
    have e' : c = s1.heap.objs.size + 4 ∨ c = s1.heap.objs.size + 2 ∨ c = s1.heap.objs.size + 3 ∨ c = s1.heap.objs.size ∨ c = s1.heap.objs.size + 1 := by simpa using hcm
    have hle : s1.heap.objs.size ≤ c := by
      rcases e' with z | z | z | z | z
      · rw [z]; exact Nat.le_add_right _ _
      · rw [z]; exact Nat.le_add_right _ _
      · rw [z]; exact Nat.le_add_right _ _
      · rw [z]; exact Nat.le_refl _
      · rw [z]; exact Nat.le_add_right _ _
    exact I1.fpOk hle (I1.hok.fresh hle)
  refine zip_begins2 (skBegins k1 a its.toArray) (skBegins k2 b its2.toArray) p1 p2 fun h' hz hTI hTO h1 h2 hsz hk => wpAny_pyIter_zip hz ?_
  have I2 : Inv X pins σ H1 { s1 with heap := h' } := I1.kept (t' := s1.toks) hk
  exact ⟨s1.heap.objs.size + 4, [s1.heap.objs.size + 4, s1.heap.objs.size + 2, s1.heap.objs.size + 3, s1.heap.objs.size, s1.heap.objs.size + 1], _, _, H1, rfl, I2, turn_zipM (PySem.W.ktu_apart s1.heap.objs.size a b la lb), ⟨hz, hTI, ⟨_, _, hTO⟩, skIter_new h1, skIter_new h2⟩, fresh5, q⟩
theorem walkR_zip {K : PySem.W.Frag} {W : Wd} {H : Hp} {xs ys : List D} {vs us : List V} {k1 k2 : Bool} {a b : Addr} (l1 : ∀ W1 H1, Ext W W1 H H1 → skSq K k1 H1 a vs) (l2 : ∀ W1 H1, Ext W W1 H H1 → skSq K k2 H1 b us) (r1 : RepL K W H xs vs) (r2 : RepL K W H ys us) :
    WalkR K W H ((xs.zip ys).map fun p => .tup [p.1, p.2]) (ItzM K k1 k2 a b) := by
  have len : ((xs.zip ys).map fun p => D.tup [p.1, p.2]).length = min xs.length ys.length := by rw [List.length_map, List.length_zip]
  refine ⟨fun i W1 H1 e hi => ?_, fun W1 H1 e => ⟨vs, us, l1 W1 H1 e, l2 W1 H1 e, by rw [len, r1.length, r2.length]⟩, fun i W1 H1 x H2 d e y hd => ?_⟩
  · rw [len] at hi
    have h1 : i < vs.length := by rw [r1.length]; omega
    have h2 : i < us.length := by rw [r2.length]; omega
    exact ⟨vs, us, vs[i], us[i], l1 W1 H1 e, l2 W1 H1 e, List.getElem?_eq_getElem h1, List.getElem?_eq_getElem h2⟩
  · obtain ⟨T, x1, y1, rfl, hT, rfl, f1, f2⟩ := y
    rw [List.getElem?_map] at hd
    obtain ⟨p, hp, ed⟩ := Option.map_eq_some_iff.mp hd
    obtain ⟨hp1, hp2⟩ := List.getElem?_zip_eq_some.mp hp
    obtain ⟨v, q1, q2⟩ := r1.get hp1
    obtain ⟨u, q3, q4⟩ := r2.get hp2
    have g1 := f1 vs (l1 W1 H1 e)
    have g2 := f2 us (l2 W1 H1 e)
    rw [q1] at g1
    rw [q3] at g2
    cases g1
    cases g2
    have al := Alloc.new0 W1 H1 (o := .tup [x1, y1]) hT
    refine ⟨W1, al, ?_⟩
    rw [← ed]
    unfold RepV
    exact ⟨T, [x1, y1], rfl, .inl (.inl upd_same), (RepL.cons (q2.mono e) (.cons (q4.mono e) .nil)).mono al.fr.ext⟩
theorem enumFrom_get : ∀ {xs : List D} {n i : Nat} {d : D}, (enumFrom n xs)[i]? = some d → ∃ x, xs[i]? = some x ∧ d = .tup [.int ((n + i : Nat) : Int), x]
  | [], n, i, d, h => by unfold enumFrom at h; simp at h
  | x :: xs, n, 0, d, h => by
    unfold enumFrom at h
    exact ⟨x, by simp, by simpa using h.symm⟩
  | x :: xs, n, i + 1, d, h => by
    unfold enumFrom at h
    obtain ⟨y, h1, h2⟩ := enumFrom_get (xs := xs) (n := n + 1) (i := i) (by simpa using h)
    refine ⟨y, by simpa using h1, ?_⟩
    rw [h2]
    have e : n + 1 + i = n + (i + 1) := by omega
    rw [e]
theorem enumFrom_len : ∀ (xs : List D) (n : Nat), (enumFrom n xs).length = xs.length
  | [], n => by unfold enumFrom; rfl
  | x :: xs, n => by unfold enumFrom; rw [List.length_cons, List.length_cons, enumFrom_len xs]
theorem walkR_enum {K : PySem.W.Frag} {W : Wd} {H : Hp} {xs : List D} {vs : List V} {a : Addr} (l : LsOk W.Z H a vs) (r : RepL K W H xs vs) : WalkR K W H (enumFrom 0 xs) (Ite K a) := by
  refine ⟨fun i W1 H1 e hi => ?_, fun W1 H1 e => ⟨vs, (l.mono e).sq, by rw [r.length, enumFrom_len]; exact Nat.le_refl _⟩, fun i W1 H1 x H2 d e y hd => ?_⟩
  · rw [enumFrom_len] at hi
    have h1 : i < vs.length := by rw [r.length]; exact hi
    exact ⟨vs, vs[i], (l.mono e).sq, List.getElem?_eq_getElem h1⟩
  · obtain ⟨T, x1, rfl, hT, rfl, f1⟩ := y
    obtain ⟨z, hz, ed⟩ := enumFrom_get hd
    obtain ⟨v, q1, q2⟩ := r.get hz
    have g1 := f1 vs (l.mono e).sq
    rw [q1] at g1
    cases g1
    have al := Alloc.new0 W1 H1 (o := .tup [.int ((i : Nat) : Int), x1]) hT
    refine ⟨W1, al, ?_⟩
    rw [ed]
    unfold RepV
    refine ⟨T, _, rfl, .inl (.inl upd_same), .cons ?_ (.cons ((q2.mono e).mono al.fr.ext) .nil)⟩
    rw [Nat.zero_add]
    unfold RepV
    rfl
end PD

set_option Elab.async false
set_option linter.all false
set_option maxRecDepth 100000
set_option maxHeartbeats 8000000
/-! PD9: which code mirrors which expression; every expression by its mirror. -/
namespace PD
open PySem PySem.Spec L2

def visB (sc : Scope) (x : Str) : Bool := match sc.names.lookup x with
  | some .local => true
  | some .cell => true
  | some .free => true
  | _ => false
def glB (sc : Scope) (x : Str) : Bool := decide (sc.names.lookup x = some .globalImplicit)
def locB (sc : Scope) (x : Str) : Bool := decide (sc.names.lookup x = some .local)
def okN (x : Str) : Bool := !(x == ("__debug__" : Str)) && (!(x == ("__classdict__" : Str)) && decide (x ≠ ("__name__" : Str)))
def noSup : Expr → Bool
  | .Call _ [] [] _ => false
  | _ => true
def plainX : Expr → Bool
  | .Starred _ _ => false
  | .Slice _ _ _ _ => false
  | .Set _ _ _ => false
  | _ => true
def bifN : Bif → Str
  | .len => "len" | .tuple => "tuple" | .list => "list" | .all => "all" | .any => "any" | .sum => "sum" | .int => "int" | .str => "str" | .min => "min" | .sorted => "sorted"
def mthN : Mth → Option Str
  | .get => some "get" | .split => some "split" | .join => some "join" | _ => none
def tyS : Ty → Str
  | .bool => "bool" | .int => "int" | .str => "str" | .tuple => "tuple" | .list => "list"
def ownTs : List Nat → List Expr → List (Str × Nat)
  | i :: is, .Name x _ :: es => (x, i) :: ownTs is es
  | _, _ => []
def ownOf : Tg → Expr → List (Str × Nat)
  | .nm i, .Name x _ => [(x, i)]
  | .tp is, .Tuple es _ _ => ownTs is es
  | _, _ => []
def chkTs (N : List Str) (lc : Scope → Str → Bool) (sc : Scope) : List Nat → List Expr → Bool
  | [], [] => true
  | i :: is, .Name x _ :: es => decide (N[i]? = some x) && (lc sc x && chkTs N lc sc is es)
  | _, _ => false
def chkTg (N : List Str) (lc : Scope → Str → Bool) (sc : Scope) : Tg → Expr → Bool
  | .nm i, .Name x _ => decide (N[i]? = some x) && lc sc x
  | .tp is, .Tuple es _ _ => chkTs N lc sc is es
  | _, _ => false
def mdOf : Tg → Nat
  | .nm _ => 1
  | .tp _ => 2
def strKeys : List Str → List (Option Expr) → Bool
  | [], [] => true
  | k :: ks, some (.Constant (.str x) _ _) :: r => decide (k = x) && strKeys ks r
  | _, _ => false

section
variable (N : List Str)
mutual
def chkE : Cd → Nat → Scope → Expr → Bool
  | .var i, _, sc, e => match e with
    | .Name x _ => decide (N[i]? = some x) && (visB sc x && okN x)
    | _ => false
  | .glob x, _, sc, e => match e with
    | .Name y _ => decide (x = y) && (glB sc y && okN y)
    | _ => false
  | .cI i, _, _, e => match e with
    | .Constant (.int j) _ _ => decide (i = j)
    | _ => false
  | .cS s, _, _, e => match e with
    | .Constant (.str t) _ _ => decide (s = t)
    | _ => false
  | .cB b, _, _, e => match e with
    | .Constant (.bool c) _ _ => decide (b = c)
    | _ => false
  | .cN, _, _, e => match e with
    | .Constant .none _ _ => true
    | _ => false
  | .tup es, _, sc, e => match e with
    | .Tuple xs _ _ => decide (es.length ≤ 1000) && chkEs es sc xs
    | _ => false
  | .lst es, _, sc, e => match e with
    | .List xs _ => decide (es.length ≤ 1000) && chkEs es sc xs
    | _ => false
  | .loc es, _, sc, e => match e with
    | .List xs _ => decide (es.length ≤ 1000) && chkEs es sc xs
    | _ => false
  | .dct ks es, _, sc, e => match e with
    | .Dict keys vals _ => strKeys ks keys && (decide (ks.length ≤ 15) && (decide (0 < ks.length) && (decide (ks.length = es.length) && (decide ks.Nodup && chkEs es sc vals))))
    | _ => false
  | .bin op a b, _, sc, e => match e with
    | .BinOp x o y _ => decide (opOf op = o) && (chkE a 0 sc x && chkE b 0 sc y)
    | _ => false
  | .cmp op a b, _, sc, e => match e with
    | .Compare x [o] [y] _ => decide (copOf op = o) && (chkE a 0 sc x && chkE b 0 sc y)
    | _ => false
  | .chain p q a b c, _, sc, e => match e with
    | .Compare x [o, o2] [y, z] _ => decide (copOf p = o) && (decide (copOf q = o2) && (chkE a 0 sc x && (chkE b 0 sc y && chkE c 0 sc z)))
    | _ => false
  | .and a b, _, sc, e => match e with
    | .BoolOp .And (x :: y :: rest) pos => chkE a 0 sc x && (match rest with
      | [] => chkE b 0 sc y
      | r :: rs => chkE b 0 sc (.BoolOp .And (y :: r :: rs) pos))
    | _ => false
  | .or a b, _, sc, e => match e with
    | .BoolOp .Or (x :: y :: rest) pos => chkE a 0 sc x && (match rest with
      | [] => chkE b 0 sc y
      | r :: rs => chkE b 0 sc (.BoolOp .Or (y :: r :: rs) pos))
    | _ => false
  | .not a, _, sc, e => match e with
    | .UnaryOp .Not x _ => chkE a 0 sc x
    | _ => false
  | .neg a, _, sc, e => match e with
    | .UnaryOp .USub x _ => chkE a 0 sc x
    | _ => false
  | .ife t a b, _, sc, e => match e with
    | .IfExp c x y _ => chkE t 0 sc c && (chkE a 0 sc x && chkE b 0 sc y)
    | _ => false
  | .idx a i, _, sc, e => match e with
    | .Subscript x y _ => plainX y && (chkE a 0 sc x && chkE i 0 sc y)
    | _ => false
  | .slc a lo hi, _, sc, e => match e with
    | .Subscript x (.Slice l h none _) _ => chkE a 0 sc x && (chkO lo sc l && chkO hi sc h)
    | _ => false
  | .isi t a, _, sc, e => match e with
    | .Call (.Name g _) [x, .Name ty _] [] _ => decide (g = ("isinstance" : Str)) && (decide (ty = tyS t) && (glB sc g && (glB sc ty && (plainX x && chkE a 0 sc x))))
    | _ => false
  | .call f es, _, sc, e => match e with
    | .Call (.Name g _) xs [] _ => decide (f = g) && (glB sc g && (okN g && chkEs es sc xs))
    | _ => false
  | .bif f es, _, sc, e => match e with
    | .Call (.Name g _) (x :: xs) [] _ => decide (bifN f = g) && (glB sc g && chkEs es sc (x :: xs))
    | _ => false
  | .mth m a es, _, sc, e => match e with
    | .Call (.Attribute o nm apos) (x :: xs) [] cpos => decide (mthN m = some nm) && (noSup o && ((apos.endLine == cpos.line) && (decide (xs.length ≤ 5) && (chkE a 0 sc o && chkEs es sc (x :: xs)))))
    | _ => false
  | .lc tg it t el, _, sc, e => match e with
    | .ListComp elt [⟨tx, iter, ifs, az⟩] scope _ => decide (az = 0) && (chkE it (mdOf tg) sc iter && (plainX iter && (blkC N sc scope (ownOf tg tx) && (chkTg N locB (relS scope sc) tg tx && (chkC t (relS scope sc) ifs && chkE el 0 (relS scope sc) elt)))))
    | _ => false
  | .lc2 tg it tg2 it2 el, _, sc, e => match e with
    | .ListComp elt [⟨tx, iter, ifs, az⟩, ⟨tx2, iter2, ifs2, az2⟩] scope _ => decide (az = 0) && (decide (az2 = 0) && (ifs.isEmpty && (ifs2.isEmpty && (chkE it (mdOf tg) sc iter && (plainX iter && (plainX iter2 && (blkC N sc scope (ownOf tg tx ++ ownOf tg2 tx2) &&
        (chkTg N locB (relS scope sc) tg tx && (chkTg N locB (relS scope sc) tg2 tx2 && (chkE it2 (mdOf tg2) (relS scope sc) iter2 && chkE el 0 (relS scope sc) elt))))))))))
    | _ => false
  | .rng1 a, md, sc, e => match md with
    | 0 => false
    | _ => (match e with
      | .Call (.Name g _) [x] [] _ => decide (g = ("range" : Str)) && (glB sc g && (plainX x && chkE a 0 sc x))
      | _ => false)
  | .rng2 a b, md, sc, e => match md with
    | 0 => false
    | _ => (match e with
      | .Call (.Name g _) [x, y] [] _ => decide (g = ("range" : Str)) && (glB sc g && (plainX x && (plainX y && (chkE a 0 sc x && chkE b 0 sc y))))
      | _ => false)
  | .lrng a b, _, sc, e => match e with
    | .Call (.Name l _) [.Call (.Name g _) [x, y] [] _] [] _ => decide (l = ("list" : Str)) && (glB sc l && (decide (g = ("range" : Str)) && (glB sc g && (plainX x && (plainX y && (chkE a 0 sc x && chkE b 0 sc y))))))
    | _ => false
  | .zip es, md, sc, e => match md with
    | 2 => (match e with
      | .Call (.Name g _) [x, y] [] _ => decide (g = ("zip" : Str)) && (glB sc g && chkEs es sc [x, y])
      | _ => false)
    | _ => false
  | .cmpL ne a b, _, sc, e => match e with
    | .Compare x [o] [y] _ => decide (copOf (if ne then .ne else .eq) = o) && (chkE a 0 sc x && chkE b 0 sc y)
    | _ => false
  | .isL a, _, sc, e => match e with
    | .Call (.Name g _) [x, .Name ty _] [] _ => decide (g = ("isinstance" : Str)) && (decide (ty = tyS .list) && (glB sc g && (glB sc ty && (plainX x && chkE a 0 sc x))))
    | _ => false
  | .enum a, md, sc, e => match md with
    | 2 => (match e with
      | .Call (.Name g _) [x] [] _ => decide (g = ("enumerate" : Str)) && (glB sc g && (plainX x && chkE a 0 sc x))
      | _ => false)
    | _ => false
def chkEs : List Cd → Scope → List Expr → Bool
  | [], _, es => es.isEmpty
  | c :: cs, sc, es => match es with
    | e :: es => plainX e && (chkE c 0 sc e && chkEs cs sc es)
    | [] => false
def chkO : Option Cd → Scope → Option Expr → Bool
  | none, _, e => e.isNone
  | some c, sc, e => match e with
    | some e => chkE c 0 sc e
    | none => false
def chkC : Option Cd → Scope → List Expr → Bool
  | none, _, es => es.isEmpty
  | some c, sc, es => match es with
    | [e] => chkE c 0 sc e
    | _ => false
end
end
end PD

set_option Elab.async false
set_option linter.all false
set_option maxRecDepth 100000
set_option maxHeartbeats 8000000
/-! PD10: the constructs one by one. -/
namespace PD
open PySem PySem.Spec L2

theorem okN_ {x : Str} (h : okN x = true) : (x == ("__debug__" : Str)) = false ∧ (x == ("__classdict__" : Str)) = false ∧ x ≠ ("__name__" : Str) := by
  unfold okN at h
  simp only [Bool.and_eq_true, Bool.not_eq_true', decide_eq_true_eq] at h
  exact ⟨h.1, h.2.1, h.2.2⟩
theorem vis_ {sc : Scope} {x : Str} (h : visB sc x = true) : Vis sc x := by
  unfold visB at h
  unfold Vis
  cases e : sc.names.lookup x with
  | none => rw [e] at h; cases h
  | some k =>
    rw [e] at h
    cases k with
    | «local» => exact .inl rfl
    | cell => exact .inr (.inl rfl)
    | free => exact .inr (.inr rfl)
    | _ => cases h
theorem boots_ok : boots.all (fun p => decide (bootBuiltins p.1 = some p.2) && (decide (p.1 ≠ ("__name__" : Str)) && !(p.1 == ("__debug__" : Str)))) = true := by decide +kernel
theorem mem_of_lookup' {α : Type} : ∀ {l : List (Str × α)} {x : Str} {v : α}, l.lookup x = some v → (x, v) ∈ l
  | [], _, _, h => by simp at h
  | (y, w) :: r, x, v, h => by
    rw [List.lookup_cons] at h
    by_cases e : x = y
    · subst e
      simp at h
      simp [h]
    · have e' : (x == y) = false := beq_eq_false_iff_ne.mpr e
      rw [e'] at h
      exact List.mem_cons_of_mem _ (mem_of_lookup' h)
theorem boot_of {x : Str} {v : Value} (h : boots.lookup x = some v) : bootBuiltins x = some v ∧ x ≠ ("__name__" : Str) ∧ (x == ("__debug__" : Str)) = false := by
  have q := List.all_eq_true.mp boots_ok _ (mem_of_lookup' h)
  simp only [Bool.and_eq_true, Bool.not_eq_true', decide_eq_true_eq] at q
  exact ⟨q.1, q.2.1, q.2.2⟩
theorem star_plain {e : Expr} {es : List Expr} {env : Env} (h : plainX e = true) : starEach (e :: es) env = (false, eval e env) :: starEach es env := by
  cases e <;> first | rfl | exact absurd h Bool.false_ne_true
theorem plainIx_ {e : Expr} (h : plainX e = true) : PlainIx e := by
  intro o i
  cases e <;> first | rfl | exact absurd h Bool.false_ne_true
theorem folded_ {e : Expr} {env : Env} (h : plainX e = true) : ∀ x, foldedSetIterable e env x = pure x := by
  intro x
  cases e <;> first | rfl | exact absurd h Bool.false_ne_true
theorem behind_ {e : Expr} {op : CmpOp} (h : plainX e = true) : behindInMarks op e = false := by
  cases e <;> first | rfl | exact absurd h Bool.false_ne_true
theorem attr_ {o : Expr} {nm : Str} {env : Env} {w : Sem Value} (h : noSup o = true) : attributeBase o nm env w = w := by
  cases o <;> first | rfl | skip
  rename_i f es ks pos
  cases es with
  | nil =>
    cases ks with
    | nil => exact absurd h Bool.false_ne_true
    | cons _ _ => cases f <;> rfl
  | cons _ _ => cases f <;> rfl
section
variable {C : Cn} {T : Tab} {N : List Str} {k : Nat} {sc : Scope} {X : Cx}
theorem Fit.gl (F : Fit C T N k sc X) {x : Str} (h : glB sc x = true) : Gl X x := by
  have h' : sc.names.lookup x = some .globalImplicit := of_decide_eq_true h
  show X.env.scope.names.lookup x = some .globalImplicit
  rw [F.sc]
  exact h'
theorem Fit.bi (F : Fit C T N k sc X) {x : Str} {v : Value} (h : boots.lookup x = some v) : X.mg x = none := F.tab.bi x v h
theorem Fit.units1 (F : Fit C T N k sc X) : X.A.units + 1 < cLine := by have := F.hu; omega

/-! ### names, constants -/
theorem pe_varD (F : Fit C T N k sc X) {i : Nat} {x : Str} {pos : Pos} (hN : N[i]? = some x) (hv : visB sc x = true) (ho : okN x = true) : PE X (.Name x pos) (tE C fun ρ => optM (getV ρ i)) := by
  obtain ⟨h1, h2, _⟩ := okN_ ho
  refine wkE (pe_var (by rw [F.n]; exact hN) (by rw [F.sc]; exact vis_ hv) h1 h2) fun σ H Q ⟨ρ, s, W, sr, h⟩ => ?_
  have o := h.out sr
  obtain ⟨d, e, q⟩ := id o
  have e' : ρ[i]? = some (some (.val d)) := by
    unfold getV at e
    split at e
    · rename_i d' q'
      cases e
      exact q'
    · cases e
  obtain ⟨v, e1, r⟩ := sr.env.val i d e'
  exact ⟨v, e1, o.here e r⟩
theorem pe_globD (F : Fit C T N k sc X) {x : Str} {pos : Pos} (hg : glB sc x = true) (ho : okN x = true) : PE X (.Name x pos) (tE C fun _ => optM (T.gl x)) := by
  obtain ⟨h1, h2, _⟩ := okN_ ho
  cases e : T.gl x with
  | none =>
    refine ⟨fun pins s σ H Q I ⟨ρ, st, W, sr, h⟩ => ?_⟩
    exact h.elim
  | some d =>
    obtain ⟨u, v, m, r, rep⟩ := F.tab.gl x d e
    refine wkE (pe_glob (F.gl hg) m r h1) fun σ H Q ⟨ρ, s, W, sr, h⟩ => ?_
    exact (h.out sr).here rfl (by rw [← F.K]; exact rep W H)
theorem pe_conD {e : Expr} {d : D} {v : V} (h : PE X e (tC v)) (r : ∀ W H, RepV C.K W H d v) : PE X e (tE C fun _ => pure d) :=
  wkE h fun σ H Q ⟨ρ, s, W, sr, h⟩ => h.pur sr (r W H)

/-! ### lists of expressions -/
theorem pa_nilD : PA X [] (tEs C fun _ => pure []) := wkA pa_nil fun σ H Q ⟨ρ, s, W, sr, h⟩ => h.pur sr .nil
theorem pa_consD {e : Expr} {es : List Expr} {m : Env' → M D} {ms : Env' → M (List D)} (hp : plainX e = true) (h1 : PE X e (tE C m)) (h2 : PA X es (tEs C ms)) : PA X (e :: es) (tEs C fun ρ => m ρ >>= fun x => ms ρ >>= fun xs => pure (x :: xs)) :=
  wkA (pa_cons h1 h2 (star_plain hp)) fun σ H Q ⟨ρ, s, W, sr, h⟩ => ⟨ρ, s, W, sr, h.bindE.imp fun v H1 ⟨W1, d, s1, sr1, f1, r1, h1⟩ => ⟨ρ, s1, W1, sr1, h1.bindL.imp fun vs H2 ⟨W2, ds, s2, sr2, f2, r2, h2⟩ => h2.pur sr2 (.cons (r1.mono f2.ext) r2)⟩⟩
theorem Run.bindX {α γ δ β : Type} {ρ : Env'} {W : Wd} {σ : L2.St} {H : Hp} {m : M α} {f : α → M γ} {s : Sto} {R1 : Wd → Hp → α → β → Prop} {R : Wd → Hp → γ → δ → Prop} {Q : δ → Hp → Prop} (h : Run C ρ W σ H ((m >>= f) s) R Q) :
    Run C ρ W σ H (m s) R1 fun b H1 => ∃ W1 a s1, m s = .ok a s1 ∧ SR C W1 H1 ρ σ s1 ∧ Frm W W1 H H1 ∧ R1 W1 H1 a b ∧ Run C ρ W1 σ H1 (f a s1) R Q := by
  have e : (m >>= f) s = M.bind m f s := rfl
  rw [e] at h
  unfold M.bind at h
  cases q : m s with
  | ok a s1 =>
    rw [q] at h
    exact fun W1 H1 b x y z => ⟨W1, a, s1, rfl, x, y, z, Run.fwd h y x⟩
  | exn e s1 =>
    rw [q] at h
    exact h
  | bad =>
    rw [q] at h
    exact h
theorem pe_tupD {es : List Expr} {n : Nat} {pos : Pos} {ms : Env' → M (List D)} (h : PA X es (tEs C ms)) (hl : ∀ ρ s xs s', ms ρ s = .ok xs s' → xs.length ≤ 1000) : PE X (.Tuple es n pos) (tE C fun ρ => ms ρ >>= fun xs => pure (.tup xs)) := by
  refine wkE (pe_tup h) fun σ H Q ⟨ρ, s, W, sr, h⟩ => ⟨ρ, s, W, sr, (Run.bindX h).imp fun vs H1 ⟨W1, xs, s1, e, sr1, f1, r1, h1⟩ => ?_⟩
  have hx := hl ρ s xs s1 e
  refine ⟨by rw [r1.length, ← line_eq]; show _ ≤ 16777216; omega, fun p hp => ?_⟩
  have a := Alloc.new0 W1 H1 (o := .tup vs) hp
  refine h1 W1 _ (.ref p) (sr1.alloc a) a.fr ?_
  unfold RepV
  exact ⟨p, vs, rfl, .inl (.inl upd_same), r1.mono a.fr.ext⟩
theorem pe_lstD {es : List Expr} {pos : Pos} {ms : Env' → M (List D)} (h : PA X es (tEs C ms)) (hl : ∀ ρ s xs s', ms ρ s = .ok xs s' → xs.length ≤ 1000) : PE X (.List es pos) (tE C fun ρ => ms ρ >>= fun xs => pure (.lst xs)) := by
  refine wkE (pe_lst h) fun σ H Q ⟨ρ, s, W, sr, h⟩ => ⟨ρ, s, W, sr, (Run.bindX h).imp fun vs H1 ⟨W1, xs, s1, e, sr1, f1, r1, h1⟩ => ?_⟩
  have hx := hl ρ s xs s1 e
  refine ⟨by rw [r1.length, ← line_eq]; show _ ≤ 16777216; omega, fun p hp => ?_⟩
  have a := Alloc.new W1 H1 (o := .lst vs) hp
  refine h1 (W1.add p) _ (.ref p) (sr1.alloc a) a.fr ?_
  unfold RepV
  exact ⟨p, vs, rfl, .inl ⟨.inr rfl, upd_same⟩, r1.mono a.fr.ext⟩
/-- a shared list -/
theorem SR.share {W : Wd} {H : Hp} {ρ : Env'} {σ : L2.St} {s : Sto} {p : Addr} {vs : List V} {xs : List D} (sr : SR C W H ρ σ s) (hp : H p = none) (r : RepL C.K W H xs vs) :
    let W' : Wd := ⟨W.Z, W.mu ++ [p]⟩
    SR C W' (upd H p (.lst vs)) ρ σ (s ++ [.lst xs]) ∧ Frm W W' H (upd H p (.lst vs)) ∧ W'.mu[s.length]? = some p := by
  intro W'
  have k : ∀ a o, H a = some o → upd H p (.lst vs) a = some o := fun a o e => by
    rw [upd_ne (ne_of_none e hp)]; exact e
  have ex : Ext W W' H (upd H p (.lst vs)) := ⟨fun _ h => h, fun a o _ e => k a o e, fun a xs e => k a _ e, fun a o u e => k a _ e, fun n a e => by
    show (W.mu ++ [p])[n]? = some a
    rw [List.getElem?_append_left (List.getElem?_eq_some_iff.mp e).1]
    exact e⟩
  have f : Frm W W' H (upd H p (.lst vs)) := ⟨ex, fun a o e _ => k a o e, fun a z => .inl z, fun a ha => by
    rcases List.mem_append.mp ha with q | q
    · exact .inl q
    · have e : a = p := by simpa using q
      rw [e]; exact .inr hp⟩
  have hml : p ∉ W.mu := fun m => sr.sto.some p m hp
  refine ⟨sr.step f ⟨?_, ?_, fun n c a e1 e2 => ?_, fun a ha z => ?_, fun a z e => ?_⟩, f, ?_⟩
  · show (s ++ [Cell.lst xs]).length = (W.mu ++ [p]).length
    rw [List.length_append, List.length_append, sr.sto.len]
    rfl
  · show (W.mu ++ [p]).Nodup
    rw [List.nodup_append]
    refine ⟨sr.sto.nd, by simp, fun a ha b hb q => ?_⟩
    have e : b = p := by simpa using hb
    subst e
    exact hml (q ▸ ha)
  · by_cases hn : n < s.length
    · rw [List.getElem?_append_left hn] at e1
      have e2' : W.mu[n]? = some a := by
        have e3 : (W.mu ++ [p])[n]? = some a := e2
        rwa [List.getElem?_append_left (by rw [← sr.sto.len]; exact hn)] at e3
      exact (sr.sto.at_ n c a e1 e2').mono ex fun o e => k a o e
    · have hn2 : n = s.length := by
        have q := (List.getElem?_eq_some_iff.mp e1).1
        rw [List.length_append] at q
        simp only [List.length_cons, List.length_nil] at q
        omega
      subst hn2
      have e1' : Cell.lst xs = c := by
        rw [List.getElem?_append_right (Nat.le_refl _)] at e1
        simpa using e1
      have e2' : p = a := by
        have e3 : (W.mu ++ [p])[s.length]? = some a := e2
        rw [sr.sto.len, List.getElem?_append_right (Nat.le_refl _)] at e3
        simpa using e3
      subst e1' e2'
      exact ⟨vs, upd_same, r.mono ex⟩
  · rcases List.mem_append.mp ha with q | q
    · exact sr.sto.nz a q z
    · have e : a = p := by simpa using q
      exact sr.sto.zt p (e ▸ z) hp
  · have q := sr.sto.zt a z
    cases e3 : H a with
    | none => exact q e3
    | some o => rw [k a o e3] at e; cases e
  · show (W.mu ++ [p])[s.length]? = some p
    rw [sr.sto.len, List.getElem?_append_right (Nat.le_refl _)]
    simp
theorem pe_locD {es : List Expr} {pos : Pos} {ms : Env' → M (List D)} (h : PA X es (tEs C ms)) (hl : ∀ ρ s xs s', ms ρ s = .ok xs s' → xs.length ≤ 1000) : PE X (.List es pos) (tE C fun ρ => ms ρ >>= fun xs => newM xs) := by
  refine wkE (pe_lst h) fun σ H Q ⟨ρ, s, W, sr, h⟩ => ⟨ρ, s, W, sr, (Run.bindX h).imp fun vs H1 ⟨W1, xs, s1, e, sr1, f1, r1, h1⟩ => ?_⟩
  have hx := hl ρ s xs s1 e
  refine ⟨by rw [r1.length, ← line_eq]; show _ ≤ 16777216; omega, fun p hp => ?_⟩
  obtain ⟨sr2, f2, e3⟩ := sr1.share hp r1
  refine h1 _ _ (.ref p) sr2 f2 ?_
  unfold RepV
  exact ⟨p, rfl, e3⟩

/-! ### operators -/
theorem pe_binD {a b : Expr} {op : BOp} {pos : Pos} {ma mb : Env' → M D} (hK : X.K = C.K) (ha : PE X a (tE C ma)) (hb : PE X b (tE C mb)) : PE X (.BinOp a (opOf op) b pos) (tE C fun ρ => ma ρ >>= fun x => mb ρ >>= fun y => optM (binD op x y)) :=
  wkE (pe_op (op_bin op) ha hb) fun σ H Q ⟨ρ, s, W, sr, h⟩ => ⟨ρ, s, W, sr, h.bindE.imp fun v H1 ⟨W1, d, s1, sr1, f1, r1, h1⟩ => ⟨ρ, s1, W1, sr1, h1.bindE.imp fun u H2 ⟨W2, e, s2, sr2, f2, r2, h2⟩ =>
    ⟨d, e, W2, by rw [hK]; exact r1.mono f2.ext, by rw [hK]; exact r2, by rw [hK]; exact h2.out sr2⟩⟩⟩
theorem pe_cmpD {a b : Expr} {op : COp} {pos : Pos} {ma mb : Env' → M D} (hK : X.K = C.K) (hu : X.A.units + 65 < cLine) (hp : plainX b = true) (ha : PE X a (tE C ma)) (hb : PE X b (tE C mb)) : PE X (.Compare a [copOf op] [b] pos) (tE C fun ρ => ma ρ >>= fun x => mb ρ >>= fun y => optM (cmpD op x y)) :=
  wkE (pe_cmpR (op_cmp hu op) ha hb (behind_ hp)) fun σ H Q ⟨ρ, s, W, sr, h⟩ => ⟨ρ, s, W, sr, h.bindE.imp fun v H1 ⟨W1, d, s1, sr1, f1, r1, h1⟩ => ⟨ρ, s1, W1, sr1, h1.bindE.imp fun u H2 ⟨W2, e, s2, sr2, f2, r2, h2⟩ =>
    ⟨d, e, W2, by rw [hK]; exact r1.mono f2.ext, by rw [hK]; exact r2, by rw [hK]; exact h2.out sr2⟩⟩⟩
theorem asB_ {d : D} {b : Bool} (h : asB d = some b) : d = .bl b := by
  cases d with
  | bl c =>
    have h' : some c = some b := h
    cases h'
    rfl
  | _ => cases h
def chainM (p q : COp) (ma mb mc : Env' → M D) (ρ : Env') : M D := ma ρ >>= fun x => mb ρ >>= fun y => optM ((cmpD p x y).bind asB) >>= fun r => if r then mc ρ >>= fun z => optM (cmpD q y z) else pure (.bl false)
theorem chain_rd {σ : L2.St} {H : Hp} {Q : VK} {p q : COp} {ma mb mc : Env' → M D} (hK : X.K = C.K) (h : tE C (chainM p q ma mb mc) σ H Q) : tChain (rCmp X.K p) (rCmp X.K q) (tE C ma) (tE C mb) (tE C mc) σ H Q := by
  obtain ⟨ρ, s, W, sr, h⟩ := h
  refine ⟨ρ, s, W, sr, h.bindE.imp fun v H1 ⟨W1, d, s1, sr1, f1, r1, h1⟩ => ⟨ρ, s1, W1, sr1, h1.bindE.imp fun u H2 ⟨W2, e, s2, sr2, f2, r2, h2⟩ => ?_⟩⟩
  obtain ⟨b, e1, h3⟩ := h2.opt
  obtain ⟨c, e2, e3⟩ := Option.bind_eq_some_iff.mp e1
  have e4 := asB_ e3
  subst e4
  refine ⟨d, e, W2, by rw [hK]; exact r1.mono f2.ext, by rw [hK]; exact r2, .bl b, e2, fun W3 H3 z al rz => ?_⟩
  rw [hK] at rz
  have ez := bl_of rz
  subst ez
  have sr3 := sr2.alloc al
  refine ⟨b, rfl, ?_⟩
  cases b with
  | false =>
    rw [if_neg Bool.false_ne_true] at h3 ⊢
    exact h3 W3 H3 _ sr3 al.fr rep_bl
  | true =>
    rw [if_pos rfl] at h3 ⊢
    have h4 := h3.fwd al.fr sr3
    refine ⟨ρ, s2, W3, sr3, h4.bindE.imp fun w H4 ⟨W4, g, s4, sr4, f4, r4, h5⟩ => ?_⟩
    exact ⟨e, g, W4, by rw [hK]; exact (r2.mono al.fr.ext).mono f4.ext, by rw [hK]; exact r4, by rw [hK]; exact h5.out sr4⟩
theorem pe_chainD {a b c : Expr} {p q : COp} {pos : Pos} {ma mb mc : Env' → M D} (hK : X.K = C.K) (hu : X.A.units + 65 < cLine) (hpb : plainX b = true) (hpc : plainX c = true) (ha : PE X a (tE C ma)) (hb : PE X b (tE C mb)) (hc : PE X c (tE C mc)) :
    PE X (.Compare a [copOf p, copOf q] [b, c] pos) (tE C (chainM p q ma mb mc)) :=
  wkE (pe_chain (op_cmp hu p) (op_cmp hu q) ha hb hc (by show behindInMarks (copOf q) c = false; exact behind_ hpc)) fun σ H Q h => chain_rd hK h
end
end PD

set_option Elab.async false
set_option linter.all false
set_option maxRecDepth 100000
set_option maxHeartbeats 8000000
/-! PD11: tests, calls, the rest of the expressions. -/
namespace PD
open PySem PySem.Spec L2

def tst (m : Env' → M D) (ρ : Env') : M Bool := m ρ >>= fun x => optM (asB x)
def andM (ma mb : Env' → M D) (ρ : Env') : M D := ma ρ >>= fun x => optM (asB x) >>= fun r => if r then mb ρ else pure (.bl false)
def orM (ma mb : Env' → M D) (ρ : Env') : M D := ma ρ >>= fun x => optM (asB x) >>= fun r => if r then pure (.bl true) else mb ρ
def notM (ma : Env' → M D) (ρ : Env') : M D := ma ρ >>= fun x => optM (asB x) >>= fun r => pure (.bl !r)
def ifeM (mt ma mb : Env' → M D) (ρ : Env') : M D := mt ρ >>= fun x => optM (asB x) >>= fun r => if r then ma ρ else mb ρ
theorem tst_and (ma mb : Env' → M D) (ρ : Env') : tst (andM ma mb) ρ = tst ma ρ >>= fun r => if r then tst mb ρ else pure false := by
  unfold tst andM
  rw [bind_bind, bind_bind]
  congr 1
  funext x
  rw [bind_bind]
  congr 1
  funext r
  cases r <;> rfl
theorem tst_or (ma mb : Env' → M D) (ρ : Env') : tst (orM ma mb) ρ = tst ma ρ >>= fun r => if r then pure true else tst mb ρ := by
  unfold tst orM
  rw [bind_bind, bind_bind]
  congr 1
  funext x
  rw [bind_bind]
  congr 1
  funext r
  cases r <;> rfl
theorem tst_not (ma : Env' → M D) (ρ : Env') : tst (notM ma) ρ = tst ma ρ >>= fun r => pure !r := by
  unfold tst notM
  rw [bind_bind, bind_bind]
  congr 1
  funext x
  rw [bind_bind]
  congr 1
theorem tst_ife (mt ma mb : Env' → M D) (ρ : Env') : tst (ifeM mt ma mb) ρ = tst mt ρ >>= fun r => if r then tst ma ρ else tst mb ρ := by
  unfold tst ifeM
  rw [bind_bind, bind_bind]
  congr 1
  funext x
  rw [bind_bind]
  congr 1
  funext r
  cases r <;> rfl
theorem and_alt (ma mb : Env' → M D) (ρ : Env') : andM ma mb ρ = tst ma ρ >>= fun r => if r then mb ρ else pure (.bl false) := by
  unfold tst andM
  rw [bind_bind]
theorem or_alt (ma mb : Env' → M D) (ρ : Env') : orM ma mb ρ = tst ma ρ >>= fun r => if r then pure (.bl true) else mb ρ := by
  unfold tst orM
  rw [bind_bind]
theorem ife_alt (mt ma mb : Env' → M D) (ρ : Env') : ifeM mt ma mb ρ = tst mt ρ >>= fun r => if r then ma ρ else mb ρ := by
  unfold tst ifeM
  rw [bind_bind]
section
variable {C : Cn} {T : Tab} {N : List Str} {k : Nat} {sc : Scope} {X : Cx}
/-! ### tests -/
/-- a value that is a bool: from its reading -/
theorem tst_rd {σ : L2.St} {H : Hp} {Q : Bool → Hp → Prop} {m : Env' → M D} (h : tTt C (tst m) σ H Q) : tE C m σ H fun x H1 => ∃ c, x = .bl c ∧ Q c H1 := by
  obtain ⟨ρ, s, W, sr, h⟩ := h
  refine ⟨ρ, s, W, sr, (Run.bindE h).imp fun v H1 ⟨W1, d, s1, sr1, f1, r1, h1⟩ => ?_⟩
  cases e : asB d with
  | none => rw [e] at h1; exact h1.elim
  | some b =>
    rw [e] at h1
    have e2 := asB_ e
    subst e2
    exact ⟨b, bl_of r1, h1 W1 H1 b sr1 (Frm.refl _ _) rfl⟩
theorem pt_plainD {e : Expr} {m : Env' → M D} (h : PE X e (tE C m)) (he : ∀ whole, PySem.isTrue e X.env whole = (do let v ← whole; standAt e.pos; holding [v] (truthy v))) : PT X e (tTt C (tst m)) :=
  wkT (pt_val h he) fun σ H Q h => tst_rd h
theorem pt_cmpD {a b : Expr} {op : COp} {pos : Pos} {ma mb : Env' → M D} (hK : X.K = C.K) (hu : X.A.units + 65 < cLine) (hp : plainX b = true) (ha : PE X a (tE C ma)) (hb : PE X b (tE C mb)) : PT X (.Compare a [copOf op] [b] pos) (tTt C (tst fun ρ => ma ρ >>= fun x => mb ρ >>= fun y => optM (cmpD op x y))) := by
  refine wkT (pt_cmpR (op_cmp hu op) ha hb (behind_ hp)) fun σ H Q h => ?_
  obtain ⟨ρ, s, W, sr, h⟩ := tst_rd h
  exact ⟨ρ, s, W, sr, (Run.bindE h).imp fun v H1 ⟨W1, d, s1, sr1, f1, r1, h1⟩ => ⟨ρ, s1, W1, sr1, (Run.bindE h1).imp fun u H2 ⟨W2, e, s2, sr2, f2, r2, h2⟩ =>
    ⟨d, e, W2, by rw [hK]; exact r1.mono f2.ext, by rw [hK]; exact r2, by rw [hK]; exact h2.out sr2⟩⟩⟩
theorem pt_chainD {a b c : Expr} {p q : COp} {pos : Pos} {ma mb mc : Env' → M D} (hK : X.K = C.K) (hu : X.A.units + 65 < cLine) (hpb : plainX b = true) (hpc : plainX c = true) (ha : PE X a (tE C ma)) (hb : PE X b (tE C mb)) (hc : PE X c (tE C mc)) :
    PT X (.Compare a [copOf p, copOf q] [b, c] pos) (tTt C (tst (chainM p q ma mb mc))) :=
  wkT (pt_chain (op_cmp hu p) (op_cmp hu q) ha hb hc (by show behindInMarks (copOf q) c = false; exact behind_ hpc)) fun σ H Q h => chain_rd hK (tst_rd h)
theorem pw_and1D {a : Expr} {pos : Pos} {m : Env' → M Bool} (h : PT X a (tTt C m)) : PW X (.BoolOp .And [a] pos) (tTt C m) := pw_and1 h
theorem pw_or1D {a : Expr} {pos : Pos} {m : Env' → M Bool} (h : PT X a (tTt C m)) : PW X (.BoolOp .Or [a] pos) (tTt C m) := pw_or1 h
theorem pw_andD {a b : Expr} {rest : List Expr} {pos : Pos} {ma mb : Env' → M D} (ha : PT X a (tTt C (tst ma))) (hb : PW X (.BoolOp .And (b :: rest) pos) (tTt C (tst mb))) : PW X (.BoolOp .And (a :: b :: rest) pos) (tTt C (tst (andM ma mb))) := by
  refine wkW (pw_and ha hb) fun σ H Q ⟨ρ, s, W, sr, h⟩ => ?_
  rw [tst_and] at h
  refine ⟨ρ, s, W, sr, (Run.bindB h).imp fun r H1 ⟨W1, s1, sr1, f1, h1⟩ => ?_⟩
  cases r with
  | false => exact h1 W1 H1 false sr1 (Frm.refl _ _) rfl
  | true => exact ⟨ρ, s1, W1, sr1, h1⟩
theorem pw_orD {a b : Expr} {rest : List Expr} {pos : Pos} {ma mb : Env' → M D} (ha : PT X a (tTt C (tst ma))) (hb : PW X (.BoolOp .Or (b :: rest) pos) (tTt C (tst mb))) : PW X (.BoolOp .Or (a :: b :: rest) pos) (tTt C (tst (orM ma mb))) := by
  refine wkW (pw_or ha hb) fun σ H Q ⟨ρ, s, W, sr, h⟩ => ?_
  rw [tst_or] at h
  refine ⟨ρ, s, W, sr, (Run.bindB h).imp fun r H1 ⟨W1, s1, sr1, f1, h1⟩ => ?_⟩
  cases r with
  | true => exact h1 W1 H1 true sr1 (Frm.refl _ _) rfl
  | false => exact ⟨ρ, s1, W1, sr1, h1⟩
theorem pt_notD {a : Expr} {pos : Pos} {ma : Env' → M D} (ha : PT X a (tTt C (tst ma))) : PT X (.UnaryOp .Not a pos) (tTt C (tst (notM ma))) := by
  refine wkT (pt_not ha) fun σ H Q ⟨ρ, s, W, sr, h⟩ => ?_
  rw [tst_not] at h
  exact ⟨ρ, s, W, sr, (Run.bindB h).imp fun r H1 ⟨W1, s1, sr1, f1, h1⟩ => h1 W1 H1 (!r) sr1 (Frm.refl _ _) rfl⟩
theorem pt_ifeD {t a b : Expr} {pos : Pos} {mt ma mb : Env' → M D} (ht : PT X t (tTt C (tst mt))) (ha : PT X a (tTt C (tst ma))) (hb : PT X b (tTt C (tst mb))) : PT X (.IfExp t a b pos) (tTt C (tst (ifeM mt ma mb))) := by
  refine ⟨fun pins s σ H Q I ⟨ρ, st, W, sr, h⟩ => ?_⟩
  rw [tst_ife] at h
  have e : PySem.isTrue (.IfExp t a b pos) X.env (eval (.IfExp t a b pos) X.env) = (do
      if ← PySem.isTrue t X.env (eval t X.env) then PySem.isTrue a X.env (eval a X.env) else PySem.isTrue b X.env (eval b X.env)) := by rw [PySem.isTrue]
  rw [e]
  refine wpAny_bind (thn (ht.run pins s σ H _ I ⟨ρ, st, W, sr, Run.bindB h⟩) fun r s1 ⟨H1, I1, W1, st1, sr1, f1, h1⟩ => ?_)
  cases r with
  | true => exact ha.run pins s1 σ H1 Q I1 ⟨ρ, st1, W1, sr1, h1⟩
  | false => exact hb.run pins s1 σ H1 Q I1 ⟨ρ, st1, W1, sr1, h1⟩
/-! ### and, or, not, if as values -/
theorem pe_andD {a b : Expr} {rest : List Expr} {pos : Pos} {ma mb : Env' → M D} (ha : PE X a (tE C ma)) (hb : PE X (.BoolOp .And (b :: rest) pos) (tE C mb)) : PE X (.BoolOp .And (a :: b :: rest) pos) (tE C (andM ma mb)) := by
  refine wkE (pe_and ha hb) fun σ H Q ⟨ρ, s, W, sr, h⟩ => ?_
  refine ⟨ρ, s, W, sr, (Run.bindE h).imp fun v H1 ⟨W1, d, s1, sr1, f1, r1, h1⟩ => ?_⟩
  obtain ⟨r, e, h2⟩ := h1.opt
  have e2 := asB_ e
  subst e2
  refine ⟨r, bl_of r1, ?_⟩
  cases r with
  | true => exact ⟨ρ, s1, W1, sr1, h2⟩
  | false => exact h2 W1 H1 _ sr1 (Frm.refl _ _) rep_bl
theorem pe_orD {a b : Expr} {rest : List Expr} {pos : Pos} {ma mb : Env' → M D} (ha : PE X a (tE C ma)) (hb : PE X (.BoolOp .Or (b :: rest) pos) (tE C mb)) : PE X (.BoolOp .Or (a :: b :: rest) pos) (tE C (orM ma mb)) := by
  refine wkE (pe_or ha hb) fun σ H Q ⟨ρ, s, W, sr, h⟩ => ?_
  refine ⟨ρ, s, W, sr, (Run.bindE h).imp fun v H1 ⟨W1, d, s1, sr1, f1, r1, h1⟩ => ?_⟩
  obtain ⟨r, e, h2⟩ := h1.opt
  have e2 := asB_ e
  subst e2
  refine ⟨r, bl_of r1, ?_⟩
  cases r with
  | false => exact ⟨ρ, s1, W1, sr1, h2⟩
  | true => exact h2 W1 H1 _ sr1 (Frm.refl _ _) rep_bl
theorem pe_notD {a : Expr} {pos : Pos} {ma : Env' → M D} (ha : PE X a (tE C ma)) : PE X (.UnaryOp .Not a pos) (tE C (notM ma)) := by
  refine wkE (pe_not ha) fun σ H Q ⟨ρ, s, W, sr, h⟩ => ?_
  refine ⟨ρ, s, W, sr, (Run.bindE h).imp fun v H1 ⟨W1, d, s1, sr1, f1, r1, h1⟩ => ?_⟩
  obtain ⟨r, e, h2⟩ := h1.opt
  have e2 := asB_ e
  subst e2
  exact ⟨r, bl_of r1, h2 W1 H1 _ sr1 (Frm.refl _ _) rep_bl⟩
theorem pe_ifeD {t a b : Expr} {pos : Pos} {mt ma mb : Env' → M D} (ht : PT X t (tTt C (tst mt))) (ha : PE X a (tE C ma)) (hb : PE X b (tE C mb)) : PE X (.IfExp t a b pos) (tE C (ifeM mt ma mb)) := by
  refine wkE (pe_ifExp ht ha hb) fun σ H Q ⟨ρ, s, W, sr, h⟩ => ?_
  rw [ife_alt] at h
  refine ⟨ρ, s, W, sr, (Run.bindB h).imp fun r H1 ⟨W1, s1, sr1, f1, h1⟩ => ?_⟩
  cases r with
  | true => exact ⟨ρ, s1, W1, sr1, h1⟩
  | false => exact ⟨ρ, s1, W1, sr1, h1⟩
theorem pe_negD {a : Expr} {pos : Pos} {ma : Env' → M D} (ha : PE X a (tE C ma)) : PE X (.UnaryOp .USub a pos) (tE C fun ρ => ma ρ >>= fun x => optM ((asInt x).map fun i => .int (-i))) := by
  refine wkE (pe_un un_neg ha) fun σ H Q ⟨ρ, s, W, sr, h⟩ => ?_
  refine ⟨ρ, s, W, sr, (Run.bindE h).imp fun v H1 ⟨W1, d, s1, sr1, f1, r1, h1⟩ => ?_⟩
  cases d with
  | int i => exact ⟨i, int_of r1, h1 W1 H1 _ sr1 (Frm.refl _ _) rep_int⟩
  | _ => exact h1.elim
/-! ### subscripts -/
theorem pe_idxD {a b : Expr} {pos : Pos} {ma mb : Env' → M D} (hK : X.K = C.K) (hu : X.A.units + 65 < cLine) (hp : plainX b = true) (ha : PE X a (tE C ma)) (hb : PE X b (tE C mb)) : PE X (.Subscript a b pos) (tE C fun ρ => ma ρ >>= fun x => mb ρ >>= fun y => fun s => optM (idxD x y s) s) :=
  wkE (pe_ix (ix_idx hu) ha hb (plainIx_ hp)) fun σ H Q ⟨ρ, s, W, sr, h⟩ => ⟨ρ, s, W, sr, h.bindE.imp fun v H1 ⟨W1, d, s1, sr1, f1, r1, h1⟩ => ⟨ρ, s1, W1, sr1, h1.bindE.imp fun u H2 ⟨W2, e, s2, sr2, f2, r2, h2⟩ =>
    ⟨d, e, W2, s2, by rw [hK]; exact sr2.sto, by rw [hK]; exact r1.mono f2.ext, by rw [hK]; exact r2, by rw [hK]; exact Run.out (o := idxD d e s2) h2 sr2⟩⟩⟩
/-- a bound of a slice that is written -/
def tOd (C : Cn) (m : Env' → M (Option Int)) : TO := fun σ H Q => ∃ ρ s W, SR C W H ρ σ s ∧ Run C ρ W σ H (m ρ s) (fun _ _ a b => a = b) Q
theorem po_noneD : PO X none (tOd C fun _ => bndM (pure none)) := ⟨fun pins s σ H Q I ⟨ρ, st, W, sr, h⟩ => (po_none (X := X)).run pins s σ H Q I (h W H none sr (Frm.refl _ _) rfl)⟩
theorem po_someD {e : Expr} {m : Env' → M D} (he : PE X e (tE C m)) : PO X (some e) (tOd C fun ρ => bndM (m ρ >>= fun x => pure (some x))) := by
  refine ⟨fun pins s σ H Q I ⟨ρ, st, W, sr, h⟩ => (po_some he).run pins s σ H Q I ?_⟩
  have h' : Run C ρ W σ H ((m ρ >>= fun x => (pure (some x) >>= fun y => optM (bndD y) : M (Option Int))) st) (fun _ _ a b => a = b) Q := by
    have e : bndM (m ρ >>= fun x => pure (some x)) = (m ρ >>= fun x => (pure (some x) >>= fun y => optM (bndD y) : M (Option Int))) := bind_bind _ _ _
    rw [← e]
    exact h
  refine ⟨ρ, st, W, sr, (Run.bindE h').imp fun v H1 ⟨W1, d, s1, sr1, f1, r1, h1⟩ => ?_⟩
  cases d with
  | int i => exact ⟨i, int_of r1, h1 W1 H1 _ sr1 (Frm.refl _ _) rfl⟩
  | _ => exact h1.elim
theorem pe_slcD {a : Expr} {lo hi : Option Expr} {pos p2 : Pos} {ma : Env' → M D} {ml mh : Env' → M (Option Int)} (hK : X.K = C.K) (ha : PE X a (tE C ma)) (hl : PO X lo (tOd C ml)) (hh : PO X hi (tOd C mh)) :
    PE X (.Subscript a (.Slice lo hi none p2) pos) (tE C fun ρ => ma ρ >>= fun x => ml ρ >>= fun l => mh ρ >>= fun h => optM (slcD x l h)) := by
  refine wkE (pe_slice sl_slc ha hl hh) fun σ H Q ⟨ρ, s, W, sr, h⟩ => ⟨ρ, s, W, sr, h.bindE.imp fun v H1 ⟨W1, d, s1, sr1, f1, r1, h1⟩ => ?_⟩
  refine ⟨ρ, s1, W1, sr1, (Run.bind (R1 := fun _ _ a b => a = b) h1).imp fun l H2 ⟨W2, l', s2, sr2, f2, e2, h2⟩ => ?_⟩
  subst e2
  refine ⟨ρ, s2, W2, sr2, (Run.bind (R1 := fun _ _ a b => a = b) h2).imp fun u H3 ⟨W3, u', s3, sr3, f3, e3, h3⟩ => ?_⟩
  subst e3
  exact ⟨d, W3, by rw [hK]; exact (r1.mono f2.ext).mono f3.ext, by rw [hK]; exact h3.out sr3⟩

/-! ### calls -/
theorem stars_plain : ∀ {es : List Expr} {env : Env} {pos : Pos}, es.all plainX = true → (backTo pos (starEach es env)).any (·.1) = false
  | [], env, pos, h => rfl
  | e :: es, env, pos, h => by
    rw [List.all_cons, Bool.and_eq_true] at h
    rw [star_plain h.1]
    show (false || (backTo pos (starEach es env)).any (·.1)) = false
    rw [stars_plain h.2]
    rfl
theorem pe_call1D (F : Fit C T N k sc X) {x : Str} {e : Expr} {es : List Expr} {p pos : Pos} {ms : Env' → M (List D)} (hg : glB sc x = true) (ho : okN x = true) (hp : plainX e = true) (hps : es.all plainX = true) (ha : PA X (e :: es) (tEs C ms)) :
    PE X (.Call (.Name x p) (e :: es) [] pos) (tE C fun ρ => callM (T.fn x) (ms ρ)) := by
  obtain ⟨h1, h2, _⟩ := okN_ ho
  cases e1 : T.fn x with
  | none => exact ⟨fun pins s σ H Q I ⟨ρ, st, W, sr, h⟩ => h.elim⟩
  | some m =>
    obtain ⟨f, fd, ps, hm, hk, hb, hf, har⟩ := F.tab.fn x m e1
    refine wkE (pe_callSD hf F.room (F.gl hg) hm hk hb .nil (fun σ => passAt F.takes σ) ha h1 (star_plain hp) (stars_plain hps)) fun σ H Q ⟨ρ, s, W, sr, h⟩ => ?_
    refine ⟨ρ, s, W, sr, (Run.bindL h).imp fun vs H1 ⟨W1, ds, s1, sr1, f1, r1, h1⟩ => ?_⟩
    have hlen : ds.length = ps.length := by
      by_cases hl : ds.length = ps.length
      · exact hl
      · have hb := har ds s1 hl
        have h1' : Run C ρ W1 σ H1 (m ds s1) (RepV C.K) Q := h1
        rw [hb] at h1'
        exact h1'.elim
    refine ⟨W1, s1, ds, by rw [F.K]; exact sr1.sto, by rw [List.append_nil, F.K]; exact r1, hlen, ?_⟩
    have h1' : Run C ρ W1 σ H1 (m ds s1) (RepV C.K) Q := h1
    rw [F.K, F.mg]
    cases q : m ds s1 with
    | ok d s2 =>
      rw [q] at h1'
      exact fun W' H' v fr st r => h1' W' H' v (sr1.step fr st) fr r
    | exn x s2 =>
      rw [q] at h1'
      exact fun W' H' c dd fr st ex => h1' W' H' c dd (sr1.step fr st) fr ex
    | bad =>
      rw [q] at h1'
      exact h1'
theorem pe_callSD0 {CX : CXT} {j : Nat} {f : Addr} {fd : FuncData} {ps : List Str} {sp : Sp} {ds : List Value} {dvs : List V} {x : Str} {p pos : Pos} {E : L2.St → XK} (F : FnOk X.prog X.w X.K X.mg X.base CX j f fd ps sp) (hr : Room j X.A) (hg : Gl X x) (hm : X.mg x = some (.ref f)) (hk : PySem.W.keepIn X.K (.ref f) = true) (hb : Binds X.K fd ps ds) (hd : Vals dvs ds) (hx : ∀ σ, PassesAt CX X σ (E σ))
    (hdb : (x == ("__debug__" : Str)) = false) : PE X (.Call (.Name x p) [] [] pos) (tCallSD sp dvs E tNil) := by
  refine ⟨fun pins s σ H Q I h => ?_⟩
  refine wpAny_Call_Name_kw (ld_glob I hg hm ?_ hdb)
  exact PySem.W.callWith_K0 I.kIn hk (run_fnSD (us := []) F hr hb hd (hx σ) I .nil h)
theorem pe_call0D (F : Fit C T N k sc X) {x : Str} {p pos : Pos} (hg : glB sc x = true) (ho : okN x = true) :
    PE X (.Call (.Name x p) [] [] pos) (tE C fun ρ => callM (T.fn x) (pure [])) := by
  obtain ⟨h1, h2, _⟩ := okN_ ho
  cases e1 : T.fn x with
  | none => exact ⟨fun pins s σ H Q I ⟨ρ, st, W, sr, h⟩ => h.elim⟩
  | some m =>
    obtain ⟨f, fd, ps, hm, hk, hb, hf, har⟩ := F.tab.fn x m e1
    refine wkE (pe_callSD0 hf F.room (F.gl hg) hm hk hb .nil (fun σ => passAt F.takes σ) h1) fun σ H Q ⟨ρ, s, W, sr, h⟩ => ?_
    refine (Run.bindL (m := pure []) h).pur sr (b := []) .nil |> fun ⟨W1, ds, s1, sr1, f1, r1, h1⟩ => ?_
    show spOf X.K X.mg ps.length m [] H Q _
    have hlen : ds.length = ps.length := by
      by_cases hl : ds.length = ps.length
      · exact hl
      · have hb := har ds s1 hl
        have h1' : Run C ρ W1 σ H (m ds s1) (RepV C.K) Q := h1
        rw [hb] at h1'
        exact h1'.elim
    refine ⟨W1, s1, ds, by rw [F.K]; exact sr1.sto, by rw [F.K]; exact r1, hlen, ?_⟩
    have h1' : Run C ρ W1 σ H (m ds s1) (RepV C.K) Q := h1
    rw [F.K, F.mg]
    cases q : m ds s1 with
    | ok d s2 =>
      rw [q] at h1'
      exact fun W' H' v fr st r => h1' W' H' v (sr1.step fr st) fr r
    | exn x s2 =>
      rw [q] at h1'
      exact fun W' H' c dd fr st ex => h1' W' H' c dd (sr1.step fr st) fr ex
    | bad =>
      rw [q] at h1'
      exact h1'
theorem pe_callD (F : Fit C T N k sc X) {x : Str} {es : List Expr} {p pos : Pos} {cs : List Cd} (hg : glB sc x = true) (ho : okN x = true) (hps : es.all plainX = true) (hn : es = [] → cs = []) (ha : PA X es (tEs C (evs T cs))) :
    PE X (.Call (.Name x p) es [] pos) (tE C fun ρ => callM (T.fn x) (evs T cs ρ)) := by
  cases es with
  | nil =>
    have e := hn rfl
    subst e
    refine wkE (pe_call0D F hg ho) fun σ H Q h => ?_
    have e2 : (fun ρ => callM (T.fn x) (evs T [] ρ)) = fun _ => callM (T.fn x) (pure []) := by
      funext ρ
      rw [evs]
    rw [e2] at h
    exact h
  | cons e es =>
    rw [List.all_cons, Bool.and_eq_true] at hps
    exact pe_call1D F hg ho hps.1 hps.2 ha

end
end PD

set_option Elab.async false
set_option linter.all false
set_option maxRecDepth 100000
set_option maxHeartbeats 8000000
/-! PD12: built-ins, methods, displays, what is walked: as expressions. -/
namespace PD
open PySem PySem.Spec L2

section
variable {C : Cn} {T : Tab} {N : List Str} {k : Nat} {sc : Scope} {X : Cx}
theorem bif_rd {σ : L2.St} {H : Hp} {Q : VK} {f : Bif} {ms : Env' → M (List D)} (hK : X.K = C.K) (h : tE C (fun ρ => ms ρ >>= fun xs => optM (bifD f xs)) σ H Q) : tCB (rBif X.K f) (tEs C ms) σ H Q := by
  obtain ⟨ρ, s, W, sr, h⟩ := h
  exact ⟨ρ, s, W, sr, (Run.bindL h).imp fun vs H1 ⟨W1, ds, s1, sr1, f1, r1, h1⟩ => ⟨ds, W1, by rw [hK]; exact r1, by rw [hK]; exact h1.out sr1⟩⟩
theorem bif_boot (f : Bif) : boots.lookup (bifN f) = some (bifV f) := by cases f <;> decide +kernel
theorem pe_bifD (F : Fit C T N k sc X) {f : Bif} {e : Expr} {es : List Expr} {p pos : Pos} {ms : Env' → M (List D)} (hg : glB sc (bifN f) = true) (hp : plainX e = true) (hps : es.all plainX = true) (ha : PA X (e :: es) (tEs C ms)) :
    PE X (.Call (.Name (bifN f) p) (e :: es) [] pos) (tE C fun ρ => ms ρ >>= fun xs => optM (bifD f xs)) := by
  have hb := bif_boot f
  obtain ⟨b1, b2, b3⟩ := boot_of hb
  have hm := F.bi hb
  cases f with
  | len => exact wkE (pe_callB (id := "len") (cr_bif F.calm F.hu .len) (F.gl hg) hm b1 ha b2 b3 (star_plain hp) (stars_plain hps)) fun σ H Q h => bif_rd F.K h
  | all => exact wkE (pe_callB (id := "all") (cr_bif F.calm F.hu .all) (F.gl hg) hm b1 ha b2 b3 (star_plain hp) (stars_plain hps)) fun σ H Q h => bif_rd F.K h
  | any => exact wkE (pe_callB (id := "any") (cr_bif F.calm F.hu .any) (F.gl hg) hm b1 ha b2 b3 (star_plain hp) (stars_plain hps)) fun σ H Q h => bif_rd F.K h
  | sum => exact wkE (pe_callB (id := "sum") (cr_bif F.calm F.hu .sum) (F.gl hg) hm b1 ha b2 b3 (star_plain hp) (stars_plain hps)) fun σ H Q h => bif_rd F.K h
  | min => exact wkE (pe_callB (id := "min") (cr_bif F.calm F.hu .min) (F.gl hg) hm b1 ha b2 b3 (star_plain hp) (stars_plain hps)) fun σ H Q h => bif_rd F.K h
  | sorted => exact wkE (pe_callB (id := "sorted") (cr_bif F.calm F.hu .sorted) (F.gl hg) hm b1 ha b2 b3 (star_plain hp) (stars_plain hps)) fun σ H Q h => bif_rd F.K h
  | tuple => exact wkE (pe_callTy (T := "tuple") (cr_bif F.calm F.hu .tuple) (F.gl hg) hm b1 ha b2 b3 (star_plain hp) (stars_plain hps)) fun σ H Q h => bif_rd F.K h
  | list => exact wkE (pe_callTy (T := "list") (cr_bif F.calm F.hu .list) (F.gl hg) hm b1 ha b2 b3 (star_plain hp) (stars_plain hps)) fun σ H Q h => bif_rd F.K h
  | int => exact wkE (pe_callTy (T := "int") (cr_bif F.calm F.hu .int) (F.gl hg) hm b1 ha b2 b3 (star_plain hp) (stars_plain hps)) fun σ H Q h => bif_rd F.K h
  | str => exact wkE (pe_callTy (T := "str") (cr_bif F.calm F.hu .str) (F.gl hg) hm b1 ha b2 b3 (star_plain hp) (stars_plain hps)) fun σ H Q h => bif_rd F.K h
theorem ty_boot (t : Ty) : boots.lookup (tyS t) = some (.type (tyN t)) := by cases t <;> decide +kernel
theorem pe_isiD (F : Fit C T N k sc X) {t : Ty} {e : Expr} {p p2 pos : Pos} {m : Env' → M D} (hg : glB sc ("isinstance" : Str) = true) (hg2 : glB sc (tyS t) = true) (hp : plainX e = true) (ha : PE X e (tE C m)) :
    PE X (.Call (.Name ("isinstance" : Str) p) [e, .Name (tyS t) p2] [] pos) (tE C fun ρ => m ρ >>= fun x => optM ((isiD t x).map .bl)) := by
  have hb : boots.lookup ("isinstance" : Str) = some (.builtin "isinstance") := by decide +kernel
  obtain ⟨b1, b2, b3⟩ := boot_of hb
  obtain ⟨c1, c2, c3⟩ := boot_of (ty_boot t)
  have pt : PE X (.Name (tyS t) p2) (tC (.ty (tyN t))) := pe_bltn (F.gl hg2) (F.bi (ty_boot t)) c1 rfl c2 c3
  refine wkE (pe_callB (id := "isinstance") (cr_isi t) (F.gl hg) (F.bi hb) b1 (pa_cons ha (pa_cons pt pa_nil) (star_plain hp)) b2 b3 (star_plain hp) rfl) fun σ H Q ⟨ρ, s, W, sr, h⟩ => ?_
  refine ⟨ρ, s, W, sr, (Run.bindE h).imp fun v H1 ⟨W1, d, s1, sr1, f1, r1, h1⟩ => ?_⟩
  have o := h1.out sr1
  obtain ⟨d0, e0, q0⟩ := id o
  obtain ⟨b, e1, e2⟩ := Option.map_eq_some_iff.mp e0
  exact ⟨d, v, W1, b, rfl, by rw [F.K]; exact r1, e1, o.here (by rw [e1]; rfl) rep_bl⟩

/-! ### methods -/
def rMth (K : PySem.W.Frag) (m : Mth) : V → List V → Hp → VK → Prop := fun x vs H Q => ∃ d ds W, RepV K W H d x ∧ RepL K W H ds vs ∧ Out K W H (mthD m d ds) Q
theorem mt_getD (hu : X.A.units + 65 < cLine) : MtR X "dict.get" (rMth X.K .get) := by
  intro pins s σ H x xs v us Q I rx rxs ⟨d, ds, W, rd, rs, o⟩
  obtain ⟨d0, e0, q0⟩ := id o
  cases d with
  | dct ks vs =>
    obtain ⟨p, ws, rfl, z, l, hl, nd, r⟩ := dct_of rd
    cases rx
    cases ds with
    | nil => exact bad_o e0
    | cons d1 ds =>
      cases ds with
      | nil => cases d1 <;> exact bad_o e0
      | cons d2 ds =>
        cases ds with
        | nil =>
          cases d1 with
          | str kk =>
            obtain ⟨v1, v2, rfl, r1, r2⟩ := two_of rs
            cases str_of r1
            obtain ⟨u1, u2, rfl, t1, t2⟩ := vals2 rxs
            have g := DGet.k (k := Sum.inr kk) l
            have lk := zipK_look (k := kk) r hl
            refine d_get2 (by omega) I g t1 t2 fun w' s' I' rw' => ?_
            cases e : lookS kk ks vs with
            | some dd =>
              obtain ⟨wv, e2, rv⟩ := lk.1 dd e
              rw [e2] at rw'
              exact ⟨wv, H, I', rw', o.here (show some ((lookS kk ks vs).getD d2) = some dd by rw [e]; rfl) rv⟩
            | none =>
              rw [lk.2 e] at rw'
              exact ⟨v2, H, I', rw', o.here (show some ((lookS kk ks vs).getD d2) = some d2 by rw [e]; rfl) r2⟩
          | _ => exact bad_o e0
        | cons _ _ => cases d1 <;> exact bad_o e0
  | _ => exact bad_o e0
theorem mt_splitD : MtR X "str.split" (rMth X.K .split) := by
  intro pins s σ H x xs v us Q I rx rxs ⟨d, ds, W, rd, rs, o⟩
  obtain ⟨d0, e0, q0⟩ := id o
  cases d with
  | str a =>
    cases str_of rd
    cases ds with
    | nil => exact bad_o e0
    | cons d1 ds =>
      cases ds with
      | nil =>
        cases d1 with
        | str b =>
          obtain ⟨v1, rfl, r1⟩ := one_of rs
          cases str_of r1
          by_cases hz : (b.length == 0) = false ∧ a.length + 2 ≤ line
          · have e : mthD .split (.str a) [.str b] = some (.lst ((Txt.split a b).map .str)) := if_pos hz
            exact mt_split pins s σ H _ _ v us Q I rx rxs ⟨a, b, rfl, rfl, hz.1, by rw [← line_eq]; exact hz.2, o.newL e (RepL.ofStrs _)⟩
          · exact bad_o ((if_neg hz : mthD .split (.str a) [.str b] = none).symm.trans e0)
        | _ => exact bad_o e0
      | cons _ _ => cases d1 <;> exact bad_o e0
  | _ => exact bad_o e0
theorem mt_joinD : MtR X "str.join" (rMth X.K .join) := by
  intro pins s σ H x xs v us Q I rx rxs ⟨d, ds, W, rd, rs, o⟩
  obtain ⟨d0, e0, q0⟩ := id o
  cases d with
  | str a =>
    cases str_of rd
    cases ds with
    | nil => exact bad_o e0
    | cons d1 ds =>
      cases ds with
      | nil =>
        cases d1 with
        | lst ys =>
          obtain ⟨v1, rfl, r1⟩ := one_of rs
          obtain ⟨p, ws, rfl, l, rl⟩ := lst_of r1
          obtain ⟨zs, e1, e2⟩ := Option.bind_eq_some_iff.mp (show ((asStrs ys).bind fun zs => if (zs.map (·.length)).sum + zs.length * a.length ≤ 16777216 then some (D.str (Txt.join a zs)) else none) = some d0 from e0)
          by_cases hz : (zs.map (·.length)).sum + zs.length * a.length ≤ 16777216
          · have es := rl.strs e1
            subst es
            refine mt_join pins s σ H _ _ v us Q I rx rxs ⟨a, p, zs, rfl, rfl, .inl l.sq, hz, o.here ?_ rep_str⟩
            show ((asStrs ys).bind fun zs => if (zs.map (·.length)).sum + zs.length * a.length ≤ 16777216 then some (D.str (Txt.join a zs)) else none) = _
            rw [e1]
            show (if (zs.map (·.length)).sum + zs.length * a.length ≤ 16777216 then some (D.str (Txt.join a zs)) else none) = _
            rw [if_pos hz]
          · rw [if_neg hz] at e2
            exact bad_o e2
        | _ => exact bad_o e0
      | cons _ _ => cases d1 <;> exact bad_o e0
  | _ => exact bad_o e0
theorem few_plain : ∀ {es : List Expr} {env : Env} {pos : Pos}, es.all plainX = true → (backTo pos (starEach es env)).all (fun x => !x.1) = true
  | [], env, pos, h => rfl
  | e :: es, env, pos, h => by
    rw [List.all_cons, Bool.and_eq_true] at h
    rw [star_plain h.1]
    show (true && (backTo pos (starEach es env)).all (fun x => !x.1)) = true
    rw [few_plain h.2]
    rfl
theorem pe_mthD (F : Fit C T N k sc X) {m : Mth} {nm : Str} {o e : Expr} {es : List Expr} {apos cpos : Pos} {ma : Env' → M D} {ms : Env' → M (List D)} (hn : mthN m = some nm) (hs : noSup o = true) (hl : (apos.endLine == cpos.line) = true) (hlen : es.length ≤ 5)
    (hp : plainX e = true) (hps : es.all plainX = true) (ho : PE X o (tE C ma)) (ha : PA X (e :: es) (tEs C ms)) : PE X (.Call (.Attribute o nm apos) (e :: es) [] cpos) (tE C fun ρ => ma ρ >>= fun x => mthM m x (ms ρ)) := by
  have few : ((backTo cpos (starEach (e :: es) X.env)).all (fun x => !x.1) && (backToKw cpos (keywordEach [] X.env)).all (fun x => x.1.isSome)
      && decide ((e :: es).length + ([] : List Keyword).length + (if ([] : List Keyword).isEmpty then 0 else 1) < 30)) = true := by
    rw [few_plain (by rw [List.all_cons, hp, hps]; rfl)]
    show (true && true && decide ((e :: es).length + 0 + 0 < 30)) = true
    rw [decide_eq_true (by rw [List.length_cons]; omega)]
    rfl
  have rd : ∀ {T : String} {σ : L2.St} {H : Hp} {Q : VK}, (∀ {W : Wd} {H1 : Hp} {d : D} {v : V}, RepV C.K W H1 d v → recvOk m d = true → tyV X.K T v H1) → tE C (fun ρ => ma ρ >>= fun x => mthM m x (ms ρ)) σ H Q → tBM X.K T (rMth X.K m) (tE C ma) (tEs C ms) σ H Q := by
    intro T σ H Q ht ⟨ρ, s, W, sr, h⟩
    refine ⟨ρ, s, W, sr, (Run.bindE h).imp fun v H1 ⟨W1, d, s1, sr1, f1, r1, h1⟩ => ?_⟩
    obtain ⟨hr, h2⟩ := Run.chk h1
    refine ⟨ht r1 hr, ρ, s1, W1, sr1, (Run.bindL h2).imp fun vs H2 ⟨W2, ds, s2, sr2, f2, r2, h3⟩ => ?_⟩
    exact ⟨d, ds, W2, by rw [F.K]; exact r1.mono f2.ext, by rw [F.K]; exact r2, by rw [F.K]; exact h3.out sr2⟩
  cases m with
  | get =>
    cases hn
    refine wkE (pe_bm PySem.F.plainAttrs_dict PySem.F.slot_dict_get PySem.F.type_dict_get (mt_getD F.hu) ho ha (attr_ hs) few hl (star_plain hp) (stars_plain hps)) fun σ H Q h => rd (fun {W H1 d v} r hr => ?_) h
    cases d with
    | dct ks xs =>
      obtain ⟨a, vs, rfl, _, l, _⟩ := dct_of r
      exact .inr (.inr (.inl ⟨rfl, .inl ⟨_, l⟩⟩))
    | _ => exact absurd hr Bool.false_ne_true
  | split =>
    cases hn
    refine wkE (pe_bm PySem.F.plainAttrs_str PySem.F.slot_str_split PySem.F.type_str_split mt_splitD ho ha (attr_ hs) few hl (star_plain hp) (stars_plain hps)) fun σ H Q h => rd (fun {W H1 d v} r hr => ?_) h
    cases d with
    | str a => cases str_of r; rfl
    | _ => exact absurd hr Bool.false_ne_true
  | join =>
    cases hn
    refine wkE (pe_bm PySem.F.plainAttrs_str PySem.F.slot_str_join PySem.F.type_str_join mt_joinD ho ha (attr_ hs) few hl (star_plain hp) (stars_plain hps)) fun σ H Q h => rd (fun {W H1 d v} r hr => ?_) h
    cases d with
    | str a => cases str_of r; rfl
    | _ => exact absurd hr Bool.false_ne_true
  | index => cases hn
end
end PD

set_option Elab.async false
set_option linter.all false
set_option maxRecDepth 100000
set_option maxHeartbeats 8000000
/-! PD12x: shared lists compared, asked for their type. -/
namespace PD
open PySem PySem.Spec L2
section
variable {C : Cn} {T : Tab} {N : List Str} {k : Nat} {sc : Scope} {X : Cx}
/-- a thing, or a shared list as it stands, is data -/
theorem dp_drf {W : Wd} {H : Hp} {ρ : Env'} {σ : L2.St} {s : Sto} (sr : SR C W H ρ σ s) {d : D} {v : V} (r : RepV C.K W H d v) (h : shaped (drfD s d) = true) : Dp C.K H v (toPy (drfD s d)) := by
  cases d with
  | loc n =>
    unfold drfD at h ⊢
    have rl := r
    unfold RepV at rl
    obtain ⟨a, rfl, hm⟩ := rl
    cases hs : s[n]? with
    | none =>
      have : (toPy (.loc n)).canLay0 = true := by
        simp only [hs] at h
        exact canLay_of h
      unfold toPy at this
      simp [PyData.canLay0] at this
    | some c =>
      cases c with
      | lst xs =>
        simp only [hs] at h ⊢
        obtain ⟨vs, hv, rv⟩ := sr.sto.at_ n _ a hs hm
        have hc := canLay_of h
        unfold toPy at hc ⊢
        exact .lst (.inl (.inl hv)) (RepL.dp xs vs (by simpa [PyData.canLay0] using hc) rv)
  | _ => exact r.dp _ v (canLay_of h)
def rCmpL (K : PySem.W.Frag) (ne : Bool) : R2 := fun x y H Q => ∃ a b : PyData, Dp K H x a ∧ Dp K H y b ∧ SeqAt.shaped a = true ∧ SeqAt.shaped b = true ∧ Q (.bl (if ne then !PyData.eqv a b else PyData.eqv a b)) H
theorem op_cmpL (hu : X.A.units + 65 < cLine) (ne : Bool) : OpR X (compareOp (copOf (if ne then .ne else .eq))) (rCmpL X.K ne) := by
  intro pins s σ H x y v u Q I rx ry ⟨a, b, d1, d2, h1, h2, q⟩
  cases ne with
  | false => exact op_eqD (by omega) pins s σ H x y v u Q I rx ry ⟨a, b, d1, d2, h1, h2, q⟩
  | true => exact op_neD (by omega) pins s σ H x y v u Q I rx ry ⟨a, b, d1, d2, h1, h2, q⟩
theorem cmpLM_ok {ne : Bool} {x y : D} {s : Sto} : cmpLM ne x y s = if shaped (drfD s x) && shaped (drfD s y) then .ok (.bl (if ne then !eqv (drfD s x) (drfD s y) else eqv (drfD s x) (drfD s y))) s else .bad := rfl
theorem cmpL_rd {W : Wd} {H : Hp} {ρ : Env'} {σ : L2.St} {s : Sto} {ne : Bool} {d e : D} {v u : V} {Q : VK} (hK : X.K = C.K) (sr : SR C W H ρ σ s) (r1 : RepV C.K W H d v) (r2 : RepV C.K W H e u) (h : Run C ρ W σ H (cmpLM ne d e s) (RepV C.K) Q) : rCmpL X.K ne v u H Q := by
  rw [cmpLM_ok] at h
  by_cases hs : (shaped (drfD s d) && shaped (drfD s e)) = true
  · rw [if_pos hs] at h
    have hs2 := Bool.and_eq_true_iff.mp hs
    rw [hK]
    refine ⟨_, _, dp_drf sr r1 hs2.1, dp_drf sr r2 hs2.2, hs2.1, hs2.2, ?_⟩
    exact h W H _ sr (Frm.refl _ _) rep_bl
  · rw [if_neg hs] at h
    exact h.elim
theorem pe_cmpLD {a b : Expr} {ne : Bool} {pos : Pos} {ma mb : Env' → M D} (hK : X.K = C.K) (hu : X.A.units + 65 < cLine) (hp : plainX b = true) (ha : PE X a (tE C ma)) (hb : PE X b (tE C mb)) : PE X (.Compare a [copOf (if ne then .ne else .eq)] [b] pos) (tE C fun ρ => ma ρ >>= fun x => mb ρ >>= fun y => cmpLM ne x y) :=
  wkE (pe_cmpR (op_cmpL hu ne) ha hb (behind_ hp)) fun σ H Q ⟨ρ, s, W, sr, h⟩ => ⟨ρ, s, W, sr, h.bindE.imp fun v H1 ⟨W1, d, s1, sr1, f1, r1, h1⟩ => ⟨ρ, s1, W1, sr1, h1.bindE.imp fun u H2 ⟨W2, e, s2, sr2, f2, r2, h2⟩ =>
    cmpL_rd hK sr2 (r1.mono f2.ext) r2 h2⟩⟩
theorem pt_cmpLD {a b : Expr} {ne : Bool} {pos : Pos} {ma mb : Env' → M D} (hK : X.K = C.K) (hu : X.A.units + 65 < cLine) (hp : plainX b = true) (ha : PE X a (tE C ma)) (hb : PE X b (tE C mb)) : PT X (.Compare a [copOf (if ne then .ne else .eq)] [b] pos) (tTt C (tst fun ρ => ma ρ >>= fun x => mb ρ >>= fun y => cmpLM ne x y)) := by
  refine wkT (pt_cmpR (op_cmpL hu ne) ha hb (behind_ hp)) fun σ H Q h => ?_
  obtain ⟨ρ, s, W, sr, h⟩ := tst_rd h
  exact ⟨ρ, s, W, sr, (Run.bindE h).imp fun v H1 ⟨W1, d, s1, sr1, f1, r1, h1⟩ => ⟨ρ, s1, W1, sr1, (Run.bindE h1).imp fun u H2 ⟨W2, e, s2, sr2, f2, r2, h2⟩ =>
    cmpL_rd hK sr2 (r1.mono f2.ext) r2 h2⟩⟩
def rIsL (K : PySem.W.Frag) : List V → Hp → VK → Prop := fun vs H Q => ∃ a ws, vs = [.ref a, .ty "list"] ∧ H a = some (.lst ws) ∧ Q (.bl true) H
theorem cr_isL : CallR X (.builtin "isinstance") (rIsL X.K) := by
  intro pins s σ H vs us Q I rv ⟨a, ws, e, hl, q⟩
  exact call_isi pins s σ H vs us Q I rv ⟨.ref a, .ty "list", .type "list", .type "list", true, e, .ty _, .base (.lst hl), kit_ty (by decide +kernel), q⟩
theorem pe_isLD (F : Fit C T N k sc X) {e : Expr} {p p2 pos : Pos} {m : Env' → M D} (hg : glB sc ("isinstance" : Str) = true) (hg2 : glB sc (tyS .list) = true) (hp : plainX e = true) (ha : PE X e (tE C m)) :
    PE X (.Call (.Name ("isinstance" : Str) p) [e, .Name (tyS .list) p2] [] pos) (tE C fun ρ => m ρ >>= fun x => isLM x) := by
  have hb : boots.lookup ("isinstance" : Str) = some (.builtin "isinstance") := by decide +kernel
  obtain ⟨b1, b2, b3⟩ := boot_of hb
  obtain ⟨c1, c2, c3⟩ := boot_of (ty_boot .list)
  have pt : PE X (.Name (tyS .list) p2) (tC (.ty (tyN .list))) := pe_bltn (F.gl hg2) (F.bi (ty_boot .list)) c1 rfl c2 c3
  refine wkE (pe_callB (id := "isinstance") cr_isL (F.gl hg) (F.bi hb) b1 (pa_cons ha (pa_cons pt pa_nil) (star_plain hp)) b2 b3 (star_plain hp) rfl) fun σ H Q ⟨ρ, s, W, sr, h⟩ => ?_
  refine ⟨ρ, s, W, sr, (Run.bindE h).imp fun v H1 ⟨W1, d, s1, sr1, f1, r1, h1⟩ => ?_⟩
  cases d with
  | loc n =>
    have rl := r1
    unfold RepV at rl
    obtain ⟨a, rfl, hm⟩ := rl
    have h2 : Run C ρ W1 σ H1 (match s1[n]? with
      | some (.lst _) => Res.ok (.bl true) s1
      | none => .bad) (RepV C.K) Q := h1
    cases hs : s1[n]? with
    | none => rw [hs] at h2; exact h2.elim
    | some c =>
      cases c with
      | lst xs =>
        rw [hs] at h2
        obtain ⟨vs, hv, rv⟩ := sr1.sto.at_ n _ a hs hm
        exact ⟨a, vs, rfl, hv, h2 W1 H1 _ sr1 (Frm.refl _ _) rep_bl⟩
  | _ => exact h1.elim
end
end PD

set_option Elab.async false
set_option linter.all false
set_option maxRecDepth 100000
set_option maxHeartbeats 8000000
/-! PD13: dict displays, ranges, what is walked, comprehensions: as expressions. -/
namespace PD
open PySem PySem.Spec L2

theorem putK_new {kvs : List (Key × V)} {k : Key} {v : V} (h : ∀ p ∈ kvs, p.1 ≠ k) : putK kvs k v = kvs ++ [(k, v)] := by
  unfold putK
  rw [if_neg]
  intro q
  obtain ⟨p, hp, e⟩ := List.any_eq_true.mp q
  exact h p hp (of_decide_eq_true e)
theorem mergeK_new : ∀ (more kvs : List (Key × V)), (more.map (·.1)).Nodup → (∀ p ∈ kvs, ∀ q ∈ more, p.1 ≠ q.1) → mergeK kvs more = kvs ++ more
  | [], kvs, _, _ => by unfold mergeK; simp
  | p :: r, kvs, nd, h => by
    have nd' := List.nodup_cons.mp (show (p.1 :: r.map (·.1)).Nodup from nd)
    show mergeK (putK kvs p.1 p.2) r = _
    rw [putK_new fun q hq => h q hq p (by simp), mergeK_new r _ nd'.2 fun a ha b hb => ?_]
    · simp
    · rcases List.mem_append.mp ha with ha | ha
      · exact h a ha b (by simp [hb])
      · have e : a = p := by simpa using ha
        subst e
        exact fun q => nd'.1 (q ▸ List.mem_map_of_mem hb)
theorem zipK_keys {ks : List Str} {vs : List V} (h : ks.length = vs.length) (nd : ks.Nodup) : ((zipK ks vs).map (·.1)).Nodup := by
  have e : (zipK ks vs).map (·.1) = ks.map Sum.inr := by
    unfold zipK
    rw [List.map_map]
    have : (fun (p : Str × V) => ((Sum.inr p.1 : Key), p.2).1) = fun p => (Sum.inr p.1 : Key) := rfl
    show (ks.zip vs).map (fun p => (Sum.inr p.1 : Key)) = _
    rw [show (fun (p : Str × V) => (Sum.inr p.1 : Key)) = (fun x => (Sum.inr x : Key)) ∘ Prod.fst from rfl, ← List.map_map, List.map_fst_zip (by omega)]
  rw [e]
  exact List.Pairwise.map _ (fun a b hab q => hab (Sum.inr.inj q)) nd
section
variable {C : Cn} {T : Tab} {N : List Str} {k : Nat} {sc : Scope} {X : Cx}
/-! ### dict displays -/
def prs (C : Cn) (T : Tab) : List Str → List Cd → List (TE × TE)
  | k :: ks, c :: cs => (tC (.str k), tE C (ev T c)) :: prs C T ks cs
  | _, _ => []
theorem pairs_rd {ρ : Env'} {σ : L2.St} {Q : List (V × V) → Hp → Prop} : ∀ {ks : List Str} {cs : List Cd} {W : Wd} {H : Hp} {s : Sto}, ks.length = cs.length → SR C W H ρ σ s → Run C ρ W σ H (evs T cs ρ s) (RepL C.K) (fun vs H' => Q ((ks.zip vs).map fun p => (.str p.1, p.2)) H') → tPairs (prs C T ks cs) σ H Q
  | [], [], W, H, s, hl, sr, h => by
    have h' : Run C ρ W σ H ((pure [] : M (List D)) s) (RepL C.K) (fun vs H' => Q (([].zip vs).map fun p => (V.str p.1, p.2)) H') := by
      unfold evs at h
      exact h
    exact h' W H [] sr (Frm.refl _ _) .nil
  | k :: ks, c :: cs, W, H, s, hl, sr, h => by
    have h' : Run C ρ W σ H ((ev T c ρ >>= fun x => evs T cs ρ >>= fun xs => pure (x :: xs)) s) (RepL C.K) (fun vs H' => Q (((k :: ks).zip vs).map fun p => (V.str p.1, p.2)) H') := by
      unfold evs at h
      exact h
    refine ⟨ρ, s, W, sr, (Run.bindE h').imp fun v H1 ⟨W1, d, s1, sr1, f1, r1, h1⟩ => ?_⟩
    refine pairs_rd (by simpa using hl) sr1 ((Run.bindL h1).imp fun vs H2 ⟨W2, ds, s2, sr2, f2, r2, h2⟩ => ?_)
    exact h2 W2 H2 (v :: vs) sr2 (Frm.refl _ _) (.cons (r1.mono f2.ext) r2)
theorem disp_rd {σ : L2.St} {H : Hp} {Q : VK} {ks : List Str} {cs : List Cd} (hl : ks.length = cs.length) (nd : ks.Nodup) (h15 : ks.length ≤ 15) (h : tE C (fun ρ => evs T cs ρ >>= fun xs => pure (.dct ks xs)) σ H Q) (hev : ∀ ρ s xs s', evs T cs ρ s = .ok xs s' → xs.length = cs.length) : tDisp (prs C T ks cs) σ H Q := by
  obtain ⟨ρ, s, W, sr, h⟩ := h
  intro p hp
  have al := Alloc.new0 W H (o := .dK []) hp
  have sr0 := sr.alloc al
  have h0 := Run.fwd h al.fr sr0
  have pm : p ∉ W.mu := fun m => sr.sto.some p m hp
  have pz : ¬ W.Z p := fun z => sr.sto.zt p z hp
  refine pairs_rd hl sr0 ((Run.bindX h0).imp fun vs H2 ⟨W2, ds, s2, ed, sr2, f2, r2, h2⟩ => ?_)
  have e2 : H2 p = some (.dK []) := f2.keep p _ upd_same pm
  have hlen : ks.length = vs.length := by rw [r2.length, hev ρ s ds s2 ed, hl]
  refine ⟨e2, zipK ks vs, ?_, by unfold zipK; rw [List.length_map, List.length_zip]; omega, ?_⟩
  · unfold zipK
    rw [List.map_map]
    rfl
  · rw [mergeK_new _ _ (zipK_keys hlen nd) (fun p hp => by simp at hp), List.nil_append]
    have pz2 : ¬ W2.Z p := fun z => by
      rcases f2.fz p z with q | q
      · exact pz q
      · rw [upd_same] at q; cases q
    have pm2 : p ∉ W2.mu := fun m => by
      rcases f2.fmu p m with q | q
      · exact pm q
      · rw [upd_same] at q; cases q
    have n0 : C.H0 p = none := sr.fr.back (fun b hb => sr.sto.some b (sr.fr.ext.mu_mem hb)) hp
    have no : ∀ (i : Nat) zs, ρ[i]? = some (some (.own zs)) → σ[i]? ≠ some (some (.ref p)) := fun i zs e q => by
      obtain ⟨a, vs, e1, e2, _⟩ := sr.env.own i zs e
      rw [q] at e1
      cases e1
      rw [hp] at e2
      cases e2
    obtain ⟨ex3, sr3⟩ := sr2.turnO (o' := .dK (zipK ks vs)) e2 (fun _ q => nomatch q) (fun _ _ q => nomatch q) pz2 pm2 n0 no
    obtain ⟨ex4, sr4⟩ := sr3.freeze (D := p) (by rw [upd_same]; exact fun q => nomatch q) pm2 n0 no
    have f3 : Frm W2 (W2.add p) H2 (upd H2 p (.dK (zipK ks vs))) → True := fun _ => trivial
    -- from the state ahead of the display
    have ff : Frm W (W2.add p) H (upd H2 p (.dK (zipK ks vs))) := by
      have g := al.fr.trans f2 sr0.sto.some
      refine ⟨(g.ext.trans ex3).trans ex4, fun a o e ha => ?_, fun a z => ?_, g.fmu⟩
      · rw [upd_ne (ne_of_none e hp)]
        exact g.keep a o e ha
      · rcases z with z | z
        · exact g.fz a z
        · rw [z]; exact .inr hp
    refine h_dct (h := h) (ed := ed) sr4 ff ?_
    unfold RepV
    exact ⟨p, vs, rfl, .inr rfl, upd_same, by rw [hev ρ s ds s2 ed, hl], nd, (r2.mono ex3).mono ex4⟩
where
  h_dct {ρ : Env'} {s s2 : Sto} {W W' : Wd} {H' : Hp} {ds : List D} {v : V} (h : Run C ρ W σ H ((evs T cs ρ >>= fun xs => (pure (.dct ks xs) : M D)) s) (RepV C.K) Q) (ed : evs T cs ρ s = .ok ds s2) (sr : SR C W' H' ρ σ s2) (f : Frm W W' H H') (r : RepV C.K W' H' (.dct ks ds) v) : Q v H' := by
    have e : (evs T cs ρ >>= fun xs => (pure (.dct ks xs) : M D)) s = .ok (.dct ks ds) s2 := by
      show M.bind (evs T cs ρ) _ s = _
      unfold M.bind
      rw [ed]
      rfl
    rw [e] at h
    exact h W' H' v sr f r
/-! ### ranges -/
theorem rgV_rep {W : Wd} {H : Hp} (i j : Int) : RepL C.K W H (rangeD i j) (rgV i j) := by
  unfold rangeD rgV
  generalize List.range (j - i).toNat = l
  induction l with
  | nil => exact .nil
  | cons n r ih =>
    rw [List.map_cons, List.map_cons]
    exact .cons rep_int ih
def rng1M (ma : Env' → M D) (ρ : Env') : M D := ma ρ >>= fun x => optM (asInt x) >>= fun j => chk (okB j) (pure (.lst (rangeD 0 j)))
def rng2M (ma mb : Env' → M D) (ρ : Env') : M D := ma ρ >>= fun x => mb ρ >>= fun y => optM (asInt x) >>= fun i => optM (asInt y) >>= fun j => chk (okB i && okB j) (pure (.lst (rangeD i j)))
def lrngM (ma mb : Env' → M D) (ρ : Env') : M D := ma ρ >>= fun x => mb ρ >>= fun y => optM (asInt x) >>= fun i => optM (asInt y) >>= fun j => chk (okB i && okB j && decide ((j - i).toNat ≤ line)) (pure (.lst (rangeD i j)))
theorem asInt_ {d : D} {i : Int} (h : asInt d = some i) : d = .int i := by
  cases d with
  | int j =>
    have h' : some j = some i := h
    cases h'
    rfl
  | _ => cases h
theorem okB_ {i : Int} (h : okB i = true) : -(2 ^ 62) ≤ i ∧ i < 2 ^ 62 := by
  unfold okB at h
  simp only [Bool.and_eq_true, decide_eq_true_eq] at h
  exact h
theorem items_pure {ρ : Env'} {W : Wd} {σ : L2.St} {H : Hp} {s : Sto} {R : It → Hp → Prop} {xs : List D} {J : It} (sr : SR C W H ρ σ s) (h : Run C ρ W σ H ((itemsM (pure (.lst xs))) s) (WalkR C.K) R) (w : WalkR C.K W H xs J) : R J H := h W H J sr (Frm.refl _ _) w
theorem items_bind {α : Type} (m : M α) (f : α → M D) : itemsM (m >>= f) = m >>= fun x => itemsM (f x) := bind_bind _ _ _
theorem items_chk {b : Bool} {m : M D} : itemsM (chk b m) = chk b (itemsM m) := by cases b <;> rfl
theorem pi_rng1D (F : Fit C T N k sc X) {tg a : Expr} {p pos : Pos} {ma : Env' → M D} (hg : glB sc ("range" : Str) = true) (hp : plainX a = true) (ha : PE X a (tE C ma)) : PI X tg (.Call (.Name ("range" : Str) p) [a] [] pos) (iG C fun ρ => itemsM (rng1M ma ρ)) := by
  have hb : boots.lookup ("range" : Str) = some (.type "range") := by decide +kernel
  refine wkI (pi_range1 (F.gl hg) (F.bi hb) (pa_cons ha pa_nil (star_plain hp)) (star_plain hp)) fun σ H R ⟨ρ, s, W, sr, h⟩ => ?_
  have h' : Run C ρ W σ H ((ma ρ >>= fun x => itemsM (optM (asInt x) >>= fun j => chk (okB j) (pure (.lst (rangeD 0 j))))) s) (WalkR C.K) R := by rw [← items_bind]; exact h
  refine ⟨ρ, s, W, sr, (Run.bindE h').imp fun v H1 ⟨W1, d, s1, sr1, f1, r1, h1⟩ => ?_⟩
  rw [items_bind] at h1
  obtain ⟨j, e, h2⟩ := h1.opt
  have e2 := asInt_ e
  subst e2
  rw [items_chk] at h2
  obtain ⟨e3, h3⟩ := Run.chk h2
  have ok := okB_ e3
  refine ⟨j, by rw [int_of r1], ok.1, ok.2, items_pure sr1 h3 ?_⟩
  have w := walkR_range (K := C.K) (W := W1) (H := H1) 0 j
  rw [Int.sub_zero] at w
  exact w
theorem pi_rng2D (F : Fit C T N k sc X) {tg a b : Expr} {p pos : Pos} {ma mb : Env' → M D} (hg : glB sc ("range" : Str) = true) (hp : plainX a = true) (hpb : plainX b = true) (ha : PE X a (tE C ma)) (hb' : PE X b (tE C mb)) : PI X tg (.Call (.Name ("range" : Str) p) [a, b] [] pos) (iG C fun ρ => itemsM (rng2M ma mb ρ)) := by
  have hb : boots.lookup ("range" : Str) = some (.type "range") := by decide +kernel
  refine wkI (pi_range2 (F.gl hg) (F.bi hb) (pa_cons ha (pa_cons hb' pa_nil (star_plain hpb)) (star_plain hp)) (by rw [star_plain hp, star_plain hpb]; rfl) (by rw [star_plain hpb]; rfl)) fun σ H R ⟨ρ, s, W, sr, h⟩ => ?_
  have h' : Run C ρ W σ H ((ma ρ >>= fun x => itemsM (mb ρ >>= fun y => optM (asInt x) >>= fun i => optM (asInt y) >>= fun j => chk (okB i && okB j) (pure (.lst (rangeD i j))))) s) (WalkR C.K) R := by rw [← items_bind]; exact h
  refine ⟨ρ, s, W, sr, (Run.bindE h').imp fun v H1 ⟨W1, d, s1, sr1, f1, r1, h1⟩ => ?_⟩
  rw [items_bind] at h1
  refine ⟨ρ, s1, W1, sr1, (Run.bindE h1).imp fun u H2 ⟨W2, e', s2, sr2, f2, r2, h2⟩ => ?_⟩
  rw [items_bind] at h2
  obtain ⟨i, e, h3⟩ := h2.opt
  have e2 := asInt_ e
  subst e2
  rw [items_bind] at h3
  obtain ⟨j, e3, h4⟩ := h3.opt
  have e4 := asInt_ e3
  subst e4
  rw [items_chk] at h4
  obtain ⟨e5, h5⟩ := Run.chk h4
  rw [Bool.and_eq_true] at e5
  have o1 := okB_ e5.1
  have o2 := okB_ e5.2
  exact ⟨i, j, by rw [int_of r1, int_of r2], ⟨o1.1, o1.2, o2.1, o2.2⟩, items_pure sr2 h5 (walkR_range i j)⟩
theorem pe_lrngD (F : Fit C T N k sc X) {a b : Expr} {p p2 pos pos2 : Pos} {ma mb : Env' → M D} (hl : glB sc ("list" : Str) = true) (hg : glB sc ("range" : Str) = true) (hp : plainX a = true) (hpb : plainX b = true) (ha : PE X a (tE C ma)) (hb' : PE X b (tE C mb)) :
    PE X (.Call (.Name ("list" : Str) p) [.Call (.Name ("range" : Str) p2) [a, b] [] pos2] [] pos) (tE C (lrngM ma mb)) := by
  have hb : boots.lookup ("range" : Str) = some (.type "range") := by decide +kernel
  have hb2 : boots.lookup ("list" : Str) = some (.type "list") := by decide +kernel
  refine wkE (pe_listRg F.calm (F.gl hl) (F.bi hb2) (prg_2 (F.gl hg) (F.bi hb) ha hb' (star_plain hp) (star_plain hpb) (by rw [star_plain hpb]; rfl)) (star_plain rfl)) fun σ H Q ⟨ρ, s, W, sr, h⟩ => ?_
  refine ⟨ρ, s, W, sr, (Run.bindE h).imp fun v H1 ⟨W1, d, s1, sr1, f1, r1, h1⟩ => ?_⟩
  refine ⟨ρ, s1, W1, sr1, (Run.bindE h1).imp fun u H2 ⟨W2, e', s2, sr2, f2, r2, h2⟩ => ?_⟩
  obtain ⟨i, e, h3⟩ := h2.opt
  have e2 := asInt_ e
  subst e2
  obtain ⟨j, e3, h4⟩ := h3.opt
  have e4 := asInt_ e3
  subst e4
  obtain ⟨e5, h5⟩ := Run.chk h4
  rw [Bool.and_eq_true, Bool.and_eq_true] at e5
  have o1 := okB_ e5.1.1
  have o2 := okB_ e5.1.2
  have o3 : (j - i).toNat ≤ line := of_decide_eq_true e5.2
  refine ⟨i, j, int_of r1, int_of r2, ⟨o1.1, o1.2, o2.1, o2.2, o3⟩, (h5.val sr2).newL rfl (rgV_rep i j)⟩
/-! ### zip -/
def zipM2 (ms : Env' → M (List D)) (ρ : Env') : M D := ms ρ >>= fun xs => optM (itemsAll xs) >>= fun ls => optM (zipD ls) >>= fun r => pure (.lst r)
theorem sk_of {K : PySem.W.Frag} {W : Wd} {H : Hp} {d : D} {v : V} {xs : List D} (r : RepV K W H d v) (e : itemsD' d = some xs) : ∃ kk a vs, v = .ref a ∧ (∀ W1 H1, Ext W W1 H H1 → skSq K kk H1 a vs) ∧ RepL K W H xs vs := by
  cases d with
  | lst ys =>
    cases e
    obtain ⟨a, vs, rfl, l, rl⟩ := lst_of r
    exact ⟨false, a, vs, rfl, fun W1 H1 ex => (l.mono ex).sq, rl⟩
  | tup ys =>
    cases e
    obtain ⟨a, vs, rfl, l, rl⟩ := tup_of r
    exact ⟨true, a, vs, rfl, fun W1 H1 ex => sqT_mono ex.tup ex.frz l, rl⟩
  | _ => cases e
theorem pi_enumD (F : Fit C T N k sc X) {e : Expr} {elts : List Expr} {kk : Nat} {p pos tpos : Pos} {m : Env' → M D} (hg : glB sc ("enumerate" : Str) = true) (hp : plainX e = true) (he : PE X e (tE C m)) :
    PI X (.Tuple elts kk tpos) (.Call (.Name ("enumerate" : Str) p) [e] [] pos) (iG C fun ρ => itemsM (m ρ >>= fun x => optM (lstD x) >>= fun xs => pure (.lst (enumFrom 0 xs)))) := by
  have hb : boots.lookup ("enumerate" : Str) = some (.type "enumerate") := by decide +kernel
  refine wkI (pi_enum (F.gl hg) (F.bi hb) (pa_consD hp he pa_nilD) (star_plain hp)) fun σ H R ⟨ρ, s, W, sr, h⟩ => ?_
  have h' : Run C ρ W σ H ((m ρ >>= fun x => itemsM (optM (lstD x) >>= fun xs => pure (.lst (enumFrom 0 xs)))) s) (WalkR C.K) R := by rw [← items_bind]; exact h
  have h2 : Run C ρ W σ H (((m ρ >>= fun x => (pure [] : M (List D)) >>= fun xs => pure (x :: xs)) >>= fun l => match l with
    | [x] => itemsM (optM (lstD x) >>= fun xs => pure (.lst (enumFrom 0 xs)))
    | _ => badM) s) (WalkR C.K) R := by
    rw [bind_bind]
    exact h'
  refine ⟨ρ, s, W, sr, (Run.bindL h2).imp fun vs H1 ⟨W1, ds, s1, sr1, f1, r1, h1⟩ => ?_⟩
  cases ds with
  | nil => exact h1.elim
  | cons d ds =>
    cases ds with
    | cons _ _ => exact h1.elim
    | nil =>
      obtain ⟨v, rfl, rd⟩ := one_of r1
      have h1 : Run C ρ W1 σ H1 (itemsM (optM (lstD d) >>= fun xs => pure (.lst (enumFrom 0 xs))) s1) (WalkR C.K) R := h1
      cases d with
      | lst xs =>
        obtain ⟨a, us, rfl, l, rl⟩ := lst_of rd
        refine ⟨a, us, rfl, by rw [F.K]; exact l.sq, ?_⟩
        rw [F.K]
        exact h1 W1 H1 _ sr1 (Frm.refl _ _) (walkR_enum l rl)
      | _ => exact h1.elim
theorem pi_zipD (F : Fit C T N k sc X) {a b : Expr} {elts : List Expr} {kk : Nat} {p pos tpos : Pos} {ms : Env' → M (List D)} (hg : glB sc ("zip" : Str) = true) (hp : plainX a = true) (hpb : plainX b = true) (ha : PA X [a, b] (tEs C ms)) :
    PI X (.Tuple elts kk tpos) (.Call (.Name ("zip" : Str) p) [a, b] [] pos) (iG C fun ρ => itemsM (zipM2 ms ρ)) := by
  have hb : boots.lookup ("zip" : Str) = some (.type "zip") := by decide +kernel
  refine wkI (pi_zipM (F.gl hg) (F.bi hb) ha (star_plain hp) (by rw [star_plain hpb]; rfl)) fun σ H R ⟨ρ, s, W, sr, h⟩ => ?_
  have h' : Run C ρ W σ H ((ms ρ >>= fun xs => itemsM (optM (itemsAll xs) >>= fun ls => optM (zipD ls) >>= fun r => pure (.lst r))) s) (WalkR C.K) R := by rw [← items_bind]; exact h
  refine ⟨ρ, s, W, sr, (Run.bindL h').imp fun vs H1 ⟨W1, ds, s1, sr1, f1, r1, h1⟩ => ?_⟩
  rw [items_bind] at h1
  obtain ⟨ls, e, h2⟩ := h1.opt
  rw [items_bind] at h2
  obtain ⟨r, e2, h3⟩ := h2.opt
  cases ds with
  | nil => cases e; cases e2
  | cons d1 ds =>
    cases ds with
    | nil =>
      exfalso
      unfold itemsAll itemsAll at e
      cases q : itemsD' d1 with
      | none => rw [q] at e; cases e
      | some x => rw [q] at e; cases e; cases e2
    | cons d2 ds =>
      cases ds with
      | nil =>
        obtain ⟨v1, v2, rfl, t1, t2⟩ := two_of r1
        unfold itemsAll itemsAll itemsAll at e
        cases q1 : itemsD' d1 with
        | none => rw [q1] at e; cases e
        | some xs =>
          cases q2 : itemsD' d2 with
          | none => rw [q1, q2] at e; cases e
          | some ys =>
            rw [q1, q2] at e
            cases e
            cases e2
            obtain ⟨k1, a1, vs1, rfl, l1, rl1⟩ := sk_of t1 q1
            obtain ⟨k2, a2, vs2, rfl, l2, rl2⟩ := sk_of t2 q2
            refine ⟨k1, k2, a1, a2, vs1, vs2, rfl, by rw [F.K]; exact l1 W1 H1 (Ext.refl _ _), by rw [F.K]; exact l2 W1 H1 (Ext.refl _ _), items_pure sr1 h3 ?_⟩
            rw [F.K]
            exact walkR_zip l1 l2 rl1 rl2
      | cons d3 ds =>
        exfalso
        unfold itemsAll at e
        cases q1 : itemsD' d1 with
        | none => rw [q1] at e; cases e
        | some xs =>
          cases q : itemsAll (d2 :: d3 :: ds) with
          | none => rw [q1, q] at e; cases e
          | some l =>
            rw [q1, q] at e
            cases e
            unfold itemsAll at q
            cases q2 : itemsD' d2 with
            | none => rw [q2] at q; cases q
            | some ys =>
              cases q3 : itemsAll (d3 :: ds) with
              | none => rw [q2, q3] at q; cases q
              | some l' =>
                rw [q2, q3] at q
                cases q
                unfold itemsAll at q3
                cases q4 : itemsD' d3 with
                | none => rw [q4] at q3; cases q3
                | some zs =>
                  cases q5 : itemsAll ds with
                  | none => rw [q4, q5] at q3; cases q3
                  | some l'' =>
                    rw [q4, q5] at q3
                    cases q3
                    cases e2
end
end PD

set_option Elab.async false
set_option linter.all false
set_option maxRecDepth 100000
set_option maxHeartbeats 8000000
/-! PD14: every expression by its mirror. -/
namespace PD
open PySem PySem.Spec L2

section
variable {C : Cn} {T : Tab} {N : List Str} {k : Nat} {sc : Scope} {X : Cx}
/-! ### targets -/
theorem loc_ {lc : Scope → Str → Bool} {sc : Scope} {x : Str} (hlc : ∀ sc x, lc sc x = true → L2.Loc sc x) (h : lc sc x = true) : L2.Loc sc x := hlc sc x h
theorem locB_ {sc : Scope} {x : Str} (h : locB sc x = true) : sc.names.lookup x = some .local := of_decide_eq_true h
/-- names that are stored: the place, whether a store is let -/
structure StoreOk (X : Cx) (N : List Str) (sc : Scope) (lc : Scope → Str → Bool) : Prop where
  n : X.N = N
  nd : X.N.Nodup
  sc_ : X.env.scope = sc
  calm : X.calm = true
  ok : ∀ x, lc sc x = true → L2.Loc sc x ∧ (X.fn x = true ∨ sc.names.lookup x = some .local)
theorem pg_nmD {lc : Scope → Str → Bool} (S : StoreOk X N sc lc) {i : Nat} {x : Str} {pos : Pos} (hN : N[i]? = some x) (h : lc sc x = true) : PG X (.Name x pos) (gName i) := by
  obtain ⟨h1, h2⟩ := S.ok x h
  exact pg_name S.nd (by rw [S.n]; exact hN) (by rw [S.sc_]; exact h1) (by rw [S.sc_]; exact h2)
theorem pgs_D {lc : Scope → Str → Bool} (S : StoreOk X N sc lc) : ∀ {is : List Nat} {es : List Expr}, chkTs N lc sc is es = true → PGs X es (gAll is) ∧ (assignEach es X.env).length = is.length ∧ (assignEach es X.env).findIdx? (·.1) = none ∧ is.length = es.length
  | [], [], _ => ⟨pgs_nil, rfl, rfl, rfl⟩
  | [], _ :: _, h => absurd h Bool.false_ne_true
  | i :: is, [], h => absurd h Bool.false_ne_true
  | i :: is, e :: es, h => by
    cases e with
    | Name x pos =>
      have h' : (decide (N[i]? = some x) && (lc sc x && chkTs N lc sc is es)) = true := h
      rw [Bool.and_eq_true, Bool.and_eq_true] at h'
      obtain ⟨h1, h2, h3⟩ := h'
      obtain ⟨g, l1, l2, l3⟩ := pgs_D S h3
      refine ⟨pgs_cons (pg_nmD S (of_decide_eq_true h1) h2) g rfl, ?_, ?_, by rw [List.length_cons, List.length_cons, l3]⟩
      · show ((false, assign (.Name x pos) X.env) :: assignEach es X.env).length = _
        rw [List.length_cons, List.length_cons, l1]
      · show ((false, assign (.Name x pos) X.env) :: assignEach es X.env).findIdx? (·.1) = none
        rw [List.findIdx?_cons]
        simp only [l2]
        rfl
    | _ => exact absurd h Bool.false_ne_true
theorem pg_D {lc : Scope → Str → Bool} (S : StoreOk X N sc lc) (hK : X.K = C.K) {tg : Tg} {e : Expr} (h : chkTg N lc sc tg e = true) : PG X e (gOf C.K tg) := by
  cases tg with
  | nm i =>
    cases e with
    | Name x pos =>
      have h' : (decide (N[i]? = some x) && lc sc x) = true := h
      rw [Bool.and_eq_true] at h'
      exact pg_nmD S (of_decide_eq_true h'.1) h'.2
    | _ => exact absurd h Bool.false_ne_true
  | tp is =>
    cases e with
    | Tuple es kk pos =>
      obtain ⟨g, l1, l2, l3⟩ := pgs_D S (show chkTs N lc sc is es = true from h)
      rw [← hK]
      exact pg_tup S.calm g l1 l2
    | _ => exact absurd h Bool.false_ne_true
theorem ownTs_snd : ∀ {is : List Nat} {es : List Expr} {sc : Scope} {lc : Scope → Str → Bool}, chkTs N lc sc is es = true → (ownTs is es).map (·.2) = is
  | [], [], _, _, _ => rfl
  | [], _ :: _, _, _, h => absurd h Bool.false_ne_true
  | i :: is, [], _, _, h => absurd h Bool.false_ne_true
  | i :: is, e :: es, sc, lc, h => by
    cases e with
    | Name x pos =>
      have h' : (decide (N[i]? = some x) && (lc sc x && chkTs N lc sc is es)) = true := h
      rw [Bool.and_eq_true, Bool.and_eq_true] at h'
      show i :: (ownTs is es).map (·.2) = i :: is
      rw [ownTs_snd h'.2.2]
    | _ => exact absurd h Bool.false_ne_true
theorem ownOf_snd {tg : Tg} {e : Expr} {sc : Scope} {lc : Scope → Str → Bool} (h : chkTg N lc sc tg e = true) : (ownOf tg e).map (·.2) = tgS tg := by
  cases tg with
  | nm i =>
    cases e with
    | Name x pos => rfl
    | _ => exact absurd h Bool.false_ne_true
  | tp is =>
    cases e with
    | Tuple es kk pos => exact ownTs_snd (show chkTs N lc sc is es = true from h)
    | _ => exact absurd h Bool.false_ne_true
theorem tup_of_tp {is : List Nat} {e : Expr} {sc : Scope} {lc : Scope → Str → Bool} (h : chkTg N lc sc (.tp is) e = true) : ∃ es kk pos, e = .Tuple es kk pos := by
  cases e with
  | Tuple es kk pos => exact ⟨es, kk, pos, rfl⟩
  | _ => exact absurd h Bool.false_ne_true
/-! ### the block of a comprehension -/
theorem Fit.blk (F : Fit C T N k sc X) (s : Shared) (H : Hp) (scope : Scope) (Cc : Addr) (cl : List (Str × Addr)) (fp : List Addr) : Fit C.calm0 T N k (relS scope sc) (X.blk s H scope (compEnvC scope cl Cc X.env) fp) :=
  ⟨F.n, F.nd, by rw [← F.sc]; rfl, F.calm, F.room, takes0, F.K, F.mg, F.tab⟩
theorem Fit.blkS (F : Fit C T N k sc X) (s : Shared) (H : Hp) (scope : Scope) (Cc : Addr) (cl : List (Str × Addr)) (fp : List Addr) : StoreOk (X.blk s H scope (compEnvC scope cl Cc X.env) fp) N (relS scope sc) locB :=
  ⟨F.n, F.nd, by rw [← F.sc]; rfl, F.calm, fun x h => ⟨.inl (locB_ h), .inr (locB_ h)⟩⟩
/-- what stands of each part of a comprehension -/
structure LcOk (C : Cn) (T : Tab) (N : List Str) (k : Nat) (sc : Scope) (X : Cx) (tg : Tg) (mi : Env' → M (List D)) (mt : Env' → M Bool) (me : Env' → M D) (tx iter elt : Expr) (ifs : List Expr) (scope : Scope) (tt : TT) : Prop where
  hi : PI X tx iter (iG C mi)
  pl : plainX iter = true
  ok : blkC N sc scope (ownOf tg tx) = true
  tg_ : chkTg N locB (relS scope sc) tg tx = true
  ht : ∀ (s : Shared) (H : Hp) (Cc : Addr) (cl : List (Str × Addr)) (fp : List Addr), PTs (X.blk s H scope (compEnvC scope cl Cc X.env) fp) ifs tt
  rt : RdT C.calm0 mt tt
  he : ∀ (s : Shared) (H : Hp) (Cc : Addr) (cl : List (Str × Addr)) (fp : List Addr), PE (X.blk s H scope (compEnvC scope cl Cc X.env) fp) elt (tE C.calm0 me)
section
variable {tg : Tg} {mi : Env' → M (List D)} {mt : Env' → M Bool} {me : Env' → M D} {tx iter elt : Expr} {ifs : List Expr} {scope : Scope} {tt : TT} {pos : Pos}
theorem pe_lcD (F : Fit C T N k sc X) (L : LcOk C T N k sc X tg mi mt me tx iter elt ifs scope tt) : PE X (.ListComp elt [⟨tx, iter, ifs, 0⟩] scope pos) (tE C (lcE tg mi mt me)) := by
  have hb := blkOk_by L.ok
  have h := pe_lc (pos := pos) F.calm F.nd L.hi (by rw [F.n, F.sc]; exact hb) (fun s H Cc cl fp => pg_D (C := C) (F.blkS s H scope Cc cl fp) F.K L.tg_) L.ht L.he (folded_ L.pl)
  rw [ownOf_snd L.tg_] at h
  exact wkE h fun σ H Q q => lc_reading L.rt q
/-- a name set to a comprehension, on one line -/
theorem ps_setLcD (F : Fit C T N k sc X) {i : Nat} {y : Str} {py spos : Pos} (L : LcOk C T N k sc X tg mi mt me tx iter elt ifs scope tt) (hy : N[i]? = some y) (hyl : sc.names.lookup y = some .local)
    (hsw : swapsWith (.ListComp elt [⟨tx, iter, ifs, 0⟩] scope pos) (some (.Name y py)) spos.line X.env = pure true) :
    PS X (.Assign [.Name y py] (.ListComp elt [⟨tx, iter, ifs, 0⟩] scope pos) spos) (tAsg (tE C (lcE tg mi mt me)) (gName i)) := by
  have hb := blkOk_by L.ok
  have h := ps_setLc (pos := pos) F.calm F.nd (by rw [F.n]; exact hy) (by rw [F.sc]; exact hyl) hsw L.hi (by rw [F.n, F.sc]; exact hb) (fun s H Cc cl fp => pg_D (C := C) (F.blkS s H scope Cc cl fp) F.K L.tg_) L.ht L.he (folded_ L.pl)
  rw [ownOf_snd L.tg_] at h
  exact wkS h fun D σ H q => lc_reading L.rt q
end
/-- .. of two clauses -/
structure Lc2Ok (C : Cn) (T : Tab) (N : List Str) (k : Nat) (sc : Scope) (X : Cx) (tg tg2 : Tg) (mi mi2 : Env' → M (List D)) (me : Env' → M D) (tx iter tx2 iter2 elt : Expr) (scope : Scope) : Prop where
  hi : PI X tx iter (iG C mi)
  pl : plainX iter = true
  pl2 : plainX iter2 = true
  ok : blkC N sc scope (ownOf tg tx ++ ownOf tg2 tx2) = true
  tg_ : chkTg N locB (relS scope sc) tg tx = true
  tg2_ : chkTg N locB (relS scope sc) tg2 tx2 = true
  hi2 : ∀ (s : Shared) (H : Hp) (Cc : Addr) (cl : List (Str × Addr)) (fp : List Addr), PI (X.blk s H scope (compEnvC scope cl Cc X.env) fp) tx2 iter2 (iG C.calm0 mi2)
  he : ∀ (s : Shared) (H : Hp) (Cc : Addr) (cl : List (Str × Addr)) (fp : List Addr), PE (X.blk s H scope (compEnvC scope cl Cc X.env) fp) elt (tE C.calm0 me)
theorem pe_lc2D (F : Fit C T N k sc X) {tg tg2 : Tg} {mi mi2 : Env' → M (List D)} {me : Env' → M D} {tx iter tx2 iter2 elt : Expr} {scope : Scope} {pos : Pos} (L : Lc2Ok C T N k sc X tg tg2 mi mi2 me tx iter tx2 iter2 elt scope) :
    PE X (.ListComp elt [⟨tx, iter, [], 0⟩, ⟨tx2, iter2, [], 0⟩] scope pos) (tE C (lc2E tg tg2 mi mi2 me)) := by
  have hb := blkOk_by L.ok
  have e1 : (ownOf tg tx ++ ownOf tg2 tx2).map (·.2) = tgS tg ++ tgS tg2 := by rw [List.map_append, ownOf_snd L.tg_, ownOf_snd L.tg2_]
  have h := pe_lc2 (pos := pos) (vs1 := tgS tg2) F.calm F.nd L.hi (by rw [F.n, F.sc]; exact hb) (by rw [e1]; exact fun i hi => List.mem_append_right _ hi)
    (fun s H Cc cl fp => pg_D (C := C) (F.blkS s H scope Cc cl fp) F.K L.tg_) (fun s H Cc cl fp => pts_nil) L.hi2 (fun s H Cc cl fp => pg_D (C := C) (F.blkS s H scope Cc cl fp) F.K L.tg2_) (fun s H Cc cl fp => pts_nil) L.he (folded_ L.pl) (fun env => folded_ L.pl2)
  rw [e1] at h
  exact wkE h fun σ H Q q => lc2_reading q

/-! ### lengths -/
theorem evs_len : ∀ {cs : List Cd} {ρ : Env'} {s : Sto} {xs : List D} {s' : Sto}, evs T cs ρ s = .ok xs s' → xs.length = cs.length
  | [], ρ, s, xs, s', h => by
    have h' : (pure [] : M (List D)) s = .ok xs s' := by unfold evs at h; exact h
    obtain ⟨e, _⟩ := ok_pure h'
    rw [← e]
    rfl
  | c :: cs, ρ, s, xs, s', h => by
    have h' : (ev T c ρ >>= fun x => evs T cs ρ >>= fun xs => pure (x :: xs)) s = .ok xs s' := by unfold evs at h; exact h
    obtain ⟨d, s1, e1, e2⟩ := ok_bind h'
    obtain ⟨ds, s2, e3, e4⟩ := ok_bind e2
    obtain ⟨e5, _⟩ := ok_pure e4
    rw [← e5, List.length_cons, List.length_cons, evs_len e3]
theorem chkEs_plain : ∀ {cs : List Cd} {es : List Expr}, chkEs N cs sc es = true → es.all plainX = true
  | [], es, h => by
    unfold chkEs at h
    rw [List.isEmpty_iff.mp h]
    rfl
  | c :: cs, [], h => by
    unfold chkEs at h
    exact absurd h Bool.false_ne_true
  | c :: cs, e :: es, h => by
    unfold chkEs at h
    rw [Bool.and_eq_true, Bool.and_eq_true] at h
    rw [List.all_cons, h.1, chkEs_plain h.2.2]
    rfl
def isBO : Expr → Bool
  | .BoolOp _ _ _ => true
  | _ => false
/-- all that is told of an expression and its mirror -/
structure Told (C : Cn) (T : Tab) (X : Cx) (c : Cd) (e : Expr) : Prop where
  pe : PE X e (tE C (ev T c))
  pt : PT X e (tTt C (tst (ev T c)))
  pw : isBO e = true → PW X e (tTt C (tst (ev T c)))
theorem Told.plain {c : Cd} {e : Expr} (h : PE X e (tE C (ev T c))) (he : ∀ whole, PySem.isTrue e X.env whole = (do let v ← whole; standAt e.pos; holding [v] (truthy v))) (hb : isBO e = false) : Told C T X c e :=
  ⟨h, pt_plainD h he, fun q => by rw [hb] at q; cases q⟩
end
end PD

set_option Elab.async false
set_option linter.all false
set_option maxRecDepth 100000
set_option maxHeartbeats 16000000
/-! PD15: THE THEOREM of expressions. -/
namespace PD
open PySem PySem.Spec L2

theorem pe_cong {C : Cn} {X : Cx} {e : Expr} {m m' : Env' → M D} (h : ∀ ρ, m' ρ = m ρ) (q : PE X e (tE C m)) : PE X e (tE C m') := by
  rw [show m' = m from funext h]; exact q
theorem pt_cong {C : Cn} {X : Cx} {e : Expr} {m m' : Env' → M D} (h : ∀ ρ, m' ρ = m ρ) (q : PT X e (tTt C (tst m))) : PT X e (tTt C (tst m')) := by
  rw [show m' = m from funext h]; exact q
theorem pw_cong {C : Cn} {X : Cx} {e : Expr} {m m' : Env' → M D} (h : ∀ ρ, m' ρ = m ρ) (q : PW X e (tTt C (tst m))) : PW X e (tTt C (tst m')) := by
  rw [show m' = m from funext h]; exact q
theorem pa_cong {C : Cn} {X : Cx} {es : List Expr} {m m' : Env' → M (List D)} (h : ∀ ρ, m' ρ = m ρ) (q : PA X es (tEs C m)) : PA X es (tEs C m') := by
  rw [show m' = m from funext h]; exact q
theorem po_cong {C : Cn} {X : Cx} {e : Option Expr} {m m' : Env' → M (Option Int)} (h : ∀ ρ, m' ρ = m ρ) (q : PO X e (tOd C m)) : PO X e (tOd C m') := by
  rw [show m' = m from funext h]; exact q
theorem pi_cong {C : Cn} {X : Cx} {tg e : Expr} {m m' : Env' → M (List D)} (h : ∀ ρ, m' ρ = m ρ) (q : PI X tg e (iG C m)) : PI X tg e (iG C m') := by
  rw [show m' = m from funext h]; exact q
theorem rd_cong {C : Cn} {tt : TT} {m m' : Env' → M Bool} (h : ∀ ρ, m' ρ = m ρ) (q : RdT C m tt) : RdT C m' tt := by
  rw [show m' = m from funext h]; exact q
def isIt : Cd → Bool
  | .rng1 _ => true
  | .rng2 _ _ => true
  | .zip _ => true
  | .enum _ => true
  | _ => false
def ttOf (C : Cn) (T : Tab) : Option Cd → TT
  | none => tYes
  | some c => tTt C (tst (ev T c))
def isTp (tg : Expr) : Prop := ∃ es kk pos, tg = .Tuple es kk pos
/-- told of a piece that may be walked, too -/
def AllOf (C : Cn) (T : Tab) (X : Cx) (c : Cd) (md : Nat) (e : Expr) : Prop := (isIt c = false → Told C T X c e) ∧ (md ≠ 0 → ∀ tg, (md = 2 → isTp tg) → PI X tg e (iG C fun ρ => itemsM (ev T c ρ)))
section
variable {T : Tab} {N : List Str} {k : Nat}
theorem AllOf.of {C : Cn} {sc : Scope} {X : Cx} {c : Cd} {md : Nat} {e : Expr} (F : Fit C T N k sc X) (h : Told C T X c e) : AllOf C T X c md e := ⟨fun _ => h, fun _ _ _ => pi_val F.K h.pe⟩
theorem notIt {c : Cd} {sc : Scope} {e : Expr} (h : chkE N c 0 sc e = true) : isIt c = false := by
  cases c <;> first | rfl | (unfold chkE at h; exact absurd h Bool.false_ne_true)
theorem plain_of_chk {c : Cd} {sc : Scope} {e : Expr} (h : chkE N c 0 sc e = true) : plainX e = true := by
  cases e <;> first | rfl | (cases c <;> first | (unfold chkE at h; exact absurd h Bool.false_ne_true))
theorem rdT_of {C : Cn} : ∀ (o : Option Cd), RdT C (fun ρ => evt T o ρ) (ttOf C T o)
  | none => by
    have q : RdT C (fun _ => pure true) tYes := RdT.yes
    exact rd_cong (fun ρ => by rw [evt] <;> rfl) q
  | some c => by
    have q : RdT C (tst (ev T c)) (tTt C (tst (ev T c))) := RdT.of
    exact rd_cong (fun ρ => by rw [evt] <;> rfl) q
theorem ba {a b : Bool} (h : (a && b) = true) : a = true ∧ b = true := Bool.and_eq_true_iff.mp h
mutual
theorem all_of : ∀ (c : Cd) {C : Cn} {sc : Scope} {X : Cx} {md : Nat} {e : Expr}, Fit C T N k sc X → chkE N c md sc e = true → AllOf C T X c md e
  | .var i, C, sc, X, md, e, F, h => by
    unfold chkE at h
    cases e with
    | Name x pos =>
      obtain ⟨h1, h2⟩ := ba h
      obtain ⟨h2, h3⟩ := ba h2
      refine .of F (.plain ?_ (fun _ => rfl) rfl)
      have q := pe_varD F (pos := pos) (of_decide_eq_true h1) h2 h3
      exact pe_cong (fun ρ => by rw [ev] <;> rfl) q
    | _ => exact absurd h Bool.false_ne_true
  | .glob y, C, sc, X, md, e, F, h => by
    unfold chkE at h
    cases e with
    | Name x pos =>
      obtain ⟨h1, h2⟩ := ba h
      obtain ⟨h2, h3⟩ := ba h2
      have hx : y = x := of_decide_eq_true h1
      subst hx
      refine .of F (.plain ?_ (fun _ => rfl) rfl)
      have q := pe_globD F (pos := pos) h2 h3
      exact pe_cong (fun ρ => by rw [ev] <;> rfl) q
    | _ => exact absurd h Bool.false_ne_true
  | .cI i, C, sc, X, md, e, F, h => by
    unfold chkE at h
    cases e with
    | Constant v kk pos =>
      cases v with
      | int j =>
        have hx : i = j := of_decide_eq_true h
        subst hx
        refine .of F (.plain ?_ (fun _ => rfl) rfl)
        have q := pe_conD (C := C) (X := X) (d := .int i) (pe_int (i := i) (j := kk) (pos := pos)) (fun _ _ => rep_int)
        exact pe_cong (fun ρ => by rw [ev] <;> rfl) q
      | _ => exact absurd h Bool.false_ne_true
    | _ => exact absurd h Bool.false_ne_true
  | .cS i, C, sc, X, md, e, F, h => by
    unfold chkE at h
    cases e with
    | Constant v kk pos =>
      cases v with
      | str j =>
        have hx : i = j := of_decide_eq_true h
        subst hx
        refine .of F (.plain ?_ (fun _ => rfl) rfl)
        have q := pe_conD (C := C) (X := X) (d := .str i) (pe_str (x := i) (j := kk) (pos := pos)) (fun _ _ => rep_str)
        exact pe_cong (fun ρ => by rw [ev] <;> rfl) q
      | _ => exact absurd h Bool.false_ne_true
    | _ => exact absurd h Bool.false_ne_true
  | .cB i, C, sc, X, md, e, F, h => by
    unfold chkE at h
    cases e with
    | Constant v kk pos =>
      cases v with
      | bool j =>
        have hx : i = j := of_decide_eq_true h
        subst hx
        refine .of F (.plain ?_ (fun _ => rfl) rfl)
        have q := pe_conD (C := C) (X := X) (d := .bl i) (pe_bl (b := i) (j := kk) (pos := pos)) (fun _ _ => rep_bl)
        exact pe_cong (fun ρ => by rw [ev] <;> rfl) q
      | _ => exact absurd h Bool.false_ne_true
    | _ => exact absurd h Bool.false_ne_true
  | .cN, C, sc, X, md, e, F, h => by
    unfold chkE at h
    cases e with
    | Constant v kk pos =>
      cases v with
      | none =>
        refine .of F (.plain ?_ (fun _ => rfl) rfl)
        have q := pe_conD (C := C) (X := X) (d := .non) (pe_non (j := kk) (pos := pos)) (fun _ _ => rep_non)
        exact pe_cong (fun ρ => by rw [ev] <;> rfl) q
      | _ => exact absurd h Bool.false_ne_true
    | _ => exact absurd h Bool.false_ne_true
  | .tup es, C, sc, X, md, e, F, h => by
    unfold chkE at h
    cases e with
    | Tuple xs kk pos =>
      obtain ⟨h1, h2⟩ := ba h
      have hl : es.length ≤ 1000 := of_decide_eq_true h1
      refine .of F (.plain ?_ (fun _ => rfl) rfl)
      have q := pe_tupD (n := kk) (pos := pos) (pa_of es F h2) (fun ρ s ys s' e => by rw [evs_len e]; exact hl)
      exact pe_cong (fun ρ => by rw [ev] <;> rfl) q
    | _ => exact absurd h Bool.false_ne_true
  | .lst es, C, sc, X, md, e, F, h => by
    unfold chkE at h
    cases e with
    | List xs pos =>
      obtain ⟨h1, h2⟩ := ba h
      have hl : es.length ≤ 1000 := of_decide_eq_true h1
      refine .of F (.plain ?_ (fun _ => rfl) rfl)
      have q := pe_lstD (pos := pos) (pa_of es F h2) (fun ρ s ys s' e => by rw [evs_len e]; exact hl)
      exact pe_cong (fun ρ => by rw [ev] <;> rfl) q
    | _ => exact absurd h Bool.false_ne_true
  | .loc es, C, sc, X, md, e, F, h => by
    unfold chkE at h
    cases e with
    | List xs pos =>
      obtain ⟨h1, h2⟩ := ba h
      have hl : es.length ≤ 1000 := of_decide_eq_true h1
      refine .of F (.plain ?_ (fun _ => rfl) rfl)
      have q := pe_locD (pos := pos) (pa_of es F h2) (fun ρ s ys s' e => by rw [evs_len e]; exact hl)
      exact pe_cong (fun ρ => by rw [ev] <;> rfl) q
    | _ => exact absurd h Bool.false_ne_true
  | .dct ks es, C, sc, X, md, e, F, h => by
    unfold chkE at h
    cases e with
    | Dict keys vals pos =>
      obtain ⟨h1, h⟩ := ba h
      obtain ⟨h2, h⟩ := ba h
      obtain ⟨h3, h⟩ := ba h
      obtain ⟨h4, h⟩ := ba h
      obtain ⟨h5, h⟩ := ba h
      have q2 : ks.length ≤ 15 := of_decide_eq_true h2
      have q3 : 0 < ks.length := of_decide_eq_true h3
      have q4 : ks.length = es.length := of_decide_eq_true h4
      have q5 : ks.Nodup := of_decide_eq_true h5
      obtain ⟨p, l1, l2, l3⟩ := pd_of es (pos := pos) F h1 q4 h
      have q := pe_disp p l1 l2 (fun z => by rw [z] at l3; simp at l3; omega) (by omega)
      refine .of F (.plain ?_ (fun _ => rfl) rfl)
      have r := wkE q fun σ H Q hh => disp_rd (C := C) (T := T) q4 q5 q2 hh (fun ρ s xs s' e => evs_len e)
      exact pe_cong (fun ρ => by rw [ev] <;> rfl) r
    | _ => exact absurd h Bool.false_ne_true
  | .bin op a b, C, sc, X, md, e, F, h => by
    unfold chkE at h
    cases e with
    | BinOp x o y pos =>
      obtain ⟨h1, h⟩ := ba h
      obtain ⟨h2, h3⟩ := ba h
      have ho : opOf op = o := of_decide_eq_true h1
      subst ho
      refine .of F (.plain ?_ (fun _ => rfl) rfl)
      have q := pe_binD (pos := pos) (op := op) F.K ((all_of a F h2).1 (notIt h2)).pe ((all_of b F h3).1 (notIt h3)).pe
      exact pe_cong (fun ρ => by rw [ev] <;> rfl) q
    | _ => exact absurd h Bool.false_ne_true
  | .cmp op a b, C, sc, X, md, e, F, h => by
    unfold chkE at h
    cases e with
    | Compare x ops ys pos =>
      cases ops with
      | nil => exact absurd h Bool.false_ne_true
      | cons o ops =>
        cases ops with
        | cons _ _ => exact absurd h Bool.false_ne_true
        | nil =>
          cases ys with
          | nil => exact absurd h Bool.false_ne_true
          | cons y ys =>
            cases ys with
            | cons _ _ => exact absurd h Bool.false_ne_true
            | nil =>
              obtain ⟨h1, h⟩ := ba h
              obtain ⟨h2, h3⟩ := ba h
              have ho : copOf op = o := of_decide_eq_true h1
              subst ho
              have p1 := ((all_of a F h2).1 (notIt h2)).pe
              have p2 := ((all_of b F h3).1 (notIt h3)).pe
              have q := pe_cmpD (pos := pos) (op := op) F.K F.hu (plain_of_chk h3) p1 p2
              have q' := pt_cmpD (pos := pos) (op := op) F.K F.hu (plain_of_chk h3) p1 p2
              refine .of F ⟨?_, ?_, fun z => nomatch z⟩
              · exact pe_cong (fun ρ => by rw [ev] <;> rfl) q
              · exact pt_cong (fun ρ => by rw [ev] <;> rfl) q'
    | _ => exact absurd h Bool.false_ne_true
  | .cmpL ne a b, C, sc, X, md, e, F, h => by
    unfold chkE at h
    cases e with
    | Compare x ops ys pos =>
      cases ops with
      | nil => exact absurd h Bool.false_ne_true
      | cons o ops =>
        cases ops with
        | cons _ _ => exact absurd h Bool.false_ne_true
        | nil =>
          cases ys with
          | nil => exact absurd h Bool.false_ne_true
          | cons y ys =>
            cases ys with
            | cons _ _ => exact absurd h Bool.false_ne_true
            | nil =>
              obtain ⟨h1, h⟩ := ba h
              obtain ⟨h2, h3⟩ := ba h
              have ho : copOf (if ne then .ne else .eq) = o := of_decide_eq_true h1
              subst ho
              have p1 := ((all_of a F h2).1 (notIt h2)).pe
              have p2 := ((all_of b F h3).1 (notIt h3)).pe
              have q := pe_cmpLD (pos := pos) (ne := ne) F.K F.hu (plain_of_chk h3) p1 p2
              have q' := pt_cmpLD (pos := pos) (ne := ne) F.K F.hu (plain_of_chk h3) p1 p2
              refine .of F ⟨?_, ?_, fun z => nomatch z⟩
              · exact pe_cong (fun ρ => by rw [ev] <;> rfl) q
              · exact pt_cong (fun ρ => by rw [ev] <;> rfl) q'
    | _ => exact absurd h Bool.false_ne_true
  | .chain p q a b c, C, sc, X, md, e, F, h => by
    unfold chkE at h
    cases e with
    | Compare x ops ys pos =>
      cases ops with
      | nil => exact absurd h Bool.false_ne_true
      | cons o ops =>
        cases ops with
        | nil => exact absurd h Bool.false_ne_true
        | cons o2 ops =>
          cases ops with
          | cons _ _ => exact absurd h Bool.false_ne_true
          | nil =>
            cases ys with
            | nil => exact absurd h Bool.false_ne_true
            | cons y ys =>
              cases ys with
              | nil => exact absurd h Bool.false_ne_true
              | cons z ys =>
                cases ys with
                | cons _ _ => exact absurd h Bool.false_ne_true
                | nil =>
                  obtain ⟨h1, h⟩ := ba h
                  obtain ⟨h0, h⟩ := ba h
                  obtain ⟨h2, h⟩ := ba h
                  obtain ⟨h3, h4⟩ := ba h
                  have ho : copOf p = o := of_decide_eq_true h1
                  have ho2 : copOf q = o2 := of_decide_eq_true h0
                  subst ho ho2
                  have p1 := ((all_of a F h2).1 (notIt h2)).pe
                  have p2 := ((all_of b F h3).1 (notIt h3)).pe
                  have p3 := ((all_of c F h4).1 (notIt h4)).pe
                  have r := pe_chainD (pos := pos) (p := p) (q := q) F.K F.hu (plain_of_chk h3) (plain_of_chk h4) p1 p2 p3
                  have r' := pt_chainD (pos := pos) (p := p) (q := q) F.K F.hu (plain_of_chk h3) (plain_of_chk h4) p1 p2 p3
                  refine .of F ⟨?_, ?_, fun z => nomatch z⟩
                  · exact pe_cong (fun ρ => by rw [ev] <;> rfl) r
                  · exact pt_cong (fun ρ => by rw [ev] <;> rfl) r'
    | _ => exact absurd h Bool.false_ne_true
  | .and a b, C, sc, X, md, e, F, h => by
    unfold chkE at h
    cases e with
    | BoolOp o vs pos =>
      cases o with
      | Or => cases vs with
        | nil => exact absurd h Bool.false_ne_true
        | cons _ vs => cases vs <;> exact absurd h Bool.false_ne_true
      | And =>
        cases vs with
        | nil => exact absurd h Bool.false_ne_true
        | cons x vs =>
          cases vs with
          | nil => exact absurd h Bool.false_ne_true
          | cons y rest =>
            obtain ⟨h1, h2⟩ := ba h
            have ta := (all_of a F h1).1 (notIt h1)
            have tb : PE X (.BoolOp .And (y :: rest) pos) (tE C (ev T b)) ∧ PW X (.BoolOp .And (y :: rest) pos) (tTt C (tst (ev T b))) := by
              cases rest with
              | nil =>
                have tb := (all_of b F (show chkE N b 0 sc y = true from h2)).1 (notIt h2)
                exact ⟨pe_one tb.pe, pw_and1 tb.pt⟩
              | cons r rs =>
                have tb := (all_of b F (show chkE N b 0 sc (.BoolOp .And (y :: r :: rs) pos) = true from h2)).1 (notIt h2)
                exact ⟨tb.pe, tb.pw rfl⟩
            have q := pe_andD ta.pe tb.1
            have q' := pw_andD ta.pt tb.2
            refine .of F ⟨?_, ?_, fun _ => ?_⟩
            · exact pe_cong (fun ρ => by rw [ev] <;> rfl) q
            · exact pt_cong (fun ρ => by rw [ev] <;> rfl) q'.pt
            · exact pw_cong (fun ρ => by rw [ev] <;> rfl) q'
    | _ => exact absurd h Bool.false_ne_true
  | .or a b, C, sc, X, md, e, F, h => by
    unfold chkE at h
    cases e with
    | BoolOp o vs pos =>
      cases o with
      | And => cases vs with
        | nil => exact absurd h Bool.false_ne_true
        | cons _ vs => cases vs <;> exact absurd h Bool.false_ne_true
      | Or =>
        cases vs with
        | nil => exact absurd h Bool.false_ne_true
        | cons x vs =>
          cases vs with
          | nil => exact absurd h Bool.false_ne_true
          | cons y rest =>
            obtain ⟨h1, h2⟩ := ba h
            have ta := (all_of a F h1).1 (notIt h1)
            have tb : PE X (.BoolOp .Or (y :: rest) pos) (tE C (ev T b)) ∧ PW X (.BoolOp .Or (y :: rest) pos) (tTt C (tst (ev T b))) := by
              cases rest with
              | nil =>
                have tb := (all_of b F (show chkE N b 0 sc y = true from h2)).1 (notIt h2)
                exact ⟨pe_one tb.pe, pw_or1 tb.pt⟩
              | cons r rs =>
                have tb := (all_of b F (show chkE N b 0 sc (.BoolOp .Or (y :: r :: rs) pos) = true from h2)).1 (notIt h2)
                exact ⟨tb.pe, tb.pw rfl⟩
            have q := pe_orD ta.pe tb.1
            have q' := pw_orD ta.pt tb.2
            refine .of F ⟨?_, ?_, fun _ => ?_⟩
            · exact pe_cong (fun ρ => by rw [ev] <;> rfl) q
            · exact pt_cong (fun ρ => by rw [ev] <;> rfl) q'.pt
            · exact pw_cong (fun ρ => by rw [ev] <;> rfl) q'
    | _ => exact absurd h Bool.false_ne_true
  | .not a, C, sc, X, md, e, F, h => by
    unfold chkE at h
    cases e with
    | UnaryOp o x pos =>
      cases o with
      | Not =>
        have ta := (all_of a F (show chkE N a 0 sc x = true from h)).1 (notIt h)
        have q := pe_notD (pos := pos) ta.pe
        have q' := pt_notD (pos := pos) ta.pt
        refine .of F ⟨?_, ?_, fun z => nomatch z⟩
        · exact pe_cong (fun ρ => by rw [ev] <;> rfl) q
        · exact pt_cong (fun ρ => by rw [ev] <;> rfl) q'
      | _ => exact absurd h Bool.false_ne_true
    | _ => exact absurd h Bool.false_ne_true
  | .neg a, C, sc, X, md, e, F, h => by
    unfold chkE at h
    cases e with
    | UnaryOp o x pos =>
      cases o with
      | USub =>
        have ta := (all_of a F (show chkE N a 0 sc x = true from h)).1 (notIt h)
        have q := pe_negD (pos := pos) ta.pe
        refine .of F (.plain ?_ (fun _ => rfl) rfl)
        exact pe_cong (fun ρ => by rw [ev] <;> rfl) q
      | _ => exact absurd h Bool.false_ne_true
    | _ => exact absurd h Bool.false_ne_true
  | .ife t a b, C, sc, X, md, e, F, h => by
    unfold chkE at h
    cases e with
    | IfExp c x y pos =>
      obtain ⟨h1, h⟩ := ba h
      obtain ⟨h2, h3⟩ := ba h
      have t1 := (all_of t F h1).1 (notIt h1)
      have t2 := (all_of a F h2).1 (notIt h2)
      have t3 := (all_of b F h3).1 (notIt h3)
      have q := pe_ifeD (pos := pos) t1.pt t2.pe t3.pe
      have q' := pt_ifeD (pos := pos) t1.pt t2.pt t3.pt
      refine .of F ⟨?_, ?_, fun z => nomatch z⟩
      · exact pe_cong (fun ρ => by rw [ev] <;> rfl) q
      · exact pt_cong (fun ρ => by rw [ev] <;> rfl) q'
    | _ => exact absurd h Bool.false_ne_true
  | .idx a i, C, sc, X, md, e, F, h => by
    unfold chkE at h
    cases e with
    | Subscript x y pos =>
      obtain ⟨h1, h⟩ := ba h
      obtain ⟨h2, h3⟩ := ba h
      have q := pe_idxD (pos := pos) F.K F.hu h1 ((all_of a F h2).1 (notIt h2)).pe ((all_of i F h3).1 (notIt h3)).pe
      refine .of F (.plain ?_ (fun _ => rfl) rfl)
      exact pe_cong (fun ρ => by rw [ev] <;> rfl) q
    | _ => exact absurd h Bool.false_ne_true
  | .slc a lo hi, C, sc, X, md, e, F, h => by
    unfold chkE at h
    cases e with
    | Subscript x y pos =>
      cases y with
      | Slice l u st p2 =>
        cases st with
        | some _ => exact absurd h Bool.false_ne_true
        | none =>
          obtain ⟨h1, h⟩ := ba h
          obtain ⟨h2, h3⟩ := ba h
          have q := pe_slcD (pos := pos) (p2 := p2) F.K ((all_of a F h1).1 (notIt h1)).pe (po_of lo F h2) (po_of hi F h3)
          refine .of F (.plain ?_ (fun _ => rfl) rfl)
          exact pe_cong (fun ρ => by rw [ev] <;> rfl) q
      | _ => exact absurd h Bool.false_ne_true
    | _ => exact absurd h Bool.false_ne_true
  | .isi t a, C, sc, X, md, e, F, h => by
    unfold chkE at h
    cases e with
    | Call f args kws pos =>
      cases f with
      | Name g gp =>
        cases args with
        | nil => exact absurd h Bool.false_ne_true
        | cons x args =>
          cases args with
          | nil => exact absurd h Bool.false_ne_true
          | cons y args =>
            cases args with
            | cons _ _ => cases y <;> exact absurd h Bool.false_ne_true
            | nil =>
              cases y with
              | Name ty tp =>
                cases kws with
                | cons _ _ => exact absurd h Bool.false_ne_true
                | nil =>
                  obtain ⟨h1, h⟩ := ba h
                  obtain ⟨h2, h⟩ := ba h
                  obtain ⟨h3, h⟩ := ba h
                  obtain ⟨h4, h⟩ := ba h
                  obtain ⟨h5, h6⟩ := ba h
                  have e1 : g = ("isinstance" : Str) := of_decide_eq_true h1
                  have e2 : ty = tyS t := of_decide_eq_true h2
                  subst e1 e2
                  have q := pe_isiD (p := gp) (p2 := tp) (pos := pos) F h3 h4 h5 ((all_of a F h6).1 (notIt h6)).pe
                  refine .of F (.plain ?_ (fun _ => rfl) rfl)
                  exact pe_cong (fun ρ => by rw [ev] <;> rfl) q
              | _ => exact absurd h Bool.false_ne_true
      | _ => exact absurd h Bool.false_ne_true
    | _ => exact absurd h Bool.false_ne_true
  | .isL a, C, sc, X, md, e, F, h => by
    unfold chkE at h
    cases e with
    | Call f args kws pos =>
      cases f with
      | Name g gp =>
        cases args with
        | nil => exact absurd h Bool.false_ne_true
        | cons x args =>
          cases args with
          | nil => exact absurd h Bool.false_ne_true
          | cons y args =>
            cases args with
            | cons _ _ => cases y <;> exact absurd h Bool.false_ne_true
            | nil =>
              cases y with
              | Name ty tp =>
                cases kws with
                | cons _ _ => exact absurd h Bool.false_ne_true
                | nil =>
                  obtain ⟨h1, h⟩ := ba h
                  obtain ⟨h2, h⟩ := ba h
                  obtain ⟨h3, h⟩ := ba h
                  obtain ⟨h4, h⟩ := ba h
                  obtain ⟨h5, h6⟩ := ba h
                  have e1 : g = ("isinstance" : Str) := of_decide_eq_true h1
                  have e2 : ty = tyS .list := of_decide_eq_true h2
                  subst e1 e2
                  have q := pe_isLD (p := gp) (p2 := tp) (pos := pos) F h3 h4 h5 ((all_of a F h6).1 (notIt h6)).pe
                  refine .of F (.plain ?_ (fun _ => rfl) rfl)
                  exact pe_cong (fun ρ => by rw [ev] <;> rfl) q
              | _ => exact absurd h Bool.false_ne_true
      | _ => exact absurd h Bool.false_ne_true
    | _ => exact absurd h Bool.false_ne_true
  | .call x es, C, sc, X, md, e, F, h => by
    unfold chkE at h
    cases e with
    | Call f args kws pos =>
      cases f with
      | Name g gp =>
        cases kws with
        | cons _ _ => exact absurd h Bool.false_ne_true
        | nil =>
          obtain ⟨h1, h⟩ := ba h
          obtain ⟨h2, h⟩ := ba h
          obtain ⟨h3, h4⟩ := ba h
          have e1 : x = g := of_decide_eq_true h1
          subst e1
          have hp := chkEs_plain h4
          have q := pe_callD (p := gp) (pos := pos) F h2 h3 hp (fun z => by
            subst z
            cases es with
            | nil => rfl
            | cons _ _ => unfold chkEs at h4; exact absurd h4 Bool.false_ne_true) (pa_of es F h4)
          refine .of F (.plain ?_ (fun _ => rfl) rfl)
          exact pe_cong (fun ρ => by rw [ev] <;> rfl) q
      | _ => exact absurd h Bool.false_ne_true
    | _ => exact absurd h Bool.false_ne_true
  | .bif f es, C, sc, X, md, e, F, h => by
    unfold chkE at h
    cases e with
    | Call fn args kws pos =>
      cases fn with
      | Name g gp =>
        cases args with
        | nil => exact absurd h Bool.false_ne_true
        | cons a args =>
          cases kws with
          | cons _ _ => exact absurd h Bool.false_ne_true
          | nil =>
            obtain ⟨h1, h⟩ := ba h
            obtain ⟨h2, h4⟩ := ba h
            have e1 : bifN f = g := of_decide_eq_true h1
            subst e1
            have hp := chkEs_plain h4
            rw [List.all_cons, Bool.and_eq_true] at hp
            have q := pe_bifD (p := gp) (pos := pos) F h2 hp.1 hp.2 (pa_of es F h4)
            refine .of F (.plain ?_ (fun _ => rfl) rfl)
            exact pe_cong (fun ρ => by rw [ev] <;> rfl) q
      | _ => cases args <;> exact absurd h Bool.false_ne_true
    | _ => exact absurd h Bool.false_ne_true
  | .mth m a es, C, sc, X, md, e, F, h => by
    unfold chkE at h
    cases e with
    | Call fn args kws cpos =>
      cases fn with
      | Attribute o nm apos =>
        cases args with
        | nil => exact absurd h Bool.false_ne_true
        | cons x args =>
          cases kws with
          | cons _ _ => exact absurd h Bool.false_ne_true
          | nil =>
            obtain ⟨h1, h⟩ := ba h
            obtain ⟨h2, h⟩ := ba h
            obtain ⟨h3, h⟩ := ba h
            obtain ⟨h4, h⟩ := ba h
            obtain ⟨h5, h6⟩ := ba h
            have hp := chkEs_plain h6
            rw [List.all_cons, Bool.and_eq_true] at hp
            have q := pe_mthD (cpos := cpos) F (of_decide_eq_true h1) h2 h3 (of_decide_eq_true h4) hp.1 hp.2 ((all_of a F h5).1 (notIt h5)).pe (pa_of es F h6)
            refine .of F (.plain ?_ (fun _ => rfl) rfl)
            exact pe_cong (fun ρ => by rw [ev] <;> rfl) q
      | _ => cases args <;> exact absurd h Bool.false_ne_true
    | _ => exact absurd h Bool.false_ne_true
  | .lc tg it t el, C, sc, X, md, e, F, h => by
    unfold chkE at h
    cases e with
    | ListComp elt gens scope pos =>
      cases gens with
      | nil => exact absurd h Bool.false_ne_true
      | cons g gens =>
        cases gens with
        | cons _ _ => (cases g; exact absurd h Bool.false_ne_true)
        | nil =>
          obtain ⟨tx, iter, ifs, az⟩ := g
          obtain ⟨h0, h⟩ := ba h
          obtain ⟨h1, h⟩ := ba h
          obtain ⟨h2, h⟩ := ba h
          obtain ⟨h3, h⟩ := ba h
          obtain ⟨h4, h⟩ := ba h
          obtain ⟨h5, h6⟩ := ba h
          have e0 : az = 0 := of_decide_eq_true h0
          subst e0
          have hi := (all_of it F h1).2 (by cases tg <;> simp [mdOf]) tx (fun z => by
            cases tg with
            | nm i => simp [mdOf] at z
            | tp is => exact tup_of_tp h4)
          have L : LcOk C T N k sc X tg (fun ρ => itemsM (ev T it ρ)) (fun ρ => evt T t ρ) (fun ρ => ev T el ρ) tx iter elt ifs scope (ttOf C.calm0 T t) :=
            ⟨hi, h2, h3, h4, fun s H Cc cl fp => (pc_of t (F.blk s H scope Cc cl fp) h5).1, rdT_of t, fun s H Cc cl fp => ((all_of el (F.blk s H scope Cc cl fp) h6).1 (notIt h6)).pe⟩
          have q := pe_lcD (pos := pos) F L
          refine .of F (.plain ?_ (fun _ => rfl) rfl)
          exact pe_cong (fun ρ => by rw [ev] <;> rfl) q
    | _ => exact absurd h Bool.false_ne_true
  | .lc2 tg it tg2 it2 el, C, sc, X, md, e, F, h => by
    unfold chkE at h
    cases e with
    | ListComp elt gens scope pos =>
      cases gens with
      | nil => exact absurd h Bool.false_ne_true
      | cons g gens =>
        cases gens with
        | nil => (cases g; exact absurd h Bool.false_ne_true)
        | cons g2 gens =>
          cases gens with
          | cons _ _ => (cases g; cases g2; exact absurd h Bool.false_ne_true)
          | nil =>
            obtain ⟨tx, iter, ifs, az⟩ := g
            obtain ⟨tx2, iter2, ifs2, az2⟩ := g2
            obtain ⟨h0, h⟩ := ba h
            obtain ⟨h00, h⟩ := ba h
            obtain ⟨hf, h⟩ := ba h
            obtain ⟨hf2, h⟩ := ba h
            obtain ⟨h1, h⟩ := ba h
            obtain ⟨h2, h⟩ := ba h
            obtain ⟨h22, h⟩ := ba h
            obtain ⟨h3, h⟩ := ba h
            obtain ⟨h4, h⟩ := ba h
            obtain ⟨h5, h⟩ := ba h
            obtain ⟨h6, h7⟩ := ba h
            have e0 : az = 0 := of_decide_eq_true h0
            have e00 : az2 = 0 := of_decide_eq_true h00
            have ef : ifs = [] := List.isEmpty_iff.mp hf
            have ef2 : ifs2 = [] := List.isEmpty_iff.mp hf2
            subst e0 e00 ef ef2
            have hi := (all_of it F h1).2 (by cases tg <;> simp [mdOf]) tx (fun z => by
              cases tg with
              | nm i => simp [mdOf] at z
              | tp is => exact tup_of_tp h4)
            have L : Lc2Ok C T N k sc X tg tg2 (fun ρ => itemsM (ev T it ρ)) (fun ρ => itemsM (ev T it2 ρ)) (fun ρ => ev T el ρ) tx iter tx2 iter2 elt scope :=
              ⟨hi, h2, h22, h3, h4, h5, fun s H Cc cl fp => (all_of it2 (F.blk s H scope Cc cl fp) h6).2 (by cases tg2 <;> simp [mdOf]) tx2 (fun z => by
                cases tg2 with
                | nm i => simp [mdOf] at z
                | tp is => exact tup_of_tp h5), fun s H Cc cl fp => ((all_of el (F.blk s H scope Cc cl fp) h7).1 (notIt h7)).pe⟩
            have q := pe_lc2D (pos := pos) F L
            refine .of F (.plain ?_ (fun _ => rfl) rfl)
            exact pe_cong (fun ρ => by rw [ev] <;> rfl) q
    | _ => exact absurd h Bool.false_ne_true
  | .rng1 a, C, sc, X, md, e, F, h => by
    refine ⟨fun z => absurd z (by simp [isIt]), fun hm tg _ => ?_⟩
    unfold chkE at h
    cases md with
    | zero => exact absurd rfl hm
    | succ m =>
      cases e with
      | Call fn args kws pos =>
        cases fn with
        | Name g gp =>
          cases args with
          | nil => exact absurd h Bool.false_ne_true
          | cons x args =>
            cases args with
            | cons _ _ => exact absurd h Bool.false_ne_true
            | nil =>
              cases kws with
              | cons _ _ => exact absurd h Bool.false_ne_true
              | nil =>
                obtain ⟨h1, h⟩ := ba h
                obtain ⟨h2, h⟩ := ba h
                obtain ⟨h3, h4⟩ := ba h
                have e1 : g = ("range" : Str) := of_decide_eq_true h1
                subst e1
                have q := pi_rng1D (tg := tg) (p := gp) (pos := pos) F h2 h3 ((all_of a F h4).1 (notIt h4)).pe
                exact pi_cong (fun ρ => by rw [ev] <;> rfl) q
        | _ => cases args with
          | nil => exact absurd h Bool.false_ne_true
          | cons _ args => cases args <;> exact absurd h Bool.false_ne_true
      | _ => exact absurd h Bool.false_ne_true
  | .rng2 a b, C, sc, X, md, e, F, h => by
    refine ⟨fun z => absurd z (by simp [isIt]), fun hm tg _ => ?_⟩
    unfold chkE at h
    cases md with
    | zero => exact absurd rfl hm
    | succ m =>
      cases e with
      | Call fn args kws pos =>
        cases fn with
        | Name g gp =>
          cases args with
          | nil => exact absurd h Bool.false_ne_true
          | cons x args =>
            cases args with
            | nil => exact absurd h Bool.false_ne_true
            | cons y args =>
              cases args with
              | cons _ _ => exact absurd h Bool.false_ne_true
              | nil =>
                cases kws with
                | cons _ _ => exact absurd h Bool.false_ne_true
                | nil =>
                  obtain ⟨h1, h⟩ := ba h
                  obtain ⟨h2, h⟩ := ba h
                  obtain ⟨h3, h⟩ := ba h
                  obtain ⟨h33, h⟩ := ba h
                  obtain ⟨h4, h5⟩ := ba h
                  have e1 : g = ("range" : Str) := of_decide_eq_true h1
                  subst e1
                  have q := pi_rng2D (tg := tg) (p := gp) (pos := pos) F h2 h3 h33 ((all_of a F h4).1 (notIt h4)).pe ((all_of b F h5).1 (notIt h5)).pe
                  exact pi_cong (fun ρ => by rw [ev] <;> rfl) q
        | _ => cases args with
          | nil => exact absurd h Bool.false_ne_true
          | cons _ args => cases args with
            | nil => exact absurd h Bool.false_ne_true
            | cons _ args => cases args <;> exact absurd h Bool.false_ne_true
      | _ => exact absurd h Bool.false_ne_true
  | .lrng a b, C, sc, X, md, e, F, h => by
    unfold chkE at h
    split at h
    · rename_i l lp g gp x y pos2 pos
      obtain ⟨h1, h⟩ := ba h
      obtain ⟨h2, h⟩ := ba h
      obtain ⟨h3, h⟩ := ba h
      obtain ⟨h4, h⟩ := ba h
      obtain ⟨h5, h⟩ := ba h
      obtain ⟨h6, h⟩ := ba h
      obtain ⟨h7, h8⟩ := ba h
      have e1 : l = ("list" : Str) := of_decide_eq_true h1
      have e2 : g = ("range" : Str) := of_decide_eq_true h3
      subst e1 e2
      have q := pe_lrngD (p := lp) (p2 := gp) (pos := pos) (pos2 := pos2) F h2 h4 h5 h6 ((all_of a F h7).1 (notIt h7)).pe ((all_of b F h8).1 (notIt h8)).pe
      refine .of F (.plain ?_ (fun _ => rfl) rfl)
      exact pe_cong (fun ρ => by rw [ev] <;> rfl) q
    · exact absurd h Bool.false_ne_true
  | .zip es, C, sc, X, md, e, F, h => by
    refine ⟨fun z => absurd z (by simp [isIt]), fun hm tg ht => ?_⟩
    unfold chkE at h
    split at h
    · obtain ⟨elts, kk, tpos, e0⟩ := ht rfl
      subst e0
      split at h
      · rename_i g gp x y pos
        obtain ⟨h1, h⟩ := ba h
        obtain ⟨h2, h3⟩ := ba h
        have e1 : g = ("zip" : Str) := of_decide_eq_true h1
        subst e1
        have hp := chkEs_plain h3
        rw [List.all_cons, List.all_cons, Bool.and_eq_true, Bool.and_eq_true] at hp
        have q := pi_zipD (elts := elts) (kk := kk) (tpos := tpos) (p := gp) (pos := pos) F h2 hp.1 hp.2.1 (pa_of es F h3)
        exact pi_cong (fun ρ => by rw [ev] <;> rfl) q
      · exact absurd h Bool.false_ne_true
    · exact absurd h Bool.false_ne_true
  | .enum a, C, sc, X, md, e, F, h => by
    refine ⟨fun z => absurd z (by simp [isIt]), fun hm tg ht => ?_⟩
    unfold chkE at h
    split at h
    · obtain ⟨elts, kk, tpos, e0⟩ := ht rfl
      subst e0
      split at h
      · rename_i g gp x pos
        obtain ⟨h1, h⟩ := ba h
        obtain ⟨h2, h⟩ := ba h
        obtain ⟨h3, h4⟩ := ba h
        have e1 : g = ("enumerate" : Str) := of_decide_eq_true h1
        subst e1
        have q := pi_enumD (elts := elts) (kk := kk) (tpos := tpos) (p := gp) (pos := pos) F h2 h3 ((all_of a F h4).1 (notIt h4)).pe
        exact pi_cong (fun ρ => by rw [ev] <;> rfl) q
      · exact absurd h Bool.false_ne_true
    · exact absurd h Bool.false_ne_true
theorem pa_of : ∀ (cs : List Cd) {C : Cn} {sc : Scope} {X : Cx} {es : List Expr}, Fit C T N k sc X → chkEs N cs sc es = true → PA X es (tEs C (evs T cs))
  | [], C, sc, X, es, F, h => by
    unfold chkEs at h
    have e : es = [] := List.isEmpty_iff.mp h
    subst e
    have q : PA X [] (tEs C fun _ => pure []) := pa_nilD
    exact pa_cong (fun ρ => by rw [evs] <;> rfl) q
  | c :: cs, C, sc, X, es, F, h => by
    unfold chkEs at h
    cases es with
    | nil => exact absurd h Bool.false_ne_true
    | cons e es =>
      obtain ⟨h1, h⟩ := ba h
      obtain ⟨h2, h3⟩ := ba h
      have q := pa_consD h1 ((all_of c F h2).1 (notIt h2)).pe (pa_of cs F h3)
      exact pa_cong (fun ρ => by rw [evs] <;> rfl) q
theorem pd_of : ∀ (cs : List Cd) {C : Cn} {sc : Scope} {X : Cx} {ks : List Str} {keys : List (Option Expr)} {vals : List Expr} {pos : Pos}, Fit C T N k sc X → strKeys ks keys = true → ks.length = cs.length → chkEs N cs sc vals = true →
    PPs X pos keys vals (prs C T ks cs) ∧ keys.all (·.isSome) = true ∧ keys.length = vals.length ∧ keys.length = ks.length
  | [], C, sc, X, ks, keys, vals, pos, F, hk, hl, h => by
    unfold chkEs at h
    have e : vals = [] := List.isEmpty_iff.mp h
    subst e
    cases ks with
    | nil =>
      cases keys with
      | nil => exact ⟨pps_nil, rfl, rfl, rfl⟩
      | cons _ _ => exact absurd hk Bool.false_ne_true
    | cons _ _ => simp at hl
  | c :: cs, C, sc, X, ks, keys, vals, pos, F, hk, hl, h => by
    unfold chkEs at h
    cases vals with
    | nil => exact absurd h Bool.false_ne_true
    | cons e es =>
      obtain ⟨h1, h⟩ := ba h
      obtain ⟨h2, h3⟩ := ba h
      cases ks with
      | nil => simp at hl
      | cons kk ks =>
        cases keys with
        | nil => exact absurd hk Bool.false_ne_true
        | cons ko rk =>
          cases ko with
          | none => exact absurd hk Bool.false_ne_true
          | some ke =>
            cases ke with
            | Constant v j p =>
              cases v with
              | str x =>
                obtain ⟨g1, g2⟩ := ba (show (decide (kk = x) && strKeys ks rk) = true from hk)
                have ek : kk = x := of_decide_eq_true g1
                subst ek
                obtain ⟨p1, l1, l2, l3⟩ := pd_of cs (pos := pos) F g2 (by simpa using hl) h3
                exact ⟨pps_cons pe_str ((all_of c F h2).1 (notIt h2)).pe p1, by rw [List.all_cons, l1]; rfl, by rw [List.length_cons, List.length_cons, l2], by rw [List.length_cons, List.length_cons, l3]⟩
              | _ => exact absurd hk Bool.false_ne_true
            | _ => exact absurd hk Bool.false_ne_true
theorem po_of : ∀ (o : Option Cd) {C : Cn} {sc : Scope} {X : Cx} {e : Option Expr}, Fit C T N k sc X → chkO N o sc e = true → PO X e (tOd C fun ρ => bndM (evo T o ρ))
  | none, C, sc, X, e, F, h => by
    unfold chkO at h
    have e0 : e = none := Option.isNone_iff_eq_none.mp h
    subst e0
    have q : PO X none (tOd C fun _ => bndM (pure none)) := po_noneD
    exact po_cong (fun ρ => by rw [evo] <;> rfl) q
  | some c, C, sc, X, e, F, h => by
    unfold chkO at h
    cases e with
    | none => exact absurd h Bool.false_ne_true
    | some e =>
      have h : chkE N c 0 sc e = true := h
      have q := po_someD ((all_of c F h).1 (notIt h)).pe
      exact po_cong (fun ρ => by rw [evo] <;> rfl) q
theorem pc_of : ∀ (o : Option Cd) {C : Cn} {sc : Scope} {X : Cx} {es : List Expr}, Fit C T N k sc X → chkC N o sc es = true → PTs X es (ttOf C T o) ∧ True
  | none, C, sc, X, es, F, h => by
    unfold chkC at h
    have e0 : es = [] := List.isEmpty_iff.mp h
    subst e0
    exact ⟨pts_nil, trivial⟩
  | some c, C, sc, X, es, F, h => by
    unfold chkC at h
    cases es with
    | nil => exact absurd h Bool.false_ne_true
    | cons e es =>
      cases es with
      | cons _ _ => exact absurd h Bool.false_ne_true
      | nil =>
        have h : chkE N c 0 sc e = true := h
        exact ⟨pts_one ((all_of c F h).1 (notIt h)).pt, trivial⟩
end
end
end PD

set_option Elab.async false
set_option linter.all false
set_option maxRecDepth 100000
set_option maxHeartbeats 8000000
/-! PD16: statements: runs, lists of one's own, shared lists turned. -/
namespace PD
open PySem PySem.Spec L2

section
variable {C : Cn} {W : Wd} {H : Hp} {ρ : Env'} {σ : L2.St} {s : Sto}
theorem set_none_key {i j : Nat} {x : Ov} (e : (ρ.set i none)[j]? = some (some x)) : ρ[j]? = some (some x) ∧ j ≠ i := by
  by_cases hj : j = i
  · subst hj
    rw [List.getElem?_set] at e
    simp at e
  · rw [List.getElem?_set_ne (Ne.symm hj)] at e
    exact ⟨e, hj⟩
theorem set_some_key {i j : Nat} {x y : Ov} (e : (ρ.set i (some y))[j]? = some (some x)) : (j = i ∧ x = y ∧ i < ρ.length) ∨ (j ≠ i ∧ (ρ.set i none)[j]? = some (some x)) := by
  by_cases hj : j = i
  · subst hj
    rw [List.getElem?_set] at e
    by_cases hl : j < ρ.length
    · simp [hl] at e
      exact .inl ⟨rfl, e.symm, hl⟩
    · simp [hl] at e
  · rw [List.getElem?_set_ne (Ne.symm hj)] at e
    refine .inr ⟨hj, ?_⟩
    rw [List.getElem?_set_ne (Ne.symm hj)]
    exact e
theorem EnvOk.dropS (h : EnvOk C W H ρ σ) (i : Nat) (x : Option V) : EnvOk C W H (ρ.set i none) (σ.set i x) := by
  have k : ∀ j : Nat, j ≠ i → (σ.set i x)[j]? = σ[j]? := fun j hj => List.getElem?_set_ne (Ne.symm hj)
  refine ⟨by rw [List.length_set, List.length_set]; exact h.len, fun j d e => ?_, fun j xs e => ?_, fun j l xs ys a hjl e1 e2 e3 => ?_⟩
  · obtain ⟨e, hj⟩ := set_none_key e
    rw [k j hj]
    exact h.val j d e
  · obtain ⟨e, hj⟩ := set_none_key e
    rw [k j hj]
    exact h.own j xs e
  · obtain ⟨e1, hj⟩ := set_none_key e1
    obtain ⟨e2, hl⟩ := set_none_key e2
    rw [k j hj] at e3
    rw [k l hl]
    exact h.sep j l xs ys a hjl e1 e2 e3
theorem EnvOk.drop (h : EnvOk C W H ρ σ) (i : Nat) : EnvOk C W H (ρ.set i none) σ := by
  refine ⟨by rw [List.length_set]; exact h.len, fun j d e => ?_, fun j xs e => ?_, fun j l xs ys a hjl e1 e2 e3 => ?_⟩
  · exact h.val j d (set_none_key e).1
  · exact h.own j xs (set_none_key e).1
  · exact h.sep j l xs ys a hjl (set_none_key e1).1 (set_none_key e2).1 e3
theorem EnvOk.putV {i : Nat} {d : D} {v : V} (h : EnvOk C W H (ρ.set i none) σ) (e0 : σ[i]? = some (some v)) (r : RepV C.K W H d v) : EnvOk C W H (ρ.set i (some (.val d))) σ := by
  refine ⟨by rw [List.length_set]; rw [← h.len, List.length_set], fun j d' e => ?_, fun j xs e => ?_, fun j l xs ys a hjl e1 e2 e3 => ?_⟩
  · rcases set_some_key e with ⟨e1, e2, _⟩ | ⟨hj, e⟩
    · subst e1
      cases e2
      exact ⟨v, e0, r⟩
    · exact h.val j d' e
  · rcases set_some_key e with ⟨e1, e2, _⟩ | ⟨hj, e⟩
    · cases e2
    · exact h.own j xs e
  · rcases set_some_key e1 with ⟨_, q, _⟩ | ⟨_, e1⟩
    · cases q
    · rcases set_some_key e2 with ⟨_, q, _⟩ | ⟨_, e2⟩
      · cases q
      · exact h.sep j l xs ys a hjl e1 e2 e3
theorem EnvOk.putO {i : Nat} {a : Addr} {xs : List D} {vs : List V} (h : EnvOk C W H (ρ.set i none) σ) (e0 : σ[i]? = some (some (.ref a))) (hH : H a = some (.lst vs)) (r : RepL C.K W H xs vs) (nz : ¬ W.Z a) (nm : a ∉ W.mu) (n0 : C.H0 a = none)
    (no : ∀ (j : Nat) zs, (ρ.set i none)[j]? = some (some (.own zs)) → σ[j]? ≠ some (some (.ref a))) : EnvOk C W H (ρ.set i (some (.own xs))) σ := by
  refine ⟨by rw [List.length_set]; rw [← h.len, List.length_set], fun j d' e => ?_, fun j ys e => ?_, fun j l ys zs b hjl e1 e2 e3 => ?_⟩
  · rcases set_some_key e with ⟨e1, e2, _⟩ | ⟨hj, e⟩
    · cases e2
    · exact h.val j d' e
  · rcases set_some_key e with ⟨e1, e2, _⟩ | ⟨hj, e⟩
    · subst e1
      cases e2
      exact ⟨a, vs, e0, hH, r, nz, nm, n0⟩
    · exact h.own j ys e
  · rcases set_some_key e1 with ⟨q1, q2, _⟩ | ⟨hj, e1⟩
    · subst q1
      rcases set_some_key e2 with ⟨q3, _, _⟩ | ⟨hl, e2⟩
      · exact absurd q3.symm hjl
      · rw [e0] at e3
        cases e3
        exact no l zs e2
    · rcases set_some_key e2 with ⟨q3, _, _⟩ | ⟨hl, e2⟩
      · subst q3
        intro q
        rw [e0] at q
        cases q
        exact no j ys e1 e3
      · exact h.sep j l ys zs b hjl e1 e2 e3
theorem SR.fresh0 (sr : SR C W H ρ σ s) {p : Addr} (hp : H p = none) : C.H0 p = none := sr.fr.back (fun b hb => sr.sto.some b (sr.fr.ext.mu_mem hb)) hp
/-- a new list of one's own -/
theorem SR.newOwn (sr : SR C W H ρ σ s) {p : Addr} {i : Nat} {xs : List D} {vs : List V} (hi : i < ρ.length) (hp : H p = none) (r : RepL C.K W H xs vs) :
    Ext W W H (upd H p (.lst vs)) ∧ SR C W (upd H p (.lst vs)) (ρ.set i (some (.own xs))) (σ.set i (some (.ref p))) s := by
  have a := Alloc.new0 W H (o := .lst vs) hp
  have sr2 := sr.alloc a
  refine ⟨a.fr.ext, sr2.env_ (EnvOk.putO (a := p) (vs := vs) (sr2.env.dropS i (some (.ref p))) ?_ upd_same (r.mono a.fr.ext) (fun z => sr.sto.zt p z hp) (fun m => sr.sto.some p m hp) (sr.fresh0 hp) fun j zs e q => ?_)⟩
  · rw [List.getElem?_set]
    rw [sr.env.len] at hi
    simp [hi]
  · obtain ⟨e, hj⟩ := set_none_key e
    rw [List.getElem?_set_ne (Ne.symm hj)] at q
    obtain ⟨b, us, e1, e2, _⟩ := sr.env.own j zs e
    rw [q] at e1
    cases e1
    rw [hp] at e2
    cases e2
theorem SR.own_no (sr : SR C W H ρ σ s) {i : Nat} {xs : List D} {a : Addr} (e : ρ[i]? = some (some (.own xs))) (ea : σ[i]? = some (some (.ref a))) : ∀ (j : Nat) zs, (ρ.set i none)[j]? = some (some (.own zs)) → σ[j]? ≠ some (some (.ref a)) := fun j zs q h => by
  obtain ⟨q, hj⟩ := set_none_key q
  exact sr.env.sep i j xs zs a (Ne.symm hj) e q ea h
/-- .. is read as a list -/
theorem SR.frz (sr : SR C W H ρ σ s) {i : Nat} {xs : List D} (e : ρ[i]? = some (some (.own xs))) : ∃ W', Ext W W' H H ∧ SR C W' H (ρ.set i (some (.val (.lst xs)))) σ s := by
  obtain ⟨a, vs, e1, e2, r, nz, nm, n0⟩ := sr.env.own i xs e
  have sr1 : SR C W H (ρ.set i none) σ s := sr.env_ (sr.env.drop i)
  obtain ⟨ex, sr2⟩ := sr1.freeze (D := a) (by rw [e2]; exact fun z => nomatch z) nm n0 (sr.own_no e e1)
  refine ⟨W.add a, ex, sr2.env_ (sr2.env.putV e1 ?_)⟩
  unfold RepV
  exact ⟨a, vs, rfl, .inl ⟨.inr rfl, e2⟩, r.mono ex⟩
/-- .. grows by one -/
theorem SR.app (sr : SR C W H ρ σ s) {i : Nat} {xs : List D} {a : Addr} {vs : List V} {d : D} {y : V} (e : ρ[i]? = some (some (.own xs))) (e1 : σ[i]? = some (some (.ref a))) (e2 : H a = some (.lst vs)) (ry : RepV C.K W H d y) :
    Ext W W H (upd H a (.lst (vs ++ [y]))) ∧ SR C W (upd H a (.lst (vs ++ [y]))) (ρ.set i (some (.own (xs ++ [d])))) σ s := by
  obtain ⟨a', vs', e1', e2', r, nz, nm, n0⟩ := sr.env.own i xs e
  rw [e1] at e1'
  cases e1'
  rw [e2] at e2'
  cases e2'
  have sr1 : SR C W H (ρ.set i none) σ s := sr.env_ (sr.env.drop i)
  obtain ⟨ex, sr2⟩ := sr1.turn (ys := vs ++ [y]) e2 nz nm n0 (sr.own_no e e1)
  exact ⟨ex, sr2.env_ (sr2.env.putO e1 upd_same ((r.append (.cons ry .nil)).mono ex) nz nm n0 (sr.own_no e e1))⟩
/-- a shared list is turned -/
theorem SR.setSto (sr : SR C W H ρ σ s) {n : Nat} {a : Addr} {xs ys : List D} {vs ws : List V} (hs : s[n]? = some (.lst xs)) (hm : W.mu[n]? = some a) (hH : H a = some (.lst vs)) (r : RepL C.K W H ys ws) :
    Ext W W H (upd H a (.lst ws)) ∧ SR C W (upd H a (.lst ws)) ρ σ (s.set n (.lst ys)) := by
  have nz : ¬ W.Z a := sr.sto.nz a (List.mem_of_getElem? hm)
  have ex : Ext W W H (upd H a (.lst ws)) := by
    refine ⟨fun _ h => h, fun b o z e => ?_, fun b zs e => ?_, fun b o u e => ?_, fun _ _ e => e⟩
    · rw [upd_ne (show b ≠ a from fun q => nz (q ▸ z))]; exact e
    · rw [upd_ne (ne_of e hH fun q => nomatch q)]; exact e
    · rw [upd_ne (ne_of e hH fun q => nomatch q)]; exact e
  refine ⟨ex, ⟨⟨sr.fr.ext.trans ex, fun b o e hb => ?_, sr.fr.fz, sr.fr.fmu⟩, ⟨?_, sr.sto.nd, fun m c b e1 e2 => ?_, sr.sto.nz, fun b z => ?_⟩, sr.env.len, fun i d e => ?_, fun i zs e => ?_, sr.env.sep⟩⟩
  · have q : b ≠ a := fun q => by
      subst q
      rcases sr.fr.fmu b (List.mem_of_getElem? hm) with h | h
      · exact hb h
      · rw [h] at e; cases e
    rw [upd_ne q]
    exact sr.fr.keep b o e hb
  · rw [List.length_set]; exact sr.sto.len
  · by_cases hmn : m = n
    · subst hmn
      rw [hm] at e2
      cases e2
      rw [List.getElem?_set] at e1
      by_cases hl : m < s.length
      · simp [hl] at e1
        subst e1
        exact ⟨ws, upd_same, r.mono ex⟩
      · simp [hl] at e1
    · rw [List.getElem?_set_ne (Ne.symm hmn)] at e1
      have q : b ≠ a := fun q => by
        subst q
        obtain ⟨l1, g1⟩ := List.getElem?_eq_some_iff.mp e2
        exact hmn ((List.getElem?_inj l1 sr.sto.nd).mp (e2.trans hm.symm))
      refine (sr.sto.at_ m c b e1 e2).mono ex fun o e => ?_
      rw [upd_ne q]
      exact e
  · rw [upd_ne (show b ≠ a from fun q => nz (q ▸ z))]
    exact sr.sto.zt b z
  · obtain ⟨v, e1, rv⟩ := sr.env.val i d e
    exact ⟨v, e1, rv.mono ex⟩
  · obtain ⟨b, us, e1, e2, ru, z, m, n0⟩ := sr.env.own i zs e
    refine ⟨b, us, e1, ?_, ru.mono ex, z, m, n0⟩
    rw [upd_ne (show b ≠ a from fun q => m (q ▸ List.mem_of_getElem? hm))]
    exact e2
end

/-! ### runs of statements -/
def FlS (C : Cn) (W' : Wd) (H' : Hp) (σ' : L2.St) (D : Ends) : Fl → Prop
  | .nx => D.nx σ' H'
  | .bk => D.bk σ' H'
  | .ct => D.ct σ' H'
  | .rt d => ∀ v, RepV C.K W' H' d v → D.rt v H'
  | .ex e => ∀ c d, ExcOk C.K C.mg W' H' e c d → C.Wx c d σ' H'
def RunS (C : Cn) (W : Wd) (H : Hp) (r : Res (Fl × Env')) (D : Ends) : Prop := match r with
  | .ok p s => ∀ W' H' σ', SR C W' H' p.2 σ' s → Ext W W' H H' → FlS C W' H' σ' D p.1
  | .exn _ _ => False
  | .bad => False
def tS (C : Cn) (m : Env' → M (Fl × Env')) : TS := fun D σ H => ∃ ρ s W, SR C W H ρ σ s ∧ RunS C W H (m ρ s) D
section
variable {α : Type} {C : Cn} {W W1 : Wd} {H H1 : Hp} {ρ : Env'} {σ : L2.St} {s : Sto} {D : Ends}
theorem RunS.fwd {r : Res (Fl × Env')} (h : RunS C W H r D) (e : Ext W W1 H H1) : RunS C W1 H1 r D := by
  cases r with
  | ok p s => exact fun W' H' σ' x y => h W' H' σ' x (e.trans y)
  | exn x s => exact h
  | bad => exact h
theorem RunS.imp {r : Res (Fl × Env')} {D' : Ends} (h : RunS C W H r D) (q1 : ∀ σ' H', D.nx σ' H' → D'.nx σ' H') (q2 : ∀ σ' H', D.bk σ' H' → D'.bk σ' H') (q3 : ∀ σ' H', D.ct σ' H' → D'.ct σ' H') (q4 : ∀ v H', D.rt v H' → D'.rt v H') : RunS C W H r D' := by
  cases r with
  | ok p s =>
    intro W' H' σ' x y
    have k := h W' H' σ' x y
    obtain ⟨f, ρ'⟩ := p
    cases f with
    | nx => exact q1 _ _ k
    | bk => exact q2 _ _ k
    | ct => exact q3 _ _ k
    | rt d => exact fun v rv => q4 _ _ (k v rv)
    | ex e => exact k
  | exn x s => exact h
  | bad => exact h
/-- ahead: an expression -/
theorem RunS.tr {β : Type} {m : M α} {k : α → M (Fl × Env')} {R1 : Wd → Hp → α → β → Prop} (h : RunS C W H (tryS ρ m k s) D) :
    Run C ρ W σ H (m s) R1 fun b H1 => ∃ W1 a s1, SR C W1 H1 ρ σ s1 ∧ Frm W W1 H H1 ∧ R1 W1 H1 a b ∧ RunS C W1 H1 (k a s1) D := by
  unfold tryS at h
  cases q : m s with
  | ok a s1 =>
    rw [q] at h
    exact fun W1 H1 b x y z => ⟨W1, a, s1, x, y, z, RunS.fwd h y.ext⟩
  | exn e s1 =>
    rw [q] at h
    intro W' H' c d x y z
    exact h W' H' σ x y.ext c d z
  | bad =>
    rw [q] at h
    exact h
theorem RunS.opt {o : Option α} {f : α → M (Fl × Env')} (h : RunS C W H ((optM o >>= f) s) D) : ∃ a, o = some a ∧ RunS C W H (f a s) D := by
  cases o with
  | none => exact h.elim
  | some a => exact ⟨a, rfl, h⟩
theorem RunS.chk {b : Bool} {m : M (Fl × Env')} (h : RunS C W H (PD.chk b m s) D) : b = true ∧ RunS C W H (m s) D := by
  cases b with
  | false => exact h.elim
  | true => exact ⟨rfl, h⟩
theorem RunS.nx (h : RunS C W H ((pure (.nx, ρ) : M (Fl × Env')) s) D) {W' : Wd} {H' : Hp} (sr : SR C W' H' ρ σ s) (e : Ext W W' H H') : D.nx σ H' := h W' H' σ sr e
theorem RunS.rt {d : PD.D} {v : V} (h : RunS C W H ((pure (.rt d, ρ) : M (Fl × Env')) s) D) {W' : Wd} {H' : Hp} (sr : SR C W' H' ρ σ s) (e : Ext W W' H H') (r : RepV C.K W' H' d v) : D.rt v H' := h W' H' σ sr e v r
/-- behind a statement -/
def EndsK (C : Cn) (W : Wd) (H : Hp) (k : Fl × Env' → M (Fl × Env')) (D : Ends) : Ends where
  nx := fun σ' H' => ∃ W' ρ' s', SR C W' H' ρ' σ' s' ∧ Ext W W' H H' ∧ RunS C W' H' (k (.nx, ρ') s') D
  bk := fun σ' H' => ∃ W' ρ' s', SR C W' H' ρ' σ' s' ∧ Ext W W' H H' ∧ RunS C W' H' (k (.bk, ρ') s') D
  ct := fun σ' H' => ∃ W' ρ' s', SR C W' H' ρ' σ' s' ∧ Ext W W' H H' ∧ RunS C W' H' (k (.ct, ρ') s') D
  rt := fun v H' => ∃ W' σ' ρ' s' d, SR C W' H' ρ' σ' s' ∧ Ext W W' H H' ∧ RepV C.K W' H' d v ∧ RunS C W' H' (k (.rt d, ρ') s') D
theorem RunS.bindS {m : M (Fl × Env')} {k : Fl × Env' → M (Fl × Env')} (hk : ∀ e ρ', k (.ex e, ρ') = pure (.ex e, ρ')) (h : RunS C W H ((m >>= k) s) D) : RunS C W H (m s) (EndsK C W H k D) := by
  have e : (m >>= k) s = M.bind m k s := rfl
  rw [e] at h
  unfold M.bind at h
  cases q : m s with
  | ok p s1 =>
    rw [q] at h
    intro W' H' σ' x y
    obtain ⟨f, ρ'⟩ := p
    cases f with
    | nx => exact ⟨W', ρ', s1, x, y, RunS.fwd h y⟩
    | bk => exact ⟨W', ρ', s1, x, y, RunS.fwd h y⟩
    | ct => exact ⟨W', ρ', s1, x, y, RunS.fwd h y⟩
    | rt d => exact fun v r => ⟨W', σ', ρ', s1, d, x, y, r, RunS.fwd h y⟩
    | ex e =>
      have h' : RunS C W H (k (.ex e, ρ') s1) D := h
      rw [hk] at h'
      exact fun c d z => h' W' H' σ' x y c d z
  | exn e s1 =>
    rw [q] at h
    exact h
  | bad =>
    rw [q] at h
    exact h
end
end PD

set_option Elab.async false
set_option linter.all false
set_option maxRecDepth 100000
set_option maxHeartbeats 8000000
/-! PD17: each statement. -/
namespace PD
open PySem PySem.Spec L2

theorem isOwn_ {ρ : Env'} {i : Nat} (h : isOwn ρ i = true) : ∃ xs, ρ[i]? = some (some (.own xs)) := by
  unfold isOwn at h
  split at h
  · exact ⟨_, by assumption⟩
  · cases h
theorem getV_ {ρ : Env'} {i : Nat} {d : D} (h : getV ρ i = some d) : ρ[i]? = some (some (.val d)) := by
  unfold getV at h
  split at h
  · cases h; assumption
  · cases h
/-- a context in which statements run -/
structure FitS (C : Cn) (T : Tab) (N : List Str) (k : Nat) (sc : Scope) (X : Cx) : Prop extends Fit C T N k sc X where
  fn : ∀ x, X.fn x = true
  passes : PassesOwn (model X.prog X.w) X.A X.env X.xe
  kind : X.env.scope.kind = .function
  stk : X.stack = X.env :: X.outer
  frm : X.env.frame = some X.env.locals
def stB (sc : Scope) (x : Str) : Bool := match sc.names.lookup x with
  | some .local => true
  | some .cell => true
  | _ => false
theorem stB_ {sc : Scope} {x : Str} (h : stB sc x = true) : L2.Loc sc x := by
  unfold stB at h
  split at h
  · exact .inl (by assumption)
  · exact .inr (by assumption)
  · cases h
def isLc : Expr → Bool
  | .ListComp _ _ _ _ => true
  | .SetComp _ _ _ _ => true
  | .DictComp _ _ _ _ _ => true
  | _ => false
theorem sw_f {v : Expr} {t : Option Expr} {l : Nat} {env : Env} (h : isLc v = false) : swapsWith v t l env = pure false := by
  cases v <;> first | rfl | exact absurd (show true = false from h) (by decide)
theorem sw_cell {v : Expr} {x : Str} {p : Pos} {l : Nat} {env : Env} (h : env.scope.names.lookup x = some .cell) : swapsWith v (some (.Name x p)) l env = pure false := by
  have ky : env.kindOf x = some .cell := h
  cases v <;> first | rfl | (unfold swapsWith; simp only [ky]; cases (env.blockKind == .function) <;> rfl)
theorem sw_tup {v : Expr} {es : List Expr} {kk : Nat} {p : Pos} {l : Nat} {env : Env} : swapsWith v (some (.Tuple es kk p)) l env = pure false := by
  cases v <;> rfl
theorem sw_sub {v : Expr} {a b : Expr} {p : Pos} {l : Nat} {env : Env} : swapsWith v (some (.Subscript a b p)) l env = pure false := by
  cases v <;> rfl
/-! ### the order of the stores -/
theorem st_plain {t v : Expr} {env : Env} (h : ∀ ts k p vs k2 p2, t = .Tuple ts k p → v = .Tuple vs k2 p2 → False) (h2 : ∀ ts p vs k2 p2, t = .List ts p → v = .Tuple vs k2 p2 → False) : swappedStores [t] v env = pure none := by
  cases t <;> first
    | (cases v <;> rfl)
    | (cases v <;> first | rfl | exact (h _ _ _ _ _ _ rfl rfl).elim | exact (h2 _ _ _ _ _ rfl rfl).elim)
def okSt (sc : Scope) (l : Nat) : Expr → Bool
  | .Name x p => locB sc x && (p.line == l)
  | _ => false
theorem fm_len {α β : Type} {f : α → Option β} : ∀ {l : List α} {a : α}, a ∈ l → f a = none → (l.filterMap f).length < l.length
  | x :: r, a, h, e => by
    have le : (r.filterMap f).length ≤ r.length := List.length_filterMap_le f r
    rcases List.mem_cons.mp h with q | q
    · subst q
      rw [List.filterMap_cons, e, List.length_cons]
      exact Nat.lt_succ_of_le le
    · have k := fm_len q e
      rw [List.filterMap_cons, List.length_cons]
      cases f x with
      | none => exact Nat.lt_succ_of_lt k
      | some y => exact Nat.succ_lt_succ k
def notLoc (sc : Scope) : Expr → Bool
  | .Name x _ => !locB sc x
  | _ => true
theorem st_none {ts vs : List Expr} {k k2 : Nat} {p p2 : Pos} {env : Env} {sc : Scope} (hs : env.scope = sc) (h : ts.any (notLoc sc) = true ∨ vs.all (foldedForSure 8) = true) : swappedStores [.Tuple ts k p] (.Tuple vs k2 p2) env = pure none := by
  unfold swappedStores
  dsimp only
  split
  · rfl
  · split
    · rfl
    · split
      · rfl
      · rename_i _ _ h3
        rcases h with h | h
        · exfalso
          obtain ⟨e, he, hn⟩ := List.any_eq_true.mp h
          apply h3
          rw [Bool.or_eq_true]
          left
          rw [bne_iff_ne]
          refine Nat.ne_of_lt (fm_len he ?_)
          cases e with
          | Name x q =>
            have hn' : (!locB sc x) = true := hn
            have hl : env.kindOf x ≠ some .local := fun z => by
              have z' : sc.names.lookup x = some .local := by rw [← hs]; exact z
              rw [show locB sc x = true from decide_eq_true z'] at hn'
              cases hn'
            have hb : (env.kindOf x == some .local) = false := beq_eq_false_iff_ne.mpr hl
            simp only [hb]
            rfl
          | _ => rfl
        · rw [if_pos h]
theorem st_two {x y : Str} {px py p p2 : Pos} {a b : Expr} {k k2 : Nat} {env : Env} (hk : env.scope.kind = .function) (hx : env.scope.names.lookup x = some .local) (hy : env.scope.names.lookup y = some .local) (hl : (py.line == px.line) = true) (hne : x ≠ y)
    (hf : [a, b].all (foldedForSure 8) = false) (hc : [a, b].all (constantsAlone 8) = false) (pa : plainX a = true) (pb : plainX b = true) : swappedStores [.Tuple [.Name x px, .Name y py] k p] (.Tuple [a, b] k2 p2) env = pure (some [x, y]) := by
  have kx : (env.kindOf x == some .local) = true := by rw [show env.kindOf x = some .local from hx]; rfl
  have ky : (env.kindOf y == some .local) = true := by rw [show env.kindOf y = some .local from hy]; rfl
  have hb : env.blockKind = .function := by unfold Env.blockKind; rw [hk]; rfl
  have hn : ([x, y] : List Str).eraseDups = [x, y] := by
    have e : (y == x) = false := beq_eq_false_iff_ne.mpr (Ne.symm hne)
    simp [List.eraseDups_cons, List.filter_cons, e, Ne.symm hne]
  unfold swappedStores
  simp only [hb, List.filterMap_cons, kx, ky, Expr.pos, List.head?_cons, Option.map_some, Option.getD_some, hl, beq_self_eq_true, Bool.and_self, if_true, List.filterMap_nil, hn, hf, hc]
  have pl : ∀ e ∈ [a, b], plainX e = true := fun e he => by
    simp only [List.mem_cons, List.not_mem_nil, or_false] at he
    rcases he with rfl | rfl <;> assumption
  split
  · rename_i h
    exfalso
    first | cases h | skip
  · split
    · rename_i h
      obtain ⟨e, he, hs⟩ := List.any_eq_true.mp h
      have := pl e he
      cases e <;> first | exact absurd (show false = true from hs) (by decide) | exact absurd (show false = true from this) (by decide)
    · rfl
theorem st_three {x y z : Str} {px py pz p p2 : Pos} {a b c : Expr} {k k2 : Nat} {env : Env} (hk : env.scope.kind = .function) (hx : env.scope.names.lookup x = some .local) (hy : env.scope.names.lookup y = some .local) (hz : env.scope.names.lookup z = some .local) (hl : (py.line == px.line) = true) (hl2 : (pz.line == px.line) = true) (hne : x ≠ y) (hne2 : x ≠ z) (hne3 : y ≠ z)
    (hf : [a, b, c].all (foldedForSure 8) = false) (hc : [a, b, c].all (constantsAlone 8) = false) (pa : plainX a = true) (pb : plainX b = true) (pc : plainX c = true) : swappedStores [.Tuple [.Name x px, .Name y py, .Name z pz] k p] (.Tuple [a, b, c] k2 p2) env = pure (some [x, y, z]) := by
  have kx : (env.kindOf x == some .local) = true := by rw [show env.kindOf x = some .local from hx]; rfl
  have ky : (env.kindOf y == some .local) = true := by rw [show env.kindOf y = some .local from hy]; rfl
  have kz : (env.kindOf z == some .local) = true := by rw [show env.kindOf z = some .local from hz]; rfl
  have hb : env.blockKind = .function := by unfold Env.blockKind; rw [hk]; rfl
  have hn : ([x, y, z] : List Str).eraseDups = [x, y, z] := by
    simp [List.eraseDups_cons, List.filter_cons, Ne.symm hne, Ne.symm hne2, Ne.symm hne3]
  unfold swappedStores
  simp only [hb, List.filterMap_cons, kx, ky, kz, Expr.pos, List.head?_cons, Option.map_some, Option.getD_some, hl, hl2, beq_self_eq_true, Bool.and_self, if_true, List.filterMap_nil, hn, hf, hc]
  have pl : ∀ e ∈ [a, b, c], plainX e = true := fun e he => by
    simp only [List.mem_cons, List.not_mem_nil, or_false] at he
    rcases he with rfl | rfl | rfl <;> assumption
  split
  · rename_i h
    exfalso
    first | cases h | skip
  · split
    · rename_i h
      obtain ⟨e, he, hs⟩ := List.any_eq_true.mp h
      have := pl e he
      cases e <;> first | exact absurd (show false = true from hs) (by decide) | exact absurd (show false = true from this) (by decide)
    · rfl
end PD

set_option Elab.async false
set_option linter.all false
set_option maxRecDepth 100000
set_option maxHeartbeats 8000000
/-! PD18: each statement by its mirror. -/
namespace PD
open PySem PySem.Spec L2

/-! ### values and lists of one's own, side by side -/
def RepO (C : Cn) (Hs : Hp) (W : Wd) (H : Hp) : Ov → V → Prop
  | .val d, v => RepV C.K W H d v
  | .own xs, v => ∃ a vs, v = .ref a ∧ H a = some (.lst vs) ∧ RepL C.K W H xs vs ∧ ¬ W.Z a ∧ a ∉ W.mu ∧ Hs a = none
def Sep (v : V) (os : List Ov) (vs : List V) : Prop := ∀ (n : Nat) xs, os[n]? = some (.own xs) → vs[n]? ≠ some v
def RepOs (C : Cn) (Hs : Hp) (W : Wd) (H : Hp) : List Ov → List V → Prop
  | [], vs => vs = []
  | o :: os, vs => ∃ v r, vs = v :: r ∧ RepO C Hs W H o v ∧ (∀ xs, o = .own xs → Sep v os r) ∧ RepOs C Hs W H os r
section
variable {C : Cn} {Hs : Hp} {W W' : Wd} {H H' : Hp} {ρ : Env'} {σ : L2.St} {s : Sto}
theorem RepO.mono {o : Ov} {v : V} (f : Frm W W' H H') (h : RepO C Hs W H o v) : RepO C Hs W' H' o v := by
  cases o with
  | val d => exact RepV.mono f.ext d v h
  | own xs =>
    obtain ⟨a, vs, e, h1, h2, h3, h4, h5⟩ := h
    refine ⟨a, vs, e, f.keep a _ h1 h4, h2.mono f.ext, fun z => ?_, fun m => ?_, h5⟩
    · rcases f.fz a z with q | q
      · exact h3 q
      · rw [q] at h1; cases h1
    · rcases f.fmu a m with q | q
      · exact h4 q
      · rw [q] at h1; cases h1
theorem RepOs.mono (f : Frm W W' H H') : ∀ {os : List Ov} {vs : List V}, RepOs C Hs W H os vs → RepOs C Hs W' H' os vs
  | [], _, h => h
  | o :: os, _, ⟨v, r, e, h1, h2, h3⟩ => ⟨v, r, e, h1.mono f, h2, RepOs.mono f h3⟩
theorem RepOs.len : ∀ {os : List Ov} {vs : List V}, RepOs C Hs W H os vs → vs.length = os.length
  | [], _, h => by rw [show _ = [] from h]; rfl
  | o :: os, _, ⟨v, r, e, h1, h2, h3⟩ => by rw [e, List.length_cons, List.length_cons, RepOs.len h3]
/-- an older start -/
theorem RepOs.older {H0 : Hp} (hb : ∀ a, Hs a = none → H0 a = none) : ∀ {os : List Ov} {vs : List V}, RepOs C Hs W H os vs → RepOs C H0 W H os vs
  | [], _, h => h
  | o :: os, _, ⟨v, r, e, h1, h2, h3⟩ => by
    refine ⟨v, r, e, ?_, h2, RepOs.older hb h3⟩
    cases o with
    | val d => exact h1
    | own xs =>
      obtain ⟨a, vs, e, h1, h2, h3, h4, h5⟩ := h1
      exact ⟨a, vs, e, h1, h2, h3, h4, hb a h5⟩
theorem RepOs.fresh : ∀ {os : List Ov} {vs : List V} {n : Nat} {xs : List D} {a : Addr}, RepOs C Hs W H os vs → os[n]? = some (.own xs) → vs[n]? = some (.ref a) → Hs a = none
  | [], vs, n, xs, a, h, e, e2 => by simp at e
  | o :: os, _, n, xs, a, ⟨v, r, e0, h1, h2, h3⟩, e, e2 => by
    subst e0
    cases n with
    | zero =>
      have e' : o = .own xs := by simpa using e
      have e2' : v = .ref a := by simpa using e2
      subst e' e2'
      obtain ⟨b, vs, q, _, _, _, _, q5⟩ := h1
      cases q
      exact q5
    | succ n => exact RepOs.fresh h3 (by simpa using e) (by simpa using e2)
/-- what must hold of the lists of one's own ahead of the stores -/
def NoO (C : Cn) (ρ : Env') (σ : L2.St) (os : List Ov) (vs : List V) : Prop := ∀ (n : Nat) xs a, os[n]? = some (.own xs) → vs[n]? = some (.ref a) → C.H0 a = none ∧ ∀ (j : Nat) zs, ρ[j]? = some (some (.own zs)) → σ[j]? ≠ some (some (.ref a))
theorem EnvOk.setOs : ∀ {is : List Nat} {os : List Ov} {vs : List V} {ρ ρ' : Env'} {σ : L2.St}, EnvOk C W H ρ σ → RepOs C Hs W H os vs → NoO C ρ σ os vs → bindOs is os ρ = some ρ' → EnvOk C W H ρ' (PD.setAll σ is vs)
  | [], [], vs, ρ, ρ', σ, h, r, no, e => by
    unfold bindOs at e
    cases e
    unfold PD.setAll
    exact h
  | [], _ :: _, _, _, _, _, _, _, _, e => by cases e
  | _ :: _, [], _, _, _, _, _, _, _, e => by cases e
  | i :: is, o :: os, _, ρ, ρ', σ, h, ⟨v, r, e0, h1, h2, h3⟩, no, e => by
    subst e0
    unfold bindOs at e
    by_cases hi : i < ρ.length
    · rw [if_pos hi] at e
      unfold PD.setAll
      have hσ : (σ.set i (some v))[i]? = some (some v) := by
        rw [List.getElem?_set]
        rw [h.len] at hi
        simp [hi]
      have base := h.dropS i (some v)
      have mk : EnvOk C W H (ρ.set i (some o)) (σ.set i (some v)) := by
        cases o with
        | val d => exact base.putV hσ h1
        | own xs =>
          obtain ⟨a, ws, ev, q1, q2, q3, q4, q5⟩ := h1
          subst ev
          obtain ⟨n0, nn⟩ := no 0 xs a (by simp) (by simp)
          refine base.putO hσ q1 q2 q3 q4 n0 fun j zs ej => ?_
          obtain ⟨ej, hj⟩ := set_none_key ej
          rw [List.getElem?_set_ne (Ne.symm hj)]
          exact nn j zs ej
      refine EnvOk.setOs mk h3 (fun n xs a e1 e2 => ?_) e
      obtain ⟨n0, nn⟩ := no (n + 1) xs a (by simpa using e1) (by simpa using e2)
      refine ⟨n0, fun j zs ej => ?_⟩
      rcases set_some_key ej with ⟨e3, e4, _⟩ | ⟨hj, e3⟩
      · subst e3
        rw [hσ]
        intro q
        have q' : v = .ref a := by simpa using q
        exact h2 zs e4.symm n xs e1 (by rw [q']; exact e2)
      · rw [List.getElem?_set_ne (Ne.symm hj)]
        exact nn j zs (set_none_key e3).1
    · rw [if_neg hi] at e
      cases e
theorem NoO.of {W0 : Wd} (sr : SR C W0 Hs ρ σ s) {os : List Ov} {vs : List V} (r : RepOs C Hs W H os vs) : NoO C ρ σ os vs := fun n xs a e1 e2 => by
  have hf := r.fresh e1 e2
  refine ⟨sr.fresh0 hf, fun j zs ej q => ?_⟩
  obtain ⟨b, us, e3, e4, _⟩ := sr.env.own j zs ej
  rw [q] at e3
  cases e3
  rw [hf] at e4
  cases e4
def tOs (C : Cn) (m : Env' → M (List Ov)) : TA := fun σ H Q => ∃ ρ s W, SR C W H ρ σ s ∧ Run C ρ W σ H (m ρ s) (RepOs C H) Q
end
section
variable {C : Cn} {X : Cx}
theorem pa_nilO : PA X [] (tOs C fun _ => pure []) := wkA pa_nil fun σ H Q ⟨ρ, s, W, sr, h⟩ => h.pur sr rfl
theorem pa_valO {e : Expr} {es : List Expr} {m : Env' → M D} {ms : Env' → M (List Ov)} (hp : plainX e = true) (h1 : PE X e (tE C m)) (h2 : PA X es (tOs C ms)) : PA X (e :: es) (tOs C fun ρ => m ρ >>= fun x => ms ρ >>= fun xs => pure (.val x :: xs)) := by
  refine wkA (pa_cons h1 h2 (star_plain hp)) fun σ H Q ⟨ρ, s, W, sr, h⟩ => ⟨ρ, s, W, sr, h.bindE.imp fun v H1 ⟨W1, d, s1, sr1, f1, r1, h1⟩ => ⟨ρ, s1, W1, sr1, (Run.bind (R1 := RepOs C H1) h1).imp fun vs H2 ⟨W2, os, s2, sr2, f2, r2, h2⟩ => ?_⟩⟩
  refine h2.pur sr2 ⟨v, vs, rfl, RepV.mono f2.ext d v r1, fun xs e => Ov.noConfusion e, r2.older fun a ha => f1.back (fun b hb => sr1.sto.some b (f1.ext.mu_mem hb)) ha⟩
theorem pa_ownO {es' : List Expr} {p : Pos} {es : List Expr} {m : Env' → M (List D)} {ms : Env' → M (List Ov)} (hl : ∀ ρ s xs s', m ρ s = .ok xs s' → xs.length ≤ 1000) (h1 : PA X es' (tEs C m)) (h2 : PA X es (tOs C ms)) : PA X (.List es' p :: es) (tOs C fun ρ => m ρ >>= fun x => ms ρ >>= fun xs => pure (.own x :: xs)) := by
  refine wkA (pa_cons (pe_lst h1) h2 rfl) fun σ H Q ⟨ρ, s, W, sr, h⟩ => ⟨ρ, s, W, sr, (Run.bindX h).imp fun us H1 ⟨W1, xs, s1, e, sr1, f1, r1, h1⟩ => ?_⟩
  have hx := hl ρ s xs s1 e
  refine ⟨by rw [r1.length, ← line_eq]; show _ ≤ 16777216; omega, fun p hp => ?_⟩
  have a := Alloc.new0 W1 H1 (o := .lst us) hp
  have sr1' := sr1.alloc a
  refine ⟨ρ, s1, W1, sr1', (Run.bind (R1 := RepOs C (upd H1 p (.lst us))) (h1.fwd a.fr sr1')).imp fun vs H2 ⟨W2, os, s2, sr2, f2, r2, h2⟩ => ?_⟩
  have bk : ∀ b, upd H1 p (.lst us) b = none → H b = none := fun b hb => (f1.trans a.fr sr1.sto.some).back (fun b hb => sr1'.sto.some b (f1.ext.mu_mem hb)) hb
  have own0 : RepO C H W1 (upd H1 p (.lst us)) (.own xs) (.ref p) := ⟨p, us, rfl, upd_same, r1.mono a.fr.ext, fun z => sr1.sto.zt p z hp, fun m => sr1.sto.some p m hp, f1.back (fun b hb => sr1.sto.some b (f1.ext.mu_mem hb)) hp⟩
  refine h2.pur sr2 ⟨.ref p, vs, rfl, own0.mono f2, fun ys _ n zs e1 e2 => ?_, r2.older bk⟩
  have q := r2.fresh e1 e2
  rw [upd_same] at q
  cases q
end
end PD

set_option Elab.async false
set_option linter.all false
set_option maxRecDepth 100000
set_option maxHeartbeats 8000000
/-! PD19: each statement by its mirror. -/
namespace PD
open PySem PySem.Spec L2

def asgM (tg : Tg) (m : Env' → M D) (ρ : Env') : M (Fl × Env') := tryS ρ (m ρ) fun x => optM (bindT tg x ρ) >>= fun ρ' => pure (.nx, ρ')
def parM (is : List Nat) (m : Env' → M (List Ov)) (ρ : Env') : M (Fl × Env') := tryS ρ (m ρ) fun xs => optM (bindOs is xs ρ) >>= fun ρ' => pure (.nx, ρ')
theorem bindOs_len : ∀ {is : List Nat} {ds : List Ov} {ρ ρ' : Env'}, bindOs is ds ρ = some ρ' → ds.length = is.length
  | [], [], _, _, _ => rfl
  | [], _ :: _, _, _, e => by cases e
  | _ :: _, [], _, _, e => by cases e
  | i :: is, d :: ds, ρ, ρ', e => by
    unfold bindOs at e
    split at e
    · rw [List.length_cons, List.length_cons, bindOs_len (is := is) (ds := ds) e]
    · cases e
theorem sws_tup {v : Expr} {es : List Expr} {kk : Nat} {p : Pos} {l : Nat} {env : Env} : swapsWithSole [.Tuple es kk p] v l env = pure false := by
  unfold swapsWithSole
  exact sw_tup
theorem RunS.trX {α β : Type} {C : Cn} {W : Wd} {H : Hp} {ρ : Env'} {σ : L2.St} {s : Sto} {D : Ends} {m : M α} {k : α → M (Fl × Env')} {R1 : Wd → Hp → α → β → Prop} (h : RunS C W H (tryS ρ m k s) D) :
    Run C ρ W σ H (m s) R1 fun b H1 => ∃ W1 a s1, m s = .ok a s1 ∧ SR C W1 H1 ρ σ s1 ∧ Frm W W1 H H1 ∧ R1 W1 H1 a b ∧ RunS C W1 H1 (k a s1) D := by
  unfold tryS at h
  cases q : m s with
  | ok a s1 =>
    rw [q] at h
    exact fun W1 H1 b x y z => ⟨W1, a, s1, rfl, x, y, z, RunS.fwd h y.ext⟩
  | exn e s1 =>
    rw [q] at h
    intro W' H' c d x y z
    exact h W' H' σ x y.ext c d z
  | bad =>
    rw [q] at h
    exact h
section
variable {C : Cn} {T : Tab} {N : List Str} {k : Nat} {sc : Scope} {X : Cx} {pos : Pos}
theorem asg_rd {tg : Tg} {m : Env' → M D} {D : Ends} {σ : L2.St} {H : Hp} (h : tS C (asgM tg m) D σ H) : tAsg (tE C m) (gOf C.K tg) D σ H := by
  obtain ⟨ρ, s, W, sr, h⟩ := h
  refine ⟨ρ, s, W, sr, (RunS.tr (R1 := RepV C.K) h).imp fun v H1 ⟨W1, d, s1, sr1, f1, r1, h1⟩ => ?_⟩
  obtain ⟨ρ', e, h2⟩ := RunS.opt h1
  exact bind_plain sr1 r1 e fun σ2 sr2 => h2.nx sr2 (Ext.refl _ _)
theorem ps_asgD {tg : Tg} {t e : Expr} {m : Env' → M D} (he : PE X e (tE C m)) (hg : PG X t (gOf C.K tg)) (hs : swapsWithSole [t] e pos.line X.env = pure false) (hw : swappedStores [t] e X.env = pure none) (h1 : (assignEach [t] X.env).map (·.2) = [assign t X.env]) : PS X (.Assign [t] e pos) (tS C (asgM tg m)) :=
  wkS (ps_asg he hg hs hw h1) fun D σ H h => asg_rd h
/-- a, b = x, y by a tuple -/
theorem ps_parD (hK : X.K = C.K) {is : List Nat} {t : Expr} {es : List Expr} {kk : Nat} {p : Pos} {m : Env' → M (List Ov)} (ha : PA X es (tOs C m)) (hl : ∀ ρ s xs s', m ρ s = .ok xs s' → xs.length ≤ 1000) (hg : PG X t (gTup X.K is.length (gAll is)))
    (hs : swapsWithSole [t] (.Tuple es kk p) pos.line X.env = pure false) (hw : swappedStores [t] (.Tuple es kk p) X.env = pure none) (h1 : (assignEach [t] X.env).map (·.2) = [assign t X.env]) : PS X (.Assign [t] (.Tuple es kk p) pos) (tS C (parM is m)) := by
  refine wkS (ps_asg (pe_tup ha) hg hs hw h1) fun D σ H ⟨ρ, s, W, sr, h⟩ => ⟨ρ, s, W, sr, (RunS.trX (R1 := RepOs C H) h).imp fun vs H1 ⟨W1, os, s1, e, sr1, f1, r1, h1⟩ => ?_⟩
  have hx := hl ρ s os s1 e
  refine ⟨by rw [r1.len, ← line_eq]; show _ ≤ 16777216; omega, fun p hp => ?_⟩
  obtain ⟨ρ', e2, h2⟩ := RunS.opt h1
  have a := Alloc.new0 W1 H1 (o := .tup vs) hp
  have r2 := r1.mono a.fr
  have sr2 := sr1.alloc a
  have hle := bindOs_len e2
  exact ⟨p, vs, rfl, .inl (.inl upd_same), by rw [r1.len, hle], gAll_ok (by rw [r1.len, hle]) (h2.nx (sr2.env_ (sr2.env.setOs r2 (NoO.of sr r2) e2)) a.fr.ext)⟩
/-- .. stored from the right -/
theorem ps_par2D {i j : Nat} {x y : Str} {a b : Expr} {px py pt : Pos} {kt k2 : Nat} {pt2 : Pos} {m : Env' → M (List Ov)} (F : FitS C T N k sc X) (hi : N[i]? = some x) (hj : N[j]? = some y) (hij : i ≠ j) (hx : sc.names.lookup x = some .local) (hy : sc.names.lookup y = some .local) (ha : PA X [a, b] (tOs C m))
    (hw : swappedStores [.Tuple [.Name x px, .Name y py] kt pt] (.Tuple [a, b] k2 pt2) X.env = pure (some [x, y])) :
    PS X (.Assign [.Tuple [.Name x px, .Name y py] kt pt] (.Tuple [a, b] k2 pt2) pos) (tS C (parM [i, j] m)) := by
  refine wkS (ps_par F.calm F.nd (by rw [F.n]; exact hi) (by rw [F.n]; exact hj) hij (by rw [F.sc]; exact hx) (by rw [F.sc]; exact hy) ha hw sws_tup) fun D σ H ⟨ρ, s, W, sr, h⟩ => ⟨ρ, s, W, sr, (RunS.trX (R1 := RepOs C H) h).imp fun vs H1 ⟨W1, os, s1, e, sr1, f1, r1, h1⟩ => ?_⟩
  obtain ⟨ρ', e2, h2⟩ := RunS.opt h1
  have q := h2.nx (sr1.env_ (sr1.env.setOs r1 (NoO.of sr r1) e2)) (Ext.refl _ _)
  have hle := bindOs_len e2
  have hl := r1.len
  match vs, hl, q with
  | [v, w], _, q => exact ⟨v, w, rfl, q⟩
  | [], hl, _ => rw [hle] at hl; simp at hl
  | [_], hl, _ => rw [hle] at hl; simp at hl
  | _ :: _ :: _ :: _, hl, _ => rw [hle] at hl; simp at hl
theorem ps_par3D {i j l : Nat} {x y z : Str} {a b c : Expr} {px py pz pt : Pos} {kt k2 : Nat} {pt2 : Pos} {m : Env' → M (List Ov)} (F : FitS C T N k sc X) (hi : N[i]? = some x) (hj : N[j]? = some y) (hl : N[l]? = some z) (hij : i ≠ j) (hil : i ≠ l) (hjl : j ≠ l) (hx : sc.names.lookup x = some .local) (hy : sc.names.lookup y = some .local) (hz : sc.names.lookup z = some .local) (ha : PA X [a, b, c] (tOs C m))
    (hw : swappedStores [.Tuple [.Name x px, .Name y py, .Name z pz] kt pt] (.Tuple [a, b, c] k2 pt2) X.env = pure (some [x, y, z])) :
    PS X (.Assign [.Tuple [.Name x px, .Name y py, .Name z pz] kt pt] (.Tuple [a, b, c] k2 pt2) pos) (tS C (parM [i, j, l] m)) := by
  refine wkS (ps_par3 F.calm F.nd (by rw [F.n]; exact hi) (by rw [F.n]; exact hj) (by rw [F.n]; exact hl) hij hil hjl (by rw [F.sc]; exact hx) (by rw [F.sc]; exact hy) (by rw [F.sc]; exact hz) ha hw sws_tup) fun D σ H ⟨ρ, s, W, sr, h⟩ => ⟨ρ, s, W, sr, (RunS.trX (R1 := RepOs C H) h).imp fun vs H1 ⟨W1, os, s1, e, sr1, f1, r1, h1⟩ => ?_⟩
  obtain ⟨ρ', e2, h2⟩ := RunS.opt h1
  have q := h2.nx (sr1.env_ (sr1.env.setOs r1 (NoO.of sr r1) e2)) (Ext.refl _ _)
  have hle := bindOs_len e2
  have hl := r1.len
  match vs, hl, q with
  | [u, v, w], _, q => exact ⟨u, v, w, rfl, q⟩
  | [], hl, _ => rw [hle] at hl; simp at hl
  | [_], hl, _ => rw [hle] at hl; simp at hl
  | [_, _], hl, _ => rw [hle] at hl; simp at hl
  | _ :: _ :: _ :: _ :: _, hl, _ => rw [hle] at hl; simp at hl
/-- a list of one's own is made -/
theorem ps_ownD {i : Nat} {x : Str} {es : List Expr} {p pos' : Pos} {m : Env' → M (List D)} (F : FitS C T N k sc X) (hi : N[i]? = some x) (hx : stB sc x = true) (ha : PA X es (tEs C m)) (hl : ∀ ρ s xs s', m ρ s = .ok xs s' → xs.length ≤ 1000) :
    PS X (.Assign [.Name x pos'] (.List es p) pos) (tS C fun ρ => tryS ρ (m ρ) fun xs => chk (decide (i < ρ.length)) (pure (.nx, ρ.set i (some (.own xs))))) := by
  refine wkS (ps_set F.nd (by rw [F.n]; exact hi) (by rw [F.sc]; exact stB_ hx) (pe_lst ha) (sw_f rfl) (.inl (F.fn x))) fun D σ H ⟨ρ, s, W, sr, h⟩ => ⟨ρ, s, W, sr, (RunS.trX (R1 := RepL C.K) h).imp fun vs H1 ⟨W1, xs, s1, e, sr1, f1, r1, h1⟩ => ?_⟩
  have hx := hl ρ s xs s1 e
  refine ⟨by rw [r1.length, ← line_eq]; show _ ≤ 16777216; omega, fun p hp => ?_⟩
  obtain ⟨hi, h2⟩ := RunS.chk h1
  obtain ⟨ex, sr2⟩ := sr1.newOwn (of_decide_eq_true hi) hp r1
  exact h2.nx sr2 ex
theorem lookL_ {W : Wd} {H : Hp} {ρ : Env'} {σ : L2.St} {s : Sto} (sr : SR C W H ρ σ s) {j : Nat} {xs : List D} (h : lookL ρ j = some xs) : ∃ a vs, σ[j]? = some (some (.ref a)) ∧ Rd H a (.lst vs) ∧ RepL C.K W H xs vs := by
  unfold lookL at h
  split at h
  · rename_i ys e
    cases h
    obtain ⟨a, vs, e1, e2, r, _⟩ := sr.env.own j _ e
    exact ⟨a, vs, e1, .inl e2, r⟩
  · rename_i ys e
    cases h
    obtain ⟨v, e1, r⟩ := sr.env.val j _ e
    obtain ⟨a, vs, rfl, l, rl⟩ := lst_of r
    exact ⟨a, vs, e1, l.rd, rl⟩
  · cases h
/-- x = y + e: a new list of one's own -/
theorem ps_catD {i j : Nat} {x y : Str} {e : Expr} {py p pos' : Pos} {m : Env' → M D} (F : FitS C T N k sc X) (hi : N[i]? = some x) (hj : N[j]? = some y) (hx : stB sc x = true) (hy : visB sc y = true) (hyn : okN y = true) (he : PE X e (tE C m)) :
    PS X (.Assign [.Name x pos'] (.BinOp (.Name y py) .Add e p) pos) (tS C fun ρ => chk (lookL ρ j).isSome (tryS ρ (m ρ) fun z => optM (catO ρ i j z) >>= fun ρ' => pure (.nx, ρ'))) := by
  obtain ⟨n1, n2, _⟩ := okN_ hyn
  refine wkS (ps_set F.nd (by rw [F.n]; exact hi) (by rw [F.sc]; exact stB_ hx) (pe_op op_catR (pe_var (by rw [F.n]; exact hj) (by rw [F.sc]; exact vis_ hy) n1 n2) he) (sw_f rfl) (.inl (F.fn x))) fun D σ H ⟨ρ, s, W, sr, h⟩ => ?_
  obtain ⟨h0, h⟩ := RunS.chk h
  obtain ⟨xs, hq⟩ := Option.isSome_iff_exists.mp h0
  have hr := RunS.tr (σ := σ) (R1 := RepV C.K) h
  obtain ⟨a, vs, e1, _, _⟩ := lookL_ sr hq
  refine ⟨.ref a, e1, ρ, s, W, sr, hr.imp fun v H1 ⟨W1, d, s1, sr1, f1, r1, h1⟩ => ?_⟩
  obtain ⟨ρ', e, h2⟩ := RunS.opt h1
  unfold catO at e
  rw [hq] at e
  cases d with
  | lst ys =>
    have e : (if i < ρ.length ∧ xs.length + ys.length ≤ line then some (ρ.set i (some (.own (xs ++ ys)))) else none) = some ρ' := e
    split at e
    · rename_i hc
      cases e
      obtain ⟨b, ws, rfl, l, rl⟩ := lst_of r1
      obtain ⟨a', vs', e1', rd, rl'⟩ := lookL_ sr1 hq
      rw [e1] at e1'
      cases e1'
      refine ⟨a, b, vs', ws, rfl, rfl, rd, l.rd, by rw [rl'.length, rl.length, ← line_eq]; exact hc.2, fun p hp => ?_⟩
      obtain ⟨ex, sr2⟩ := sr1.newOwn (xs := xs ++ ys) (vs := vs' ++ ws) hc.1 hp (rl'.append rl)
      exact h2.nx sr2 ex
    · cases e
  | _ => cases e
end
end PD

set_option Elab.async false
set_option linter.all false
set_option maxRecDepth 100000
set_option maxHeartbeats 8000000
/-! PD20: each statement by its mirror, two. -/
namespace PD
open PySem PySem.Spec L2
section
variable {C : Cn} {T : Tab} {N : List Str} {k : Nat} {sc : Scope} {X : Cx} {pos : Pos}
theorem ps_appD {i : Nat} {x : Str} {e : Expr} {px apos cpos : Pos} {m : Env' → M D} (F : FitS C T N k sc X) (hi : N[i]? = some x) (hx : visB sc x = true) (hxn : okN x = true) (hp : plainX e = true) (hl : (apos.endLine == cpos.line) = true) (he : PE X e (tE C m)) :
    PS X (.Expr (.Call (.Attribute (.Name x px) "append" apos) [e] [] cpos) pos) (tS C fun ρ => chk (isOwn ρ i) (tryS ρ (m ρ) fun y => appM ρ i y)) := by
  obtain ⟨n1, n2, _⟩ := okN_ hxn
  have hb := pe_bm (cpos := cpos) PySem.F.plainAttrs_list PySem.F.slot_list_append PySem.F.type_list_append mt_append (pe_var (pos := px) (by rw [F.n]; exact hi) (by rw [F.sc]; exact vis_ hx) n1 n2) (pa_cons he pa_nil (star_plain hp)) rfl (by rw [few_plain (es := [e]) (by rw [List.all_cons, hp]; rfl)]; rfl) hl (star_plain hp) rfl
  refine wkS (ps_expr hb (sw_f rfl)) fun D σ H ⟨ρ, s, W, sr, h⟩ => ?_
  obtain ⟨h0, h⟩ := RunS.chk h
  obtain ⟨xs, hq⟩ := isOwn_ h0
  obtain ⟨a, vs, e1, e2, r0, _⟩ := sr.env.own i xs hq
  have hr := RunS.tr (σ := σ) (R1 := RepV C.K) h
  refine ⟨.ref a, e1, .inl ⟨rfl, vs, .inl (.inl e2)⟩, ρ, s, W, sr, hr.imp fun v H1 ⟨W1, d, s1, sr1, f1, r1, h1⟩ => ?_⟩
  unfold appM at h1
  rw [hq] at h1
  obtain ⟨hc, h2⟩ := RunS.chk h1
  obtain ⟨a', vs', e1', e2', r', _⟩ := sr1.env.own i xs hq
  rw [e1] at e1'
  cases e1'
  obtain ⟨ex, sr2⟩ := sr1.app hq e1 e2' r1
  exact ⟨a, vs', v, rfl, rfl, e2', by rw [r'.length, ← line_eq]; exact of_decide_eq_true hc, h2.nx sr2 ex⟩
theorem ps_setD {i : Nat} {x : Str} {e ke : Expr} {px tpos : Pos} {m mk : Env' → M D} (F : FitS C T N k sc X) (hi : N[i]? = some x) (hx : visB sc x = true) (hxn : okN x = true) (hs : plainX ke = true) (he : PE X e (tE C m)) (hk : PE X ke (tE C mk)) :
    PS X (.Assign [.Subscript (.Name x px) ke tpos] e pos) (tS C fun ρ => chk (getV ρ i).isSome (tryS ρ (m ρ) fun v => tryS ρ (mk ρ) fun y => putM ρ (getV ρ i) y v)) := by
  obtain ⟨n1, n2, _⟩ := okN_ hxn
  have hg : PG X (.Subscript (.Name x px) ke tpos) (gSub (tVar i) (tE C mk) rSetL) := pg_sub (pe_var (by rw [F.n]; exact hi) (by rw [F.sc]; exact vis_ hx) n1 n2) hk set_list (by intro v; cases ke <;> first | rfl | exact absurd (show false = true from hs) (by decide))
  refine wkS (ps_asg he hg (by unfold swapsWithSole; exact sw_sub) (by cases e <;> rfl) rfl) fun D σ H ⟨ρ, s, W, sr, h⟩ => ?_
  obtain ⟨h0, h⟩ := RunS.chk h
  obtain ⟨o, hq⟩ := Option.isSome_iff_exists.mp h0
  obtain ⟨v0, e0, r0⟩ := sr.env.val i o (getV_ hq)
  refine ⟨ρ, s, W, sr, (RunS.tr (R1 := RepV C.K) h).imp fun v H1 ⟨W1, d, s1, sr1, f1, r1, h1⟩ => ?_⟩
  refine ⟨v0, e0, ρ, s1, W1, sr1, (RunS.tr (R1 := RepV C.K) h1).imp fun u H2 ⟨W2, y, s2, sr2, f2, r2, h2⟩ => ?_⟩
  unfold putM at h2
  rw [hq] at h2
  cases o with
  | loc n =>
    cases y with
    | int j =>
      have h3 : RunS C W2 H2 (match setSto s2 n j d with
        | some s' => .ok (.nx, ρ) s'
        | none => .bad) D := h2
      cases hst : setSto s2 n j d with
      | none => rw [hst] at h3; exact h3.elim
      | some s' =>
        rw [hst] at h3
        unfold setSto at hst
        split at hst
        · rename_i xs hxs
          obtain ⟨jj, hj, e⟩ := Option.map_eq_some_iff.mp hst
          subst e
          have rl : RepV C.K W2 H2 (.loc n) v0 := (r0.mono f1.ext).mono f2.ext
          unfold RepV at rl
          obtain ⟨a, rfl, hm⟩ := rl
          obtain ⟨vs, hv, rv⟩ := sr2.sto.at_ n _ a hxs hm
          obtain ⟨ex, sr3⟩ := sr2.setSto hxs hm hv (rv.set jj (r1.mono f2.ext))
          have ru : u = .int j := by unfold RepV at r2; exact r2
          exact ⟨a, vs, j, jj, rfl, ru, hv, by rw [rv.length]; exact hj, h3 W2 _ σ sr3 ex⟩
        · cases hst
    | _ => exact h2.elim
  | _ => exact h2.elim
theorem ps_retD {e : Expr} {m : Env' → M D} (he : PE X e (tE C m)) : PS X (.Return (some e) pos) (tS C fun ρ => tryS ρ (m ρ) fun x => pure (.rt x, ρ)) :=
  wkS (ps_ret he) fun D σ H ⟨ρ, s, W, sr, h⟩ => ⟨ρ, s, W, sr, (RunS.tr (R1 := RepV C.K) h).imp fun v H1 ⟨W1, d, s1, sr1, f1, r1, h1⟩ => h1.rt sr1 (Ext.refl _ _) r1⟩
theorem ps_retND : PS X (.Return none pos) (tS C fun ρ => pure (.rt .non, ρ)) :=
  wkS ps_retN fun D σ H ⟨ρ, s, W, sr, h⟩ => h.rt sr (Ext.refl _ _) (by unfold RepV; rfl)
theorem ps_passD : PS X (.Pass pos) (tS C fun ρ => pure (.nx, ρ)) := wkS ps_pass fun D σ H ⟨ρ, s, W, sr, h⟩ => h.nx sr (Ext.refl _ _)
theorem ps_brkD : PS X (.Break pos) (tS C fun ρ => pure (.bk, ρ)) := wkS ps_break fun D σ H ⟨ρ, s, W, sr, h⟩ => h W H σ sr (Ext.refl _ _)
theorem ps_cntD : PS X (.Continue pos) (tS C fun ρ => pure (.ct, ρ)) := wkS ps_continue fun D σ H ⟨ρ, s, W, sr, h⟩ => h W H σ sr (Ext.refl _ _)
theorem ps_expD {e : Expr} {m : Env' → M D} (hc : isLc e = false) (he : PE X e (tE C m)) : PS X (.Expr e pos) (tS C fun ρ => tryS ρ (m ρ) fun _ => pure (.nx, ρ)) :=
  wkS (ps_expr he (sw_f hc)) fun D σ H ⟨ρ, s, W, sr, h⟩ => ⟨ρ, s, W, sr, (RunS.tr (R1 := RepV C.K) h).imp fun v H1 ⟨W1, d, s1, sr1, f1, r1, h1⟩ => h1.nx sr1 (Ext.refl _ _)⟩
theorem ps_badD {st : Stmt} : PS X st (tS C fun _ => badM) := wkS ps_never fun D σ H ⟨ρ, s, W, sr, h⟩ => h
theorem ps_ifD {c : Expr} {a b : List Stmt} {m : Env' → M D} {ma mb : Env' → M (Fl × Env')} (hc : PT X c (tTt C (tst m))) (ha : PSs X a (tS C ma)) (hb : PSs X b (tS C mb)) :
    PS X (.If c a b pos) (tS C fun ρ => tryS ρ (m ρ >>= fun x => optM (asB x)) fun r => if r then ma ρ else mb ρ) :=
  wkS (ps_if hc ha hb) fun D σ H ⟨ρ, s, W, sr, h⟩ => ⟨ρ, s, W, sr, (RunS.tr (R1 := fun _ _ a b => a = b) h).imp fun r H1 ⟨W1, r', s1, sr1, f1, r1, h1⟩ => by
    subst r1
    cases r' with
    | true => exact ⟨ρ, s1, W1, sr1, h1⟩
    | false => exact ⟨ρ, s1, W1, sr1, h1⟩⟩
theorem pss_nilD : PSs X [] (tS C fun ρ => pure (.nx, ρ)) := wkSs pss_nil fun D σ H ⟨ρ, s, W, sr, h⟩ => h.nx sr (Ext.refl _ _)
theorem pss_consD {st : Stmt} {sts : List Stmt} {m m' : Env' → M (Fl × Env')} (h1 : PS X st (tS C m)) (h2 : PSs X sts (tS C m')) : PSs X (st :: sts) (tS C fun ρ => m ρ >>= fun p => seqK p m') := by
  refine wkSs (pss_cons h1 h2) fun D σ H ⟨ρ, s, W, sr, h⟩ => ⟨ρ, s, W, sr, (RunS.bindS (k := fun p => seqK p m') (fun _ _ => rfl) h).imp (fun σ' H' ⟨W', ρ', s', sr', e', q⟩ => ⟨ρ', s', W', sr', q⟩) (fun σ' H' ⟨W', ρ', s', sr', e', q⟩ => q W' H' σ' sr' (Ext.refl _ _)) (fun σ' H' ⟨W', ρ', s', sr', e', q⟩ => q W' H' σ' sr' (Ext.refl _ _)) (fun v H' ⟨W', σ', ρ', s', d, sr', e', r, q⟩ => q.rt sr' (Ext.refl _ _) r)⟩
theorem pss_frzD {i : Nat} {sts : List Stmt} {m' : Env' → M (Fl × Env')} (h2 : PSs X sts (tS C m')) : PSs X sts (tS C fun ρ => (optM (frzM ρ i) >>= fun ρ' => pure (.nx, ρ') : M (Fl × Env')) >>= fun p => seqK p m') := by
  refine wkSs h2 fun D σ H ⟨ρ, s, W, sr, h⟩ => ?_
  have h' : RunS C W H ((optM (frzM ρ i) >>= fun ρ' => m' ρ') s) D := by
    cases q : frzM ρ i with
    | none => simp only [q] at h; exact h
    | some ρ' => simp only [q] at h; exact h
  obtain ⟨ρ', e, h1⟩ := RunS.opt h'
  unfold frzM at e
  split at e
  · rename_i xs hq
    cases e
    obtain ⟨W', ex, sr'⟩ := sr.frz hq
    exact ⟨_, s, W', sr', h1.fwd ex⟩
  · cases e
    exact ⟨ρ, s, W, sr, h1⟩
  · cases e
theorem ps_forD {tg : Tg} {t it : Expr} {b : List Stmt} {mi : Env' → M (List D)} {mb : Env' → M (Fl × Env')} (F : FitS C T N k sc X) (hi : PI X t it (iG C mi)) (hp : plainX it = true) (hg : PG X t (gOf C.K tg)) (hb : PSs X b (tS C mb)) :
    PS X (.For t it b [] pos) (tS C fun ρ => tryS ρ (mi ρ) fun xs => forM' (fun x ρ => optM (bindT tg x ρ) >>= fun ρ' => mb ρ') xs ρ) := by
  refine wkS (ps_for F.passes F.calm hi hg hb (folded_ hp)) fun D σ H ⟨ρ, s, W, sr, h⟩ => ⟨ρ, s, W, sr, (RunS.tr (R1 := WalkR C.K) h).imp fun J H1 ⟨W1, xs, s1, sr1, f1, wk, h1⟩ => ?_⟩
  refine ⟨fun i m σ H => m = xs.length - i ∧ i ≤ xs.length ∧ ∃ W' ρ' s', SR C W' H ρ' σ s' ∧ Ext W1 W' H1 H ∧ RunS C W' H (forM' (fun x ρ => optM (bindT tg x ρ) >>= fun ρ' => mb ρ') (xs.drop i) ρ' s') D, ⟨xs.length, by simp, Nat.zero_le _, W1, ρ, s1, sr1, Ext.refl _ _, h1⟩, ?_⟩
  rintro i m σ H ⟨rfl, hi, W', ρ', s', sr', ex, hr⟩
  by_cases hlt : i < xs.length
  · rw [List.drop_eq_getElem_cons hlt] at hr
    refine .inr ⟨wk.go i W' H ex hlt, fun σ' H' => i + 1 ≤ xs.length ∧ ∃ W' ρ' s', SR C W' H' ρ' σ' s' ∧ Ext W1 W' H1 H' ∧ RunS C W' H' (forM' (fun x ρ => optM (bindT tg x ρ) >>= fun ρ' => mb ρ') (xs.drop (i + 1)) ρ' s') D, fun σ' H' q => ⟨xs.length - (i + 1), by omega, rfl, q⟩, fun x H2 y => ?_⟩
    obtain ⟨W2, al, rx⟩ := wk.yld i W' H x H2 xs[i] ex y (List.getElem?_eq_getElem hlt)
    have sr2 := sr'.alloc al
    have hr2 := (RunS.bindS (k := fun p => forK p (forM' (fun x ρ => optM (bindT tg x ρ) >>= fun ρ' => mb ρ') (xs.drop (i + 1)))) (fun _ _ => rfl) hr).fwd al.fr.ext
    obtain ⟨ρ2, e2, h3⟩ := RunS.opt hr2
    refine bind_plain sr2 rx e2 fun σ2 sr3 => ⟨ρ2, s', W2, sr3, h3.imp ?_ ?_ ?_ ?_⟩
    · exact fun σ' H' ⟨W4, ρ4, s4, sr4, e4, q⟩ => ⟨hlt, W4, ρ4, s4, sr4, ex.trans e4, q⟩
    · exact fun σ' H' ⟨W4, ρ4, s4, sr4, e4, q⟩ => q W4 H' σ' sr4 (Ext.refl _ _)
    · exact fun σ' H' ⟨W4, ρ4, s4, sr4, e4, q⟩ => ⟨hlt, W4, ρ4, s4, sr4, ex.trans e4, q⟩
    · exact fun v H' ⟨W4, σ4, ρ4, s4, d, sr4, e4, r, q⟩ => q.rt sr4 (Ext.refl _ _) r
  · have e : i = xs.length := by omega
    subst e
    rw [List.drop_length] at hr
    exact .inl ⟨wk.stop W' H ex, hr.nx sr' (Ext.refl _ _)⟩
theorem ps_whlD {c : Expr} {b : List Stmt} {m : Env' → M D} {mb : Env' → M (Fl × Env')} (F : FitS C T N k sc X) (hc : PT X c (tTt C (tst m))) (hb : PSs X b (tS C mb)) :
    PS X (.While c b [] pos) (tS C fun ρ => whlM (fun ρ => m ρ >>= fun x => optM (asB x)) mb bigN ρ) := by
  refine wkS (ps_while F.passes hc hb) fun D σ H ⟨ρ, s, W, sr, h⟩ => ?_
  refine ⟨fun n σ H => ∃ W' ρ' s', SR C W' H ρ' σ s' ∧ RunS C W' H (whlM (fun ρ => m ρ >>= fun x => optM (asB x)) mb n ρ' s') D, ⟨bigN, W, ρ, s, sr, h⟩, ?_⟩
  rintro n σ H ⟨W', ρ', s', sr', hr⟩
  cases n with
  | zero => exact hr.elim
  | succ n =>
    refine ⟨ρ', s', W', sr', (RunS.tr (R1 := fun _ _ a b => a = b) hr).imp fun r H1 ⟨W1, r', s1, sr1, f1, r1, h1⟩ => ?_⟩
    subst r1
    cases r' with
    | false => exact h1.nx sr1 (Ext.refl _ _)
    | true =>
      rw [if_pos rfl]
      refine ⟨fun σ' H' => ∃ W' ρ' s', SR C W' H' ρ' σ' s' ∧ RunS C W' H' (whlM (fun ρ => m ρ >>= fun x => optM (asB x)) mb n ρ' s') D, fun σ' H' q => ⟨n, Nat.lt_succ_self n, q⟩, ρ', s1, W1, sr1, ?_⟩
      refine (RunS.bindS (k := fun p => forK p (whlM (fun ρ => m ρ >>= fun x => optM (asB x)) mb n)) (fun _ _ => rfl) h1).imp ?_ ?_ ?_ ?_
      · exact fun σ' H' ⟨W4, ρ4, s4, sr4, e4, q⟩ => ⟨W4, ρ4, s4, sr4, q⟩
      · exact fun σ' H' ⟨W4, ρ4, s4, sr4, e4, q⟩ => q W4 H' σ' sr4 (Ext.refl _ _)
      · exact fun σ' H' ⟨W4, ρ4, s4, sr4, e4, q⟩ => ⟨W4, ρ4, s4, sr4, q⟩
      · exact fun v H' ⟨W4, σ4, ρ4, s4, d, sr4, e4, r, q⟩ => q.rt sr4 (Ext.refl _ _) r
end
end PD

set_option Elab.async false
set_option linter.all false
set_option maxRecDepth 100000
set_option maxHeartbeats 8000000
/-! PD20x: raise, try, append to a shared list. -/
namespace PD
open PySem PySem.Spec L2
def constB : D → Expr → Bool
  | .bl b, .Constant (.bool c) _ _ => decide (b = c)
  | .str b, .Constant (.str c) _ _ => decide (b = c)
  | .int b, .Constant (.int c) _ _ => decide (b = c)
  | .non, .Constant .none _ _ => true
  | _, _ => false
def chkH (sc : Scope) (h : Str) (d : D) : ExceptHandler → Bool
  | .ExceptHandler (some (.Name x _)) none [.Return (some e) _] _ => decide (h = x) && (glB sc x && (okN x && constB d e))
  | _ => false
def chkHs (sc : Scope) : List (Str × D) → List ExceptHandler → Bool
  | [], es => es.isEmpty
  | (h, d) :: hs, es => match es with
    | e :: r => chkH sc h d e && chkHs sc hs r
    | [] => false
section
variable {C : Cn} {T : Tab} {N : List Str} {k : Nat} {sc : Scope} {X : Cx} {pos : Pos}
/-- raise x('..') -/
theorem ps_rseD {x m : Str} {j : Nat} {p p2 pc : Pos} (F : FitS C T N k sc X) (hg : glB sc x = true) (hx : okN x = true) :
    PS X (.Raise (some (.Call (.Name x p) [.Constant (.str m) j p2] [] pc)) none pos) (tS C fun ρ => if x ≠ ("" : Str) ∧ (T.exm x x).isSome = true then pure (.ex ⟨x, none⟩, ρ) else badM) := by
  by_cases hc : x ≠ ("" : Str) ∧ (T.exm x x).isSome = true
  case neg =>
    rw [show (fun ρ : Env' => (if x ≠ ("" : Str) ∧ (T.exm x x).isSome = true then pure (Fl.ex ⟨x, none⟩, ρ) else badM : M (Fl × Env'))) = fun _ => badM from funext fun ρ => if_neg hc]
    exact ps_badD
  case pos =>
    have hq := hc.2
    rw [show (fun ρ : Env' => (if x ≠ ("" : Str) ∧ (T.exm x x).isSome = true then pure (Fl.ex ⟨x, none⟩, ρ) else badM : M (Fl × Env'))) = fun ρ => pure (.ex ⟨x, none⟩, ρ) from funext fun ρ => if_pos hc]
    obtain ⟨n1, _, _⟩ := okN_ hx
    obtain ⟨Cx, h1, h2, h3, h4, h5⟩ := F.tab.exc x hq
    refine wkS (ps_raise F.calm F.takes (pmk_own PySem.F.excBase_ValueError h2 h1 h3 (raises_own h4 h5) (F.gl hg) n1)) fun D σ H ⟨ρ, s, W, sr, h⟩ => ?_
    exact h W H σ sr (Ext.refl _ _) (.ref Cx) none ⟨Cx, by rw [← F.mg]; exact h1, rfl, trivial⟩
def cV : D → V
  | .bl b => .bl b
  | .str s => .str s
  | .int i => .int i
  | _ => .non
theorem cV_rep {K : PySem.W.Frag} {W : Wd} {H : Hp} {d : D} {e : Expr} (h : constB d e = true) : RepV K W H d (cV d) := by
  cases d <;> first
    | (unfold RepV; rfl)
    | (unfold constB at h; exact absurd h Bool.false_ne_true)
theorem pe_const {d : D} {e : Expr} (h : constB d e = true) : PE X e (tC (cV d)) := by
  unfold constB at h
  split at h
  · cases of_decide_eq_true h; exact pe_bl
  · cases of_decide_eq_true h; exact pe_str
  · cases of_decide_eq_true h; exact pe_int
  · exact pe_non
  · exact absurd h Bool.false_ne_true
def clsV (mg : Str → Option Value) (h : Str) : Value := (mg h).getD .none
def hdL (mg : Str → Option Value) (hs : List (Str × D)) : List (Value × (Addr → Value → Option Addr → TS)) := hs.map fun p => (clsV mg p.1, fun _ _ _ D _ H => D.rt (cV p.2) H)
theorem chkHs_cons {x : Str} {d : D} {hs : List (Str × D)} {e : ExceptHandler} {es : List ExceptHandler} (h : chkHs sc ((x, d) :: hs) (e :: es) = true) :
    ∃ np ec p1 p2, e = .ExceptHandler (some (.Name x np)) none [.Return (some ec) p1] p2 ∧ glB sc x = true ∧ okN x = true ∧ constB d ec = true ∧ chkHs sc hs es = true := by
  unfold chkHs at h
  obtain ⟨h, h5⟩ := ba h
  unfold chkH at h
  split at h
  · obtain ⟨h1, h⟩ := ba h
    obtain ⟨h2, h⟩ := ba h
    obtain ⟨h3, h4⟩ := ba h
    have e1 := of_decide_eq_true h1
    subst e1
    exact ⟨_, _, _, _, rfl, h2, h3, h4, h5⟩
  · exact absurd h Bool.false_ne_true
theorem hds_ok (F : FitS C T N k sc X) : ∀ {hs : List (Str × D)} {es : List ExceptHandler}, chkHs sc hs es = true → (∀ p ∈ hs, (T.exm p.1 p.1).isSome = true) → HdsOk X es (hdL X.mg hs)
  | [], [], _, _ => .nil
  | [], _ :: _, h, _ => by unfold chkHs at h; exact absurd h Bool.false_ne_true
  | (x, d) :: hs, [], h, _ => by unfold chkHs at h; exact absurd h Bool.false_ne_true
  | (x, d) :: hs, e :: es, h, hx => by
    obtain ⟨np, ec, p1, p2, rfl, h2, h3, h4, h5⟩ := chkHs_cons h
    obtain ⟨Cx, g1, g2, g3, g4, g5⟩ := F.tab.exc _ (hx _ List.mem_cons_self)
    obtain ⟨n1, _, _⟩ := okN_ h3
    have ec : clsV X.mg x = .ref Cx := by unfold clsV; rw [g1]; rfl
    refine .cons (c := clsV X.mg x) ⟨F.gl h2, n1, .inl (by rw [ec]; exact g1)⟩ (fun a oe cls dd pn _ _ => ?_) (hds_ok F h5 fun p hp => hx p (List.mem_cons_of_mem _ hp))
    exact wkSs (pss_cons (ps_ret (pe_const h4)) pss_nil) fun D σ H q => q
/-- what the clauses give -/
theorem hd_rd (TB : TabOk X.prog X.w X.K X.mg X.base k T) (hK : X.K = C.K) (hM : X.mg = C.mg) {e : Exc} {ρ : Env'} {s1 : Sto} {W W' : Wd} {H H' : Hp} {σ' : L2.St} {D : Ends} {c : Value} {dd : Option Addr}
    (sr : SR C W' H' ρ σ' s1) (ex : Ext W W' H H') (xo : ExcOk C.K C.mg W' H' e c dd) : ∀ {hs : List (Str × PD.D)} {es : List ExceptHandler}, chkHs sc hs es = true → RunS C W H (hdM T.exm e ρ hs s1) D → wMany X.K C.Wx D (hdL X.mg hs) c dd σ' H'
  | [], _, _, h => by
    have h' : RunS C W H (.ok (.ex e, ρ) s1) D := h
    exact h' W' H' σ' sr ex c dd xo
  | (x, d) :: hs, [], hc, h => by unfold chkHs at hc; exact absurd hc Bool.false_ne_true
  | (x, d) :: hs, e' :: es, hc, h => by
    obtain ⟨np, ec, p1, p2, rfl, h2, h3, h4, h5⟩ := chkHs_cons hc
    obtain ⟨C0, m1, m2, m3⟩ := xo
    unfold hdM at h
    cases q : T.exm e.cls x with
    | none => rw [q] at h; exact h.elim
    | some b =>
      obtain ⟨Cx, Ch, g1, g2, g3⟩ := TB.exm _ _ _ q
      rw [hM, m1] at g1
      cases g1
      have ec : clsV X.mg x = .ref Ch := by unfold clsV; rw [g2]; rfl
      refine ⟨b, by rw [ec, m2]; exact g3, fun hb a ha => ?_, fun hb => ?_⟩
      · subst hb
        rw [q] at h
        have h' : RunS C W H (.ok (.rt d, ρ) s1) D := h
        exact h' W' H' σ' sr ex _ (cV_rep h4)
      · subst hb
        rw [q] at h
        exact hd_rd TB hK hM sr ex ⟨C0, m1, m2, m3⟩ h5 h
def Cn.wx (C : Cn) (w : WX) : Cn := { C with Wx := w }
theorem SR.wx {w : WX} {W : Wd} {H : Hp} {ρ : Env'} {σ : L2.St} {s : Sto} (h : SR C W H ρ σ s) : SR (C.wx w) W H ρ σ s := ⟨h.fr, h.sto, ⟨h.env.len, h.env.val, h.env.own, h.env.sep⟩⟩
theorem SR.unwx {w : WX} {W : Wd} {H : Hp} {ρ : Env'} {σ : L2.St} {s : Sto} (h : SR (C.wx w) W H ρ σ s) : SR C W H ρ σ s := ⟨h.fr, h.sto, ⟨h.env.len, h.env.val, h.env.own, h.env.sep⟩⟩
theorem FitS.wx (F : FitS C T N k sc X) {w : WX} {pn : List (Addr × Obj)} {xe : Value → Shared → Prop} (tk : Takes (X.tr pn xe) w) (ps : PassesOwn (model X.prog X.w) X.A X.env xe) : FitS (C.wx w) T N k sc (X.tr pn xe) :=
  { n := F.n, nd := F.nd, sc := F.sc, calm := F.calm, room := F.room, takes := tk, K := F.K, mg := F.mg, tab := F.tab, fn := F.fn, passes := ps, kind := F.kind, stk := F.stk, frm := F.frm }
/-- try: .. except x: return .. -/
theorem ps_tryD {b : List Sd} {hs : List (Str × D)} {p : List Stmt} {h : ExceptHandler} {q : List ExceptHandler} (F : FitS C T N k sc X) (hc : chkHs sc hs (h :: q) = true)
    (hb : ∀ (C' : Cn) (X' : Cx), FitS C' T N k sc X' → PSs X' p (tS C' (exs T b))) :
    PS X (.Try p (h :: q) [] [] pos) (tS C fun ρ => chk (hs.all fun p => (T.exm p.1 p.1).isSome) (exs T b ρ >>= tryK T.exm hs)) := by
  cases hx : hs.all fun p => (T.exm p.1 p.1).isSome with
  | false => exact ps_badD
  | true =>
    have hx2 := List.all_eq_true.mp hx
    refine wkS (ps_try_many (tb := fun w => tS (C.wx w) (exs T b)) F.stk F.frm F.takes (fun w pn xe tk ps => hb _ _ (F.wx tk ps)) (hds_ok F hc hx2)) fun D σ H ⟨ρ, s, W, sr, hr⟩ => ?_
    refine ⟨ρ, s, W, sr.wx, ?_⟩
    have hr' : RunS C W H (M.bind (exs T b ρ) (tryK T.exm hs) s) D := hr
    unfold M.bind at hr'
    cases e : exs T b ρ s with
    | ok pq s1 =>
      rw [e] at hr'
      obtain ⟨f, ρ'⟩ := pq
      cases f with
      | nx => exact fun W' H' σ' x y => hr' W' H' σ' x.unwx y
      | bk => exact fun W' H' σ' x y => hr' W' H' σ' x.unwx y
      | ct => exact fun W' H' σ' x y => hr' W' H' σ' x.unwx y
      | rt d => exact fun W' H' σ' x y => hr' W' H' σ' x.unwx y
      | ex e0 =>
        intro W' H' σ' x y c dd xo
        exact hd_rd F.tab F.K F.mg x.unwx y xo hc hr'
    | exn e0 s1 => rw [e] at hr'; exact hr'
    | bad => rw [e] at hr'; exact hr'
theorem ps_appLD {i : Nat} {x : Str} {e : Expr} {px apos cpos : Pos} {m : Env' → M D} (F : FitS C T N k sc X) (hi : N[i]? = some x) (hx : visB sc x = true) (hxn : okN x = true) (hp : plainX e = true) (hl : (apos.endLine == cpos.line) = true) (he : PE X e (tE C m)) :
    PS X (.Expr (.Call (.Attribute (.Name x px) "append" apos) [e] [] cpos) pos) (tS C fun ρ => chk (isLocO (getV ρ i)) (tryS ρ (m ρ) fun y => appLM ρ (getV ρ i) y)) := by
  obtain ⟨n1, n2, _⟩ := okN_ hxn
  have hb := pe_bm (cpos := cpos) PySem.F.plainAttrs_list PySem.F.slot_list_append PySem.F.type_list_append mt_append (pe_var (pos := px) (by rw [F.n]; exact hi) (by rw [F.sc]; exact vis_ hx) n1 n2) (pa_cons he pa_nil (star_plain hp)) rfl (by rw [few_plain (es := [e]) (by rw [List.all_cons, hp]; rfl)]; rfl) hl (star_plain hp) rfl
  refine wkS (ps_expr hb (sw_f rfl)) fun D σ H ⟨ρ, s, W, sr, h⟩ => ?_
  obtain ⟨h0, h⟩ := RunS.chk h
  have ⟨n, hq⟩ : ∃ n, getV ρ i = some (.loc n) := by
    unfold isLocO at h0
    split at h0
    · exact ⟨_, by assumption⟩
    · cases h0
  obtain ⟨v0, e0, r0⟩ := sr.env.val i _ (getV_ hq)
  have hr := RunS.tr (σ := σ) (R1 := RepV C.K) h
  have go : True := trivial
  · skip
    have rl := r0
    unfold RepV at rl
    obtain ⟨a, rfl, hm⟩ := rl
    have hn : n < s.length := by
      rw [sr.sto.len]
      exact (List.getElem?_eq_some_iff.mp hm).1
    obtain ⟨xs0, hs0⟩ : ∃ xs0, s[n]? = some (.lst xs0) := by
      rw [List.getElem?_eq_getElem hn]
      cases s[n] with
      | lst xs0 => exact ⟨xs0, rfl⟩
    obtain ⟨vs0, hv0, rv0⟩ := sr.sto.at_ n _ a hs0 hm
    refine ⟨.ref a, e0, .inl ⟨rfl, vs0, .inl (.inl hv0)⟩, ρ, s, W, sr, hr.imp fun v H1 ⟨W1, d, s1, sr1, f1, r1, h1⟩ => ?_⟩
    rw [hq] at h1
    have h2 : RunS C W1 H1 (match s1[n]? with
      | some (.lst xs) => if xs.length < line then .ok (.nx, ρ) (s1.set n (.lst (xs ++ [d]))) else .bad
      | none => .bad) D := h1
    cases hs : s1[n]? with
    | none => rw [hs] at h2; exact h2.elim
    | some c =>
      cases c with
      | lst xs =>
        rw [hs] at h2
        by_cases hl2 : xs.length < line
        · simp only [if_pos hl2] at h2
          have hm1 := f1.ext.mu _ _ hm
          obtain ⟨vs, hv, rv⟩ := sr1.sto.at_ n _ a hs hm1
          obtain ⟨ex, sr3⟩ := sr1.setSto hs hm1 hv (rv.append (.cons r1 .nil))
          exact ⟨a, vs, v, rfl, rfl, hv, by rw [rv.length, ← line_eq]; exact hl2, h2 W1 _ σ sr3 ex⟩
        · simp only [if_neg hl2] at h2
          exact h2.elim
theorem ps_ownLD {i : Nat} {x : Str} {e : Expr} {p pc pos' : Pos} {m : Env' → M D} (F : FitS C T N k sc X) (hi : N[i]? = some x) (hx : stB sc x = true) (hg : glB sc ("list" : Str) = true) (hp : plainX e = true) (he : PE X e (tE C m)) :
    PS X (.Assign [.Name x pos'] (.Call (.Name ("list" : Str) p) [e] [] pc) pos) (tS C fun ρ => tryS ρ (m ρ) fun d => ownLM ρ i d) := by
  have hb : boots.lookup ("list" : Str) = some (.type "list") := by decide +kernel
  obtain ⟨b1, b2, b3⟩ := boot_of hb
  refine wkS (ps_set F.nd (by rw [F.n]; exact hi) (by rw [F.sc]; exact stB_ hx) (pe_callTy (T := "list") call_list_of (F.gl hg) (F.bi hb) b1 (pa_cons he pa_nil (star_plain hp)) b2 b3 (star_plain hp) rfl) (sw_f rfl) (.inl (F.fn x))) fun D σ H ⟨ρ, s, W, sr, h⟩ => ⟨ρ, s, W, sr, (RunS.tr (R1 := RepV C.K) h).imp fun v H1 ⟨W1, d, s1, sr1, f1, r1, h1⟩ => ?_⟩
  unfold ownLM at h1
  cases d with
  | lst xs =>
    obtain ⟨p, ws, rfl, l, rl⟩ := lst_of r1
    refine ⟨p, ws, rfl, .inl (by rw [F.K]; exact l.sq), fun a ha => ?_⟩
    obtain ⟨hi, h2⟩ := RunS.chk h1
    obtain ⟨ex, sr2⟩ := sr1.newOwn (of_decide_eq_true hi) ha rl
    exact h2.nx sr2 ex
  | tup xs =>
    obtain ⟨p, ws, rfl, l, rl⟩ := tup_of r1
    refine ⟨p, ws, rfl, .inr (by rw [F.K]; exact l), fun a ha => ?_⟩
    obtain ⟨hi, h2⟩ := RunS.chk h1
    obtain ⟨ex, sr2⟩ := sr1.newOwn (of_decide_eq_true hi) ha rl
    exact h2.nx sr2 ex
  | _ => exact h1.elim
theorem SR.setOwn {W : Wd} {H : Hp} {ρ : Env'} {σ : L2.St} {s : Sto} (sr : SR C W H ρ σ s) {i : Nat} {xs : List D} {a : Addr} {vs : List V} {d : D} {y : V} (jj : Nat) (e : ρ[i]? = some (some (.own xs))) (e1 : σ[i]? = some (some (.ref a))) (e2 : H a = some (.lst vs)) (ry : RepV C.K W H d y) :
    Ext W W H (upd H a (.lst (vs.set jj y))) ∧ SR C W (upd H a (.lst (vs.set jj y))) (ρ.set i (some (.own (xs.set jj d)))) σ s := by
  obtain ⟨a', vs', e1', e2', r, nz, nm, n0⟩ := sr.env.own i xs e
  rw [e1] at e1'
  cases e1'
  rw [e2] at e2'
  cases e2'
  have sr1 : SR C W H (ρ.set i none) σ s := sr.env_ (sr.env.drop i)
  obtain ⟨ex, sr2⟩ := sr1.turn (ys := vs.set jj y) e2 nz nm n0 (sr.own_no e e1)
  exact ⟨ex, sr2.env_ (sr2.env.putO e1 upd_same ((r.set jj ry).mono ex) nz nm n0 (sr.own_no e e1))⟩
theorem ps_setOD {i : Nat} {x : Str} {e ke : Expr} {px tpos : Pos} {m mk : Env' → M D} (F : FitS C T N k sc X) (hi : N[i]? = some x) (hx : visB sc x = true) (hxn : okN x = true) (hs : plainX ke = true) (he : PE X e (tE C m)) (hk : PE X ke (tE C mk)) :
    PS X (.Assign [.Subscript (.Name x px) ke tpos] e pos) (tS C fun ρ => chk (isOwn ρ i) (tryS ρ (m ρ) fun v => tryS ρ (mk ρ) fun y => setOM ρ i y v)) := by
  obtain ⟨n1, n2, _⟩ := okN_ hxn
  have hg : PG X (.Subscript (.Name x px) ke tpos) (gSub (tVar i) (tE C mk) rSetL) := pg_sub (pe_var (by rw [F.n]; exact hi) (by rw [F.sc]; exact vis_ hx) n1 n2) hk set_list (by intro v; cases ke <;> first | rfl | exact absurd (show false = true from hs) (by decide))
  refine wkS (ps_asg he hg (by unfold swapsWithSole; exact sw_sub) (by cases e <;> rfl) rfl) fun D σ H ⟨ρ, s, W, sr, h⟩ => ?_
  obtain ⟨h0, h⟩ := RunS.chk h
  obtain ⟨xs, hq⟩ := isOwn_ h0
  obtain ⟨a, vs, e1, e2, r0, _⟩ := sr.env.own i xs hq
  refine ⟨ρ, s, W, sr, (RunS.tr (R1 := RepV C.K) h).imp fun v H1 ⟨W1, d, s1, sr1, f1, r1, h1⟩ => ?_⟩
  refine ⟨.ref a, e1, ρ, s1, W1, sr1, (RunS.tr (R1 := RepV C.K) h1).imp fun u H2 ⟨W2, y, s2, sr2, f2, r2, h2⟩ => ?_⟩
  unfold setOM at h2
  rw [hq] at h2
  cases y with
  | int j =>
    have h3 : RunS C W2 H2 ((match ixN xs.length j with
      | some jj => (pure (.nx, ρ.set i (some (.own (xs.set jj d)))) : M (Fl × Env'))
      | none => badM) s2) D := h2
    cases hj : ixN xs.length j with
    | none => rw [hj] at h3; exact h3.elim
    | some jj =>
      rw [hj] at h3
      obtain ⟨a', vs', e1', e2', r', _⟩ := sr2.env.own i xs hq
      rw [e1] at e1'
      cases e1'
      obtain ⟨ex, sr3⟩ := sr2.setOwn jj hq e1 e2' (r1.mono f2.ext)
      have ru : u = .int j := by unfold RepV at r2; exact r2
      exact ⟨a, vs', j, jj, rfl, ru, e2', by rw [r'.length]; exact hj, h3.nx sr3 ex⟩
  | _ => exact h2.elim
end
end PD

set_option Elab.async false
set_option linter.all false
set_option maxRecDepth 100000
set_option maxHeartbeats 16000000
/-! PD21: which code mirrors which statement; THE THEOREM of statements. -/
namespace PD
open PySem PySem.Spec L2

section
variable {C : Cn} {T : Tab} {N : List Str} {k : Nat} {sc : Scope} {X : Cx}
/-- a name set to a comprehension of two clauses, on one line -/
theorem ps_setLc2D (F : Fit C T N k sc X) {i : Nat} {y : Str} {py spos : Pos} {tg tg2 : Tg} {mi mi2 : Env' → M (List D)} {me : Env' → M D} {tx iter tx2 iter2 elt : Expr} {scope : Scope} {pos : Pos} (L : Lc2Ok C T N k sc X tg tg2 mi mi2 me tx iter tx2 iter2 elt scope) (hy : N[i]? = some y) (hyl : sc.names.lookup y = some .local)
    (hsw : swapsWith (.ListComp elt [⟨tx, iter, [], 0⟩, ⟨tx2, iter2, [], 0⟩] scope pos) (some (.Name y py)) spos.line X.env = pure true) :
    PS X (.Assign [.Name y py] (.ListComp elt [⟨tx, iter, [], 0⟩, ⟨tx2, iter2, [], 0⟩] scope pos) spos) (tAsg (tE C (lc2E tg tg2 mi mi2 me)) (gName i)) := by
  have hb := blkOk_by L.ok
  have e1 : (ownOf tg tx ++ ownOf tg2 tx2).map (·.2) = tgS tg ++ tgS tg2 := by rw [List.map_append, ownOf_snd L.tg_, ownOf_snd L.tg2_]
  have h := ps_setLc2 (pos := pos) (vs1 := tgS tg2) F.calm F.nd (by rw [F.n]; exact hy) (by rw [F.sc]; exact hyl) hsw L.hi (by rw [F.n, F.sc]; exact hb) (by rw [e1]; exact fun i hi => List.mem_append_right _ hi)
    (fun s H Cc cl fp => pg_D (C := C) (F.blkS s H scope Cc cl fp) F.K L.tg_) (fun s H Cc cl fp => pts_nil) L.hi2 (fun s H Cc cl fp => pg_D (C := C) (F.blkS s H scope Cc cl fp) F.K L.tg2_) (fun s H Cc cl fp => pts_nil) L.he (folded_ L.pl) (fun env => folded_ L.pl2)
  rw [e1] at h
  exact wkS h fun D σ H q => lc2_reading q
theorem lcOk_of {tg : Tg} {it : Cd} {t : Option Cd} {el : Cd} {elt : Expr} {gens : List Comprehension} {scope : Scope} {pos : Pos} (F : Fit C T N k sc X) (h : chkE N (.lc tg it t el) 0 sc (.ListComp elt gens scope pos) = true) :
    ∃ tx iter ifs, gens = [⟨tx, iter, ifs, 0⟩] ∧ LcOk C T N k sc X tg (fun ρ => itemsM (ev T it ρ)) (fun ρ => evt T t ρ) (fun ρ => ev T el ρ) tx iter elt ifs scope (ttOf C.calm0 T t) := by
  unfold chkE at h
  cases gens with
  | nil => exact absurd h Bool.false_ne_true
  | cons g gens =>
    cases gens with
    | cons _ _ => (cases g; exact absurd h Bool.false_ne_true)
    | nil =>
      obtain ⟨tx, iter, ifs, az⟩ := g
      obtain ⟨h0, h⟩ := ba h
      obtain ⟨h1, h⟩ := ba h
      obtain ⟨h2, h⟩ := ba h
      obtain ⟨h3, h⟩ := ba h
      obtain ⟨h4, h⟩ := ba h
      obtain ⟨h5, h6⟩ := ba h
      have e0 : az = 0 := of_decide_eq_true h0
      subst e0
      have hi := (all_of it F h1).2 (by cases tg <;> simp [mdOf]) tx (fun z => by
        cases tg with
        | nm i => simp [mdOf] at z
        | tp is => exact tup_of_tp h4)
      exact ⟨tx, iter, ifs, rfl, hi, h2, h3, h4, fun s H Cc cl fp => (pc_of t (F.blk s H scope Cc cl fp) h5).1, rdT_of t, fun s H Cc cl fp => ((all_of el (F.blk s H scope Cc cl fp) h6).1 (notIt h6)).pe⟩
theorem lc2Ok_of {tg tg2 : Tg} {it it2 el : Cd} {elt : Expr} {gens : List Comprehension} {scope : Scope} {pos : Pos} (F : Fit C T N k sc X) (h : chkE N (.lc2 tg it tg2 it2 el) 0 sc (.ListComp elt gens scope pos) = true) :
    ∃ tx iter tx2 iter2, gens = [⟨tx, iter, [], 0⟩, ⟨tx2, iter2, [], 0⟩] ∧ Lc2Ok C T N k sc X tg tg2 (fun ρ => itemsM (ev T it ρ)) (fun ρ => itemsM (ev T it2 ρ)) (fun ρ => ev T el ρ) tx iter tx2 iter2 elt scope := by
  unfold chkE at h
  cases gens with
  | nil => exact absurd h Bool.false_ne_true
  | cons g gens =>
    cases gens with
    | nil => (cases g; exact absurd h Bool.false_ne_true)
    | cons g2 gens =>
      cases gens with
      | cons _ _ => (cases g; cases g2; exact absurd h Bool.false_ne_true)
      | nil =>
        obtain ⟨tx, iter, ifs, az⟩ := g
        obtain ⟨tx2, iter2, ifs2, az2⟩ := g2
        obtain ⟨h0, h⟩ := ba h
        obtain ⟨h00, h⟩ := ba h
        obtain ⟨hf, h⟩ := ba h
        obtain ⟨hf2, h⟩ := ba h
        obtain ⟨h1, h⟩ := ba h
        obtain ⟨h2, h⟩ := ba h
        obtain ⟨h22, h⟩ := ba h
        obtain ⟨h3, h⟩ := ba h
        obtain ⟨h4, h⟩ := ba h
        obtain ⟨h5, h⟩ := ba h
        obtain ⟨h6, h7⟩ := ba h
        have e0 : az = 0 := of_decide_eq_true h0
        have e00 : az2 = 0 := of_decide_eq_true h00
        have ef : ifs = [] := List.isEmpty_iff.mp hf
        have ef2 : ifs2 = [] := List.isEmpty_iff.mp hf2
        subst e0 e00 ef ef2
        have hi := (all_of it F h1).2 (by cases tg <;> simp [mdOf]) tx (fun z => by
          cases tg with
          | nm i => simp [mdOf] at z
          | tp is => exact tup_of_tp h4)
        exact ⟨tx, iter, tx2, iter2, rfl, hi, h2, h22, h3, h4, h5, fun s H Cc cl fp => (all_of it2 (F.blk s H scope Cc cl fp) h6).2 (by cases tg2 <;> simp [mdOf]) tx2 (fun z => by
            cases tg2 with
            | nm i => simp [mdOf] at z
            | tp is => exact tup_of_tp h5), fun s H Cc cl fp => ((all_of el (F.blk s H scope Cc cl fp) h7).1 (notIt h7)).pe⟩
end

/-! ### the checker -/
def isTupX : Expr → Bool
  | .Tuple _ _ _ => true
  | _ => false
def celB (sc : Scope) (x : Str) : Bool := decide (sc.names.lookup x = some .cell)
/-- x = [.. for ..] with the stores exchanged -/
def exch (sc : Scope) (x : Str) (py : Pos) : Expr → Bool
  | .ListComp _ _ scope p => locB sc x && ((py.line == p.line) && !(scope.names.any fun (n, k) => n == x && (k == .local || k == .cell)))
  | _ => false
def isLcC : Cd → Bool
  | .lc _ _ _ _ => true
  | .lc2 _ _ _ _ _ => true
  | _ => false
def asgOk (sc : Scope) (c : Cd) : Expr → Expr → Bool
  | .Name x py, e => !isLc e || (celB sc x || (isLcC c && exch sc x py e))
  | .Tuple _ _ _, e => !isTupX e
  | _, _ => false
def lastL (ts : List Expr) (l : Nat) : Bool := ts.all fun e => match e with
  | .Name _ p => p.line == l
  | _ => false
def parOk (sc : Scope) (is : List Nat) (ts es : List Expr) : Bool := ts.any (notLoc sc) || (es.all (foldedForSure 8) || (!(es.all (constantsAlone 8)) && (!(es.all (foldedForSure 8)) && (decide (sc.kind = .function) && match ts, es, is with
  | [.Name x px, .Name y py], [a, b], [i, j] => (py.line == px.line) && (decide (x ≠ y) && (decide (i ≠ j) && (plainX a && plainX b)))
  | [.Name x px, .Name y py, .Name z pz], [a, b, c], [i, j, l] => (py.line == px.line) && ((pz.line == px.line) && (decide (x ≠ y) && (decide (x ≠ z) && (decide (y ≠ z) && (decide (i ≠ j) && (decide (i ≠ l) && (decide (j ≠ l) && (plainX a && (plainX b && plainX c)))))))))
  | _, _, _ => false))))
section
variable (N : List Str) (sc : Scope)
def chkOs : List Bool → List Cd → List Expr → Bool
  | [], [], es => es.isEmpty
  | false :: os, c :: cs, e :: es => plainX e && (chkE N c 0 sc e && chkOs os cs es)
  | true :: os, .lst c :: cs, .List es' _ :: es => decide (c.length ≤ 1000) && (chkEs N c sc es' && chkOs os cs es)
  | _, _, _ => false
mutual
def chkS : Sd → Stmt → Bool
  | .asg tg c, st => match st with
    | .Assign [t] e _ => asgOk sc c t e && (chkTg N stB sc tg t && chkE N c 0 sc e)
    | _ => false
  | .par is os cs, st => match st with
    | .Assign [.Tuple ts _ _] (.Tuple es _ _) _ => parOk sc is ts es && (chkTg N stB sc (.tp is) (.Tuple ts 0 ⟨0, 0, 0, 0⟩) && (decide (cs.length ≤ 1000) && chkOs N sc os cs es))
    | _ => false
  | .own i cs, st => match st with
    | .Assign [.Name x _] (.List es _) _ => decide (N[i]? = some x) && (stB sc x && (decide (cs.length ≤ 1000) && chkEs N cs sc es))
    | _ => false
  | .cat i j c, st => match st with
    | .Assign [.Name x _] (.BinOp (.Name y _) .Add e _) _ => decide (N[i]? = some x) && (decide (N[j]? = some y) && (stB sc x && (visB sc y && (okN y && chkE N c 0 sc e))))
    | _ => false
  | .frz _, _ => false
  | .app i c, st => match st with
    | .Expr (.Call (.Attribute (.Name x _) nm apos) [e] [] cpos) _ => decide (nm = ("append" : Str)) && (decide (N[i]? = some x) && (visB sc x && (okN x && (plainX e && ((apos.endLine == cpos.line) && chkE N c 0 sc e)))))
    | _ => false
  | .set i kc c, st => match st with
    | .Assign [.Subscript (.Name x _) ke _] e _ => decide (N[i]? = some x) && (visB sc x && (okN x && (plainX ke && (chkE N c 0 sc e && chkE N kc 0 sc ke))))
    | _ => false
  | .ret c, st => match st with
    | .Return (some e) _ => chkE N c 0 sc e
    | _ => false
  | .retN, st => match st with
    | .Return none _ => true
    | _ => false
  | .ife t a b, st => match st with
    | .If c p q _ => chkE N t 0 sc c && (chkSs a p && chkSs b q)
    | _ => false
  | .for_ tg it b, st => match st with
    | .For t e p [] _ => chkE N it (mdOf tg) sc e && (plainX e && (chkTg N stB sc tg t && chkSs b p))
    | _ => false
  | .whl t b, st => match st with
    | .While c p [] _ => chkE N t 0 sc c && chkSs b p
    | _ => false
  | .exp c, st => match st with
    | .Expr e _ => !isLc e && chkE N c 0 sc e
    | _ => false
  | .rse x, st => decide (x = ("" : Str)) || (match st with
    | .Raise (some (.Call (.Name y _) [.Constant (.str _) _ _] [] _)) none _ => decide (x = y) && (glB sc y && okN y)
    | _ => false)
  | .appL i c, st => match st with
    | .Expr (.Call (.Attribute (.Name x _) nm apos) [e] [] cpos) _ => decide (nm = ("append" : Str)) && (decide (N[i]? = some x) && (visB sc x && (okN x && (plainX e && ((apos.endLine == cpos.line) && chkE N c 0 sc e)))))
    | _ => false
  | .ownL i c, st => match st with
    | .Assign [.Name x _] (.Call (.Name l _) [e] [] _) _ => decide (l = ("list" : Str)) && (glB sc l && (decide (N[i]? = some x) && (stB sc x && (plainX e && chkE N c 0 sc e))))
    | _ => false
  | .setO i kc c, st => match st with
    | .Assign [.Subscript (.Name x _) ke _] e _ => decide (N[i]? = some x) && (visB sc x && (okN x && (plainX ke && (chkE N c 0 sc e && chkE N kc 0 sc ke))))
    | _ => false
  | .try_ b hs, st => match st with
    | .Try p (h :: q) [] [] _ => decide (0 < hs.length) && (chkHs sc hs (h :: q) && chkSs b p)
    | _ => false
  | .pass, st => match st with
    | .Pass _ => true
    | _ => false
  | .brk, st => match st with
    | .Break _ => true
    | _ => false
  | .cnt, st => match st with
    | .Continue _ => true
    | _ => false
def chkSs : List Sd → List Stmt → Bool
  | [], sts => sts.isEmpty
  | c :: cs, sts => match c with
    | .frz _ => chkSs cs sts
    | _ => (match sts with
      | st :: sts => chkS c st && chkSs cs sts
      | [] => false)
end
end
end PD

set_option Elab.async false
set_option linter.all false
set_option maxRecDepth 100000
set_option maxHeartbeats 16000000
/-! PD22: THE THEOREM of statements. -/
namespace PD
open PySem PySem.Spec L2

theorem ps_cong {C : Cn} {X : Cx} {st : Stmt} {m m' : Env' → M (Fl × Env')} (h : ∀ ρ, m' ρ = m ρ) (q : PS X st (tS C m)) : PS X st (tS C m') := by
  rw [show m' = m from funext h]; exact q
theorem pss_cong {C : Cn} {X : Cx} {st : List Stmt} {m m' : Env' → M (Fl × Env')} (h : ∀ ρ, m' ρ = m ρ) (q : PSs X st (tS C m)) : PSs X st (tS C m') := by
  rw [show m' = m from funext h]; exact q
theorem paO_cong {C : Cn} {X : Cx} {es : List Expr} {m m' : Env' → M (List Ov)} (h : ∀ ρ, m' ρ = m ρ) (q : PA X es (tOs C m)) : PA X es (tOs C m') := by
  rw [show m' = m from funext h]; exact q
section
variable {C : Cn} {T : Tab} {N : List Str} {k : Nat} {sc : Scope} {X : Cx}
theorem bn {b : Bool} (h : (!b) = true) : b = false := by cases b <;> first | rfl | cases h
theorem FitS.store (F : FitS C T N k sc X) : StoreOk X N sc stB := ⟨F.n, F.nd, F.sc, F.calm, fun x h => ⟨stB_ h, .inl (F.fn x)⟩⟩
theorem exch_ {x : Str} {py p : Pos} {elt : Expr} {gs : List Comprehension} {scope : Scope} {l : Nat} (F : FitS C T N k sc X) (h : exch sc x py (.ListComp elt gs scope p) = true) : sc.names.lookup x = some .local ∧ swapsWith (.ListComp elt gs scope p) (some (.Name x py)) l X.env = pure true := by
  obtain ⟨h1, h⟩ := ba h
  obtain ⟨h2, h3⟩ := ba h
  exact ⟨locB_ h1, sw_true F.kind (by rw [F.sc]; exact locB_ h1) h2 (bn h3)⟩
theorem ps_asg_of {tg : Tg} {c : Cd} {t e : Expr} {pos : Pos} (F : FitS C T N k sc X) (h1 : asgOk sc c t e = true) (h2 : chkTg N stB sc tg t = true) (h3 : chkE N c 0 sc e = true) : PS X (.Assign [t] e pos) (tS C (asgM tg (ev T c))) := by
  have he := ((all_of (T := T) (C := C) c F.toFit h3).1 (notIt h3)).pe
  have hg := pg_D (C := C) F.store F.K h2
  cases t with
  | Name x py =>
    have hw : swappedStores [.Name x py] e X.env = pure none := st_plain (fun _ _ _ _ _ _ q => nomatch q) (fun _ _ _ _ _ q => nomatch q)
    cases tg with
    | tp is => exact absurd h2 Bool.false_ne_true
    | nm i =>
      obtain ⟨hi, hx⟩ := ba h2
      have h1 : (!isLc e || (celB sc x || (isLcC c && exch sc x py e))) = true := h1
      rw [Bool.or_eq_true, Bool.or_eq_true] at h1
      rcases h1 with h1 | h1 | h1
      · exact ps_asgD he hg (by unfold swapsWithSole; exact sw_f (bn h1)) hw rfl
      · exact ps_asgD he hg (by unfold swapsWithSole; exact sw_cell (by rw [F.sc]; exact of_decide_eq_true h1)) hw rfl
      · obtain ⟨l1, l2⟩ := ba h1
        cases e with
        | ListComp elt gs scope p =>
          cases c with
          | lc tg' it tt el =>
            obtain ⟨tx, iter, ifs, eg, L⟩ := lcOk_of F.toFit h3
            subst eg
            obtain ⟨q1, q2⟩ := exch_ (l := pos.line) F l2
            have q := ps_setLcD F.toFit L (of_decide_eq_true hi) q1 q2
            refine ps_cong (fun ρ => ?_) (wkS (t' := tS C (asgM (.nm i) (lcE tg' (fun ρ => itemsM (ev T it ρ)) (fun ρ => evt T tt ρ) (fun ρ => ev T el ρ)))) q fun D σ H r => asg_rd r)
            unfold asgM
            rw [ev]
          | lc2 tg' it tg2 it2 el =>
            obtain ⟨tx, iter, tx2, iter2, eg, L⟩ := lc2Ok_of F.toFit h3
            subst eg
            obtain ⟨q1, q2⟩ := exch_ (l := pos.line) F l2
            have q := ps_setLc2D F.toFit L (of_decide_eq_true hi) q1 q2
            refine ps_cong (fun ρ => ?_) (wkS (t' := tS C (asgM (.nm i) (lc2E tg' tg2 (fun ρ => itemsM (ev T it ρ)) (fun ρ => itemsM (ev T it2 ρ)) (fun ρ => ev T el ρ)))) q fun D σ H r => asg_rd r)
            unfold asgM
            rw [ev]
          | _ => exact absurd l1 Bool.false_ne_true
        | _ => exact absurd l2 Bool.false_ne_true
  | Tuple ts kk p =>
    refine ps_asgD he hg (by unfold swapsWithSole; exact sw_tup) (st_plain (fun _ _ _ vs _ _ _ q => ?_) (fun _ _ _ _ _ q => nomatch q)) rfl
    subst q
    exact absurd h1 Bool.false_ne_true
  | _ => exact absurd h1 Bool.false_ne_true
theorem paO_of : ∀ (os : List Bool) (cs : List Cd) (es : List Expr), Fit C T N k sc X → chkOs N sc os cs es = true → PA X es (tOs C (evOs T os cs))
  | [], [], es, F, h => by
    have e : es = [] := List.isEmpty_iff.mp h
    subst e
    exact paO_cong (fun ρ => by rw [evOs] <;> rfl) pa_nilO
  | [], _ :: _, es, F, h => absurd h Bool.false_ne_true
  | o :: os, [], es, F, h => by cases o <;> exact absurd h Bool.false_ne_true
  | false :: os, c :: cs, es, F, h => by
    cases es with
    | nil => exact absurd h Bool.false_ne_true
    | cons e es =>
      obtain ⟨h1, h⟩ := ba h
      obtain ⟨h2, h3⟩ := ba h
      exact paO_cong (fun ρ => by rw [evOs] <;> rfl) (pa_valO h1 ((all_of (T := T) (C := C) c F h2).1 (notIt h2)).pe (paO_of os cs es F h3))
  | true :: os, c :: cs, es, F, h => by
    cases c with
    | lst c =>
      cases es with
      | nil => exact absurd h Bool.false_ne_true
      | cons e es =>
        cases e with
        | List es' p =>
          obtain ⟨h1, h⟩ := ba h
          obtain ⟨h2, h3⟩ := ba h
          have hl : c.length ≤ 1000 := of_decide_eq_true h1
          exact paO_cong (fun ρ => by rw [evOs] <;> rfl) (pa_ownO (fun ρ s ys s' e => by rw [evs_len e]; exact hl) (pa_of c F h2) (paO_of os cs es F h3))
        | _ => exact absurd h Bool.false_ne_true
    | _ => exact absurd h Bool.false_ne_true
theorem evOs_len : ∀ {os : List Bool} {cs : List Cd} {ρ : Env'} {s : Sto} {xs : List Ov} {s' : Sto}, evOs T os cs ρ s = .ok xs s' → xs.length = cs.length
  | [], [], ρ, s, xs, s', h => by
    have h' : (pure [] : M (List Ov)) s = .ok xs s' := h
    obtain ⟨e, _⟩ := ok_pure h'
    rw [← e]
    rfl
  | [], _ :: _, ρ, s, xs, s', h => by cases h
  | o :: os, [], ρ, s, xs, s', h => by cases o <;> cases h
  | false :: os, c :: cs, ρ, s, xs, s', h => by
    have h' : (ev T c ρ >>= fun x => evOs T os cs ρ >>= fun xs => pure (.val x :: xs)) s = .ok xs s' := h
    obtain ⟨d, s1, e1, e2⟩ := ok_bind h'
    obtain ⟨ds, s2, e3, e4⟩ := ok_bind e2
    obtain ⟨e5, _⟩ := ok_pure e4
    rw [← e5, List.length_cons, List.length_cons, evOs_len e3]
  | true :: os, c :: cs, ρ, s, xs, s', h => by
    cases c with
    | lst c =>
      have h' : (evs T c ρ >>= fun x => evOs T os cs ρ >>= fun xs => pure (.own x :: xs)) s = .ok xs s' := h
      obtain ⟨d, s1, e1, e2⟩ := ok_bind h'
      obtain ⟨ds, s2, e3, e4⟩ := ok_bind e2
      obtain ⟨e5, _⟩ := ok_pure e4
      rw [← e5, List.length_cons, List.length_cons, evOs_len e3]
    | _ => cases h
theorem chkTg_pos {is : List Nat} {ts : List Expr} {a b : Nat} {p q : Pos} {lc : Scope → Str → Bool} (h : chkTg N lc sc (.tp is) (.Tuple ts a p) = true) : chkTg N lc sc (.tp is) (.Tuple ts b q) = true := h
theorem ps_par_of {is : List Nat} {os : List Bool} {cs : List Cd} {ts es : List Expr} {k1 k2 : Nat} {p1 p2 pos : Pos} (F : FitS C T N k sc X) (h1 : parOk sc is ts es = true) (h2 : chkTg N stB sc (.tp is) (.Tuple ts 0 ⟨0, 0, 0, 0⟩) = true) (hl : cs.length ≤ 1000) (h3 : chkOs N sc os cs es = true) :
    PS X (.Assign [.Tuple ts k1 p1] (.Tuple es k2 p2) pos) (tS C (parM is (evOs T os cs))) := by
  have ha := paO_of (T := T) (C := C) (X := X) os cs es F.toFit h3
  have hg : PG X (.Tuple ts k1 p1) (gTup X.K is.length (gAll is)) := by
    have q := pg_D (C := C) (tg := .tp is) (e := .Tuple ts k1 p1) F.store F.K h2
    rw [F.K]
    exact q
  have gen : (ts.any (notLoc sc) = true ∨ es.all (foldedForSure 8) = true) → PS X (.Assign [.Tuple ts k1 p1] (.Tuple es k2 p2) pos) (tS C (parM is (evOs T os cs))) := fun q =>
    ps_parD F.K ha (fun ρ s xs s' e => by rw [evOs_len e]; exact hl) hg sws_tup (st_none F.sc q) rfl
  unfold parOk at h1
  rw [Bool.or_eq_true, Bool.or_eq_true] at h1
  rcases h1 with h1 | h1 | h1
  · exact gen (.inl h1)
  · exact gen (.inr h1)
  · by_cases hn : ts.any (notLoc sc) = true
    · exact gen (.inl hn)
    · have loc : ∀ x p, Expr.Name x p ∈ ts → sc.names.lookup x = some .local := fun x p hm => by
        cases hq : locB sc x with
        | true => exact locB_ hq
        | false => exact absurd (List.any_eq_true.mpr ⟨_, hm, show (!locB sc x) = true by rw [hq]; rfl⟩) hn
      have hc := (ba h1).1
      have hf := (ba (ba h1).2).1
      have hk := (ba (ba (ba h1).2).2).1
      replace h1 := (ba (ba (ba h1).2).2).2
      split at h1
      · rename_i x px y py a b i j
        obtain ⟨l1, h1⟩ := ba h1
        obtain ⟨n1, h1⟩ := ba h1
        obtain ⟨n2, h1⟩ := ba h1
        obtain ⟨pa, pb⟩ := ba h1
        have h2 : (decide (N[i]? = some x) && (stB sc x && (decide (N[j]? = some y) && (stB sc y && true)))) = true := h2
        obtain ⟨i1, h2⟩ := ba h2
        obtain ⟨_, h2⟩ := ba h2
        obtain ⟨i2, _⟩ := ba h2
        have lx := loc x px (by simp)
        have ly := loc y py (by simp)
        exact ps_par2D F (of_decide_eq_true i1) (of_decide_eq_true i2) (of_decide_eq_true n2) lx ly ha (st_two F.kind (by rw [F.sc]; exact lx) (by rw [F.sc]; exact ly) l1 (of_decide_eq_true n1) (bn hf) (bn hc) pa pb)
      · rename_i x px y py z pz a b c i j l
        obtain ⟨l1, h1⟩ := ba h1
        obtain ⟨l2, h1⟩ := ba h1
        obtain ⟨n1, h1⟩ := ba h1
        obtain ⟨n2, h1⟩ := ba h1
        obtain ⟨n3, h1⟩ := ba h1
        obtain ⟨m1, h1⟩ := ba h1
        obtain ⟨m2, h1⟩ := ba h1
        obtain ⟨m3, h1⟩ := ba h1
        obtain ⟨pa, h1⟩ := ba h1
        obtain ⟨pb, pc⟩ := ba h1
        have h2 : (decide (N[i]? = some x) && (stB sc x && (decide (N[j]? = some y) && (stB sc y && (decide (N[l]? = some z) && (stB sc z && true)))))) = true := h2
        obtain ⟨i1, h2⟩ := ba h2
        obtain ⟨_, h2⟩ := ba h2
        obtain ⟨i2, h2⟩ := ba h2
        obtain ⟨_, h2⟩ := ba h2
        obtain ⟨i3, _⟩ := ba h2
        have lx := loc x px (by simp)
        have ly := loc y py (by simp)
        have lz := loc z pz (by simp)
        exact ps_par3D F (of_decide_eq_true i1) (of_decide_eq_true i2) (of_decide_eq_true i3) (of_decide_eq_true m1) (of_decide_eq_true m2) (of_decide_eq_true m3) lx ly lz ha (st_three F.kind (by rw [F.sc]; exact lx) (by rw [F.sc]; exact ly) (by rw [F.sc]; exact lz) l1 l2 (of_decide_eq_true n1) (of_decide_eq_true n2) (of_decide_eq_true n3) (bn hf) (bn hc) pa pb pc)
      · exact absurd h1 Bool.false_ne_true
mutual
theorem ps_of : ∀ (c : Sd) {C : Cn} {X : Cx} {st : Stmt}, FitS C T N k sc X → chkS N sc c st = true → PS X st (tS C (ex T c))
  | .asg tg c, C, X, st, F, h => by
    unfold chkS at h
    split at h
    · obtain ⟨h1, h⟩ := ba h
      obtain ⟨h2, h3⟩ := ba h
      exact ps_cong (fun ρ => by rw [ex] <;> rfl) (ps_asg_of F h1 h2 h3)
    · exact absurd h Bool.false_ne_true
  | .par is os cs, C, X, st, F, h => by
    unfold chkS at h
    split at h
    · obtain ⟨h1, h⟩ := ba h
      obtain ⟨h2, h⟩ := ba h
      obtain ⟨h3, h4⟩ := ba h
      exact ps_cong (fun ρ => by rw [ex] <;> rfl) (ps_par_of F h1 h2 (of_decide_eq_true h3) h4)
    · exact absurd h Bool.false_ne_true
  | .own i cs, C, X, st, F, h => by
    unfold chkS at h
    split at h
    · obtain ⟨h1, h⟩ := ba h
      obtain ⟨h2, h⟩ := ba h
      obtain ⟨h3, h4⟩ := ba h
      have hl : cs.length ≤ 1000 := of_decide_eq_true h3
      exact ps_cong (fun ρ => by rw [ex] <;> rfl) (ps_ownD F (of_decide_eq_true h1) h2 (pa_of (T := T) cs F.toFit h4) (fun ρ s xs s' e => by rw [evs_len e]; exact hl))
    · exact absurd h Bool.false_ne_true
  | .cat i j c, C, X, st, F, h => by
    unfold chkS at h
    split at h
    · obtain ⟨h1, h⟩ := ba h
      obtain ⟨h2, h⟩ := ba h
      obtain ⟨h3, h⟩ := ba h
      obtain ⟨h4, h⟩ := ba h
      obtain ⟨h5, h6⟩ := ba h
      exact ps_cong (fun ρ => by rw [ex] <;> rfl) (ps_catD F (of_decide_eq_true h1) (of_decide_eq_true h2) h3 h4 h5 ((all_of (T := T) (C := C) c F.toFit h6).1 (notIt h6)).pe)
    · exact absurd h Bool.false_ne_true
  | .frz i, C, X, st, F, h => by
    unfold chkS at h
    exact absurd h Bool.false_ne_true
  | .app i c, C, X, st, F, h => by
    unfold chkS at h
    split at h
    · rename_i x px nm apos e cpos pos
      obtain ⟨h0, h⟩ := ba h
      obtain ⟨h1, h⟩ := ba h
      obtain ⟨h2, h⟩ := ba h
      obtain ⟨h3, h⟩ := ba h
      obtain ⟨h4, h⟩ := ba h
      obtain ⟨h5, h6⟩ := ba h
      have e0 : nm = ("append" : Str) := of_decide_eq_true h0
      subst e0
      exact ps_cong (fun ρ => by rw [ex] <;> rfl) (ps_appD F (of_decide_eq_true h1) h2 h3 h4 h5 ((all_of (T := T) (C := C) c F.toFit h6).1 (notIt h6)).pe)
    · exact absurd h Bool.false_ne_true
  | .set i kc c, C, X, st, F, h => by
    unfold chkS at h
    split at h
    · obtain ⟨h1, h⟩ := ba h
      obtain ⟨h2, h⟩ := ba h
      obtain ⟨h3, h⟩ := ba h
      obtain ⟨h4, h⟩ := ba h
      obtain ⟨h5, h6⟩ := ba h
      exact ps_cong (fun ρ => by rw [ex] <;> rfl) (ps_setD F (of_decide_eq_true h1) h2 h3 h4 ((all_of (T := T) (C := C) c F.toFit h5).1 (notIt h5)).pe ((all_of (T := T) (C := C) kc F.toFit h6).1 (notIt h6)).pe)
    · exact absurd h Bool.false_ne_true
  | .ret c, C, X, st, F, h => by
    unfold chkS at h
    split at h
    · exact ps_cong (fun ρ => by rw [ex] <;> rfl) (ps_retD ((all_of (T := T) (C := C) c F.toFit h).1 (notIt h)).pe)
    · exact absurd h Bool.false_ne_true
  | .retN, C, X, st, F, h => by
    unfold chkS at h
    split at h
    · exact ps_cong (fun ρ => by rw [ex] <;> rfl) ps_retND
    · exact absurd h Bool.false_ne_true
  | .ife t a b, C, X, st, F, h => by
    unfold chkS at h
    split at h
    · obtain ⟨h1, h⟩ := ba h
      obtain ⟨h2, h3⟩ := ba h
      exact ps_cong (fun ρ => by rw [ex] <;> rfl) (ps_ifD ((all_of (T := T) (C := C) t F.toFit h1).1 (notIt h1)).pt (pss_of a F h2) (pss_of b F h3))
    · exact absurd h Bool.false_ne_true
  | .for_ tg it b, C, X, st, F, h => by
    unfold chkS at h
    split at h
    · obtain ⟨h1, h⟩ := ba h
      obtain ⟨h2, h⟩ := ba h
      obtain ⟨h3, h4⟩ := ba h
      have hi := (all_of (T := T) (C := C) it F.toFit h1).2 (by cases tg <;> simp [mdOf]) _ (fun z => by
        cases tg with
        | nm i => simp [mdOf] at z
        | tp is => exact tup_of_tp h3)
      exact ps_cong (fun ρ => by rw [ex] <;> rfl) (ps_forD F hi h2 (pg_D (C := C) F.store F.K h3) (pss_of b F h4))
    · exact absurd h Bool.false_ne_true
  | .whl t b, C, X, st, F, h => by
    unfold chkS at h
    split at h
    · obtain ⟨h1, h2⟩ := ba h
      exact ps_cong (fun ρ => by rw [ex] <;> rfl) (ps_whlD F ((all_of (T := T) (C := C) t F.toFit h1).1 (notIt h1)).pt (pss_of b F h2))
    · exact absurd h Bool.false_ne_true
  | .exp c, C, X, st, F, h => by
    unfold chkS at h
    split at h
    · obtain ⟨h1, h2⟩ := ba h
      exact ps_cong (fun ρ => by rw [ex] <;> rfl) (ps_expD (bn h1) ((all_of (T := T) (C := C) c F.toFit h2).1 (notIt h2)).pe)
    · exact absurd h Bool.false_ne_true
  | .rse x, C, X, st, F, h => by
    unfold chkS at h
    rw [Bool.or_eq_true] at h
    rcases h with h | h
    · have e0 : x = ("" : Str) := of_decide_eq_true h
      exact ps_cong (fun ρ => by rw [ex]; exact if_neg fun z => z.1 e0) ps_badD
    · split at h
      · obtain ⟨h1, h⟩ := ba h
        obtain ⟨h2, h3⟩ := ba h
        have e1 := of_decide_eq_true h1
        subst e1
        exact ps_cong (fun ρ => by rw [ex] <;> rfl) (ps_rseD F h2 h3)
      · exact absurd h Bool.false_ne_true
  | .appL i c, C, X, st, F, h => by
    unfold chkS at h
    split at h
    · rename_i x px nm apos e cpos pos
      obtain ⟨h0, h⟩ := ba h
      obtain ⟨h1, h⟩ := ba h
      obtain ⟨h2, h⟩ := ba h
      obtain ⟨h3, h⟩ := ba h
      obtain ⟨h4, h⟩ := ba h
      obtain ⟨h5, h6⟩ := ba h
      have e0 : nm = ("append" : Str) := of_decide_eq_true h0
      subst e0
      exact ps_cong (fun ρ => by rw [ex] <;> rfl) (ps_appLD F (of_decide_eq_true h1) h2 h3 h4 h5 ((all_of (T := T) (C := C) c F.toFit h6).1 (notIt h6)).pe)
    · exact absurd h Bool.false_ne_true
  | .ownL i c, C, X, st, F, h => by
    unfold chkS at h
    split at h
    · obtain ⟨h0, h⟩ := ba h
      obtain ⟨h1, h⟩ := ba h
      obtain ⟨h2, h⟩ := ba h
      obtain ⟨h3, h⟩ := ba h
      obtain ⟨h4, h5⟩ := ba h
      have e0 := of_decide_eq_true h0
      subst e0
      exact ps_cong (fun ρ => by rw [ex] <;> rfl) (ps_ownLD F (of_decide_eq_true h2) h3 h1 h4 ((all_of (T := T) (C := C) c F.toFit h5).1 (notIt h5)).pe)
    · exact absurd h Bool.false_ne_true
  | .setO i kc c, C, X, st, F, h => by
    unfold chkS at h
    split at h
    · obtain ⟨h1, h⟩ := ba h
      obtain ⟨h2, h⟩ := ba h
      obtain ⟨h3, h⟩ := ba h
      obtain ⟨h4, h⟩ := ba h
      obtain ⟨h5, h6⟩ := ba h
      exact ps_cong (fun ρ => by rw [ex] <;> rfl) (ps_setOD F (of_decide_eq_true h1) h2 h3 h4 ((all_of (T := T) (C := C) c F.toFit h5).1 (notIt h5)).pe ((all_of (T := T) (C := C) kc F.toFit h6).1 (notIt h6)).pe)
    · exact absurd h Bool.false_ne_true
  | .try_ b hs, C, X, st, F, h => by
    unfold chkS at h
    split at h
    · obtain ⟨h1, h⟩ := ba h
      obtain ⟨h2, h3⟩ := ba h
      exact ps_cong (fun ρ => by rw [ex] <;> rfl) (ps_tryD F h2 fun C' X' F' => pss_of b F' h3)
    · exact absurd h Bool.false_ne_true
  | .pass, C, X, st, F, h => by
    unfold chkS at h
    split at h
    · exact ps_cong (fun ρ => by rw [ex] <;> rfl) ps_passD
    · exact absurd h Bool.false_ne_true
  | .brk, C, X, st, F, h => by
    unfold chkS at h
    split at h
    · exact ps_cong (fun ρ => by rw [ex] <;> rfl) ps_brkD
    · exact absurd h Bool.false_ne_true
  | .cnt, C, X, st, F, h => by
    unfold chkS at h
    split at h
    · exact ps_cong (fun ρ => by rw [ex] <;> rfl) ps_cntD
    · exact absurd h Bool.false_ne_true
theorem pss_of : ∀ (cs : List Sd) {C : Cn} {X : Cx} {sts : List Stmt}, FitS C T N k sc X → chkSs N sc cs sts = true → PSs X sts (tS C (exs T cs))
  | [], C, X, sts, F, h => by
    unfold chkSs at h
    have e : sts = [] := List.isEmpty_iff.mp h
    subst e
    exact pss_cong (fun ρ => by rw [exs] <;> rfl) pss_nilD
  | c :: cs, C, X, sts, F, h => by
    by_cases hz : ∃ i, c = .frz i
    · obtain ⟨i, rfl⟩ := hz
      unfold chkSs at h
      have h : chkSs N sc cs sts = true := h
      exact pss_cong (fun ρ => by rw [exs, ex] <;> rfl) (pss_frzD (i := i) (pss_of cs F h))
    · unfold chkSs at h
      cases sts with
      | nil => cases c <;> first | exact absurd h Bool.false_ne_true | exact absurd ⟨_, rfl⟩ hz
      | cons st sts =>
        have h' : (chkS N sc c st && chkSs N sc cs sts) = true := by
          cases c <;> first | exact h | exact absurd ⟨_, rfl⟩ hz
        obtain ⟨h1, h2⟩ := ba h'
        exact pss_cong (fun ρ => by rw [exs] <;> rfl) (pss_consD (ps_of c F h1) (pss_of cs F h2))
end
end
end PD

set_option Elab.async false
set_option linter.all false
set_option maxRecDepth 100000
set_option maxHeartbeats 16000000
/-! PD23: defs, the table, the law's def. -/
namespace PD
open PySem PySem.Spec L2

theorem map_start {K : PySem.W.Frag} {W : Wd} {H : Hp} : ∀ {ds : List D} {vs : List V} {n : Nat}, RepL K W H ds vs → ∀ (i : Nat) o, (ds.map (fun d => some (Ov.val d)) ++ List.replicate n none)[i]? = some (some o) → ∃ d v, o = .val d ∧ (vs.map some ++ List.replicate n none)[i]? = some (some v) ∧ RepV K W H d v
  | [], vs, n, h, i, o, e => by
    rw [List.map_nil, List.nil_append] at e
    rw [List.getElem?_replicate] at e
    split at e <;> cases e
  | d :: ds, vs, n, h, i, o, e => by
    unfold RepL at h
    obtain ⟨v, r, rfl, h1, h2⟩ := h
    cases i with
    | zero =>
      have e' : o = .val d := by simpa using e.symm
      exact ⟨d, v, e', by simp, h1⟩
    | succ i => exact map_start h2 i o (by simpa using e)
theorem envOk_start {C : Cn} {W : Wd} {H : Hp} {ds : List D} {vs : List V} (n : Nat) (r : RepL C.K W H ds vs) : EnvOk C W H (ds.map (fun d => some (Ov.val d)) ++ List.replicate n none) (vs.map some ++ List.replicate n none) := by
  refine ⟨?_, fun i d e => ?_, fun i xs e => ?_, fun i j xs ys a _ e => ?_⟩
  · rw [List.length_append, List.length_append, List.length_map, List.length_map, List.length_replicate, List.length_replicate, r.length]
  · obtain ⟨d', v, e1, e2, e3⟩ := map_start r i _ e
    cases e1
    exact ⟨v, e2, e3⟩
  · obtain ⟨d', v, e1, _⟩ := map_start r i _ e
    cases e1
  · obtain ⟨d', v, e1, _⟩ := map_start r i _ e
    cases e1
theorem run_bad {T : Tab} {k n : Nat} {b : List Sd} {ds : List D} {s : Sto} (h : ds.length ≠ k) : run T k n b ds s = .bad := by
  unfold run
  rw [show decide (ds.length = k) = false from decide_eq_false h]
  rfl
/-- what the body's run says, by what the def's run says -/
theorem body_run {C : Cn} {T : Tab} {k n : Nat} {b : List Sd} {ds : List D} {s : Sto} {W : Wd} {H : Hp} {Q : VK} (hl : ds.length = k)
    (h : match run T k n b ds s with
      | .ok d s' => ∀ W' H' v, Frm C.W0 W' C.H0 H' → StoOk C.K W' H' s' → RepV C.K W' H' d v → Q v H'
      | .exn e s' => ∀ W' H' c dd, Frm C.W0 W' C.H0 H' → StoOk C.K W' H' s' → ExcOk C.K C.mg W' H' e c dd → ∀ σ, C.Wx c dd σ H'
      | .bad => False) :
    RunS C W H (exs T b (ds.map (fun d => some (.val d)) ++ List.replicate (n - k) none) s) { nx := fun _ H' => Q .non H', rt := Q } := by
  unfold run at h
  rw [show decide (ds.length = k) = true from decide_eq_true hl] at h
  have h' : (match M.bind (noExn (exs T b (ds.map (fun d => some (.val d)) ++ List.replicate (n - k) none))) endM s with
      | .ok d s' => ∀ W' H' v, Frm C.W0 W' C.H0 H' → StoOk C.K W' H' s' → RepV C.K W' H' d v → Q v H'
      | .exn e s' => ∀ W' H' c dd, Frm C.W0 W' C.H0 H' → StoOk C.K W' H' s' → ExcOk C.K C.mg W' H' e c dd → ∀ σ, C.Wx c dd σ H'
      | .bad => False) := h
  unfold M.bind noExn at h'
  cases q : exs T b (ds.map (fun d => some (.val d)) ++ List.replicate (n - k) none) s with
  | ok p s1 =>
    rw [q] at h'
    obtain ⟨f, ρ'⟩ := p
    cases f with
    | nx => exact fun W' H' σ' x y => h' W' H' .non x.fr x.sto (by unfold RepV; rfl)
    | rt d => exact fun W' H' σ' x y v r => h' W' H' v x.fr x.sto r
    | ex e => exact fun W' H' σ' x y c d z => h' W' H' c d x.fr x.sto z σ'
    | bk => exact h'.elim
    | ct => exact h'.elim
  | exn e s1 =>
    rw [q] at h'
    exact h'.elim
  | bad =>
    rw [q] at h'
    exact h'.elim
section
variable {P : Program} {w : World} {K : PySem.W.Frag} {mg : Str → Option Value} {base : Heap} {x qual : Str} {params : Arguments} {body : List Stmt} {scope : Scope} {f : Addr} {fd : FuncData} {N ps : List Str} {k : Nat} {T : Tab} {b : List Sd}
/-- THE RULE of a def -/
theorem fnOk_of (F : FunD K x qual params body scope [] [] f fd) (S : FnScope N ps scope) (TB : TabOk P w K mg base k T) (hc : chkSs N scope b body = true) : FnOk P w K mg base (L2.CX P w) (k + 1) f fd ps (spOf K mg ps.length (run T ps.length N.length b)) := by
  refine F.ok S (fun vs H Q E h => ?_) fun cdv A outer s H vs Q E hr h => ?_
  · obtain ⟨W, s, ds, _, r, hl, _⟩ := h
    rw [r.length, hl]
  · obtain ⟨W, s0, ds, st, r, hl, h⟩ := h
    let C : Cn := ⟨K, mg, W, H, fun c d _ H' => E c d H'⟩
    have FS : FitS C T N k scope (cxOf (L2.CX P w) P w K mg base N qual scope f cdv A outer s H E) := 
      { n := rfl, nd := S.nd, sc := rfl, calm := rfl, room := hr, takes := takes_of rfl rfl rfl rfl, K := rfl, mg := rfl, tab := TB, fn := fun _ => rfl, passes := passes_of rfl, kind := S.kind, stk := rfl, frm := rfl }
    refine ⟨tS C (exs T b), pss_of b FS hc, ?_⟩
    have e0 : L2.start N vs = vs.map some ++ List.replicate (N.length - ps.length) none := by
      unfold L2.start
      rw [r.length, hl]
    rw [e0]
    refine ⟨ds.map (fun d => some (.val d)) ++ List.replicate (N.length - ps.length) none, s0, W, ⟨Frm.refl _ _, st, envOk_start (C := C) _ r⟩, body_run (C := C) hl ?_⟩
    cases q : run T ps.length N.length b ds s0 with
    | ok d s1 => rw [q] at h; exact h
    | exn e s1 => rw [q] at h; exact fun W' H' c dd a b z _ => h W' H' c dd a b z
    | bad => rw [q] at h; exact h
/-- the law's def -/
def spLaw (K : PySem.W.Frag) (m : Nat) : Sp := fun vs H Q _ => ∃ (a : Addr) (ns : List Int), vs = [.ref a] ∧ ns.length ≤ m ∧ Only H ∧ SqL K H a (ns.map V.int) ∧ ∀ H', Q (.bl true) H'
theorem lawOk_of {m : Nat} (F : FunD K x qual params body scope [] [] f fd) (S : FnScope N ps scope) (h1 : ps.length = 1) (TB : TabOk P w K mg base k T) (hc : chkSs N scope b body = true)
    (hb : ∀ ns : List Int, ns.length ≤ m → ∃ s', run T 1 N.length b [.scr ns] [] = .ok (.bl true) s') : FnOk P w K mg base CX0 (k + 1) f fd ps (spLaw K m) := by
  refine F.ok S (fun vs H Q E h => ?_) fun cdv A outer s H vs Q E hr h => ?_
  · obtain ⟨a, ns, rfl, _⟩ := h
    rw [h1]
    rfl
  · obtain ⟨a, ns, rfl, hm, ho, hs, hq⟩ := h
    let W : Wd := ⟨fun c => H c ≠ none, []⟩
    let C : Cn := ⟨K, mg, W, H, fun _ _ _ _ => False⟩
    have FS : FitS C T N k scope (cxOf CX0 P w K mg base N qual scope f cdv A outer s H E).nox := 
      { n := rfl, nd := S.nd, sc := rfl, calm := rfl, room := hr, takes := takes0, K := rfl, mg := rfl, tab := TB, fn := fun _ => rfl, passes := PassesOwn.never, kind := S.kind, stk := rfl, frm := rfl }
    refine ⟨tS C (exs T b), PSs.nox (pss_of b FS hc), ?_⟩
    have rs : RepL K W H [.scr ns] [.ref a] := by
      refine .cons ?_ .nil
      unfold RepV
      refine ⟨a, rfl, ?_⟩
      rcases hs with (q | ⟨o, q⟩) | q
      · rcases ho a with z | ⟨o, xs, z⟩
        · rw [q] at z; cases z
        · rw [q] at z; cases z
      · exact .inl ⟨o, q⟩
      · exact .inr q
    have e0 : L2.start N [.ref a] = [V.ref a].map some ++ List.replicate (N.length - 1) none := rfl
    rw [e0]
    refine ⟨[D.scr ns].map (fun d => some (.val d)) ++ List.replicate (N.length - 1) none, [], W, ⟨Frm.refl _ _, ⟨rfl, List.nodup_nil, fun n c a e => (by simp at e), fun a ha => (by cases ha), fun a z => z⟩, envOk_start (C := C) _ rs⟩, body_run (C := C) (k := 1) rfl ?_⟩
    obtain ⟨s', e⟩ := hb ns hm
    rw [e]
    intro W' H' v _ _ r
    have hv : v = .bl true := by unfold RepV at r; exact r
    rw [hv]
    exact hq H'
/-! ### the table -/
structure DefM where
  name : Str
  np : Nat
  ns : Nat
  body : List Sd
def addT (T : Tab) (d : DefM) : Tab := ⟨fun x => if x = d.name then some (run T d.np d.ns d.body) else T.fn x, T.gl, T.exm⟩
/-- what is asked of the classes of errors -/
def ExOk (K : PySem.W.Frag) (mg : Str → Option Value) (exm : Str → Str → Option Bool) : Prop :=
  (∀ x h b, exm x h = some b → ∃ Cx Ch, mg x = some (.ref Cx) ∧ mg h = some (.ref Ch) ∧ PySem.W.exmOne K (.ref Cx) (.ref Ch) = some b) ∧
  ∀ x, (exm x x).isSome = true → ∃ Cx, mg x = some (.ref Cx) ∧ PySem.W.excIn K Cx veB "ValueError.__new__" = true ∧ PySem.W.keepIn K (.ref Cx) = true ∧ PySem.W.subIn K (.ref Cx) (.type "BaseException") = some true ∧ PySem.W.typeIn K (.ref Cx) = some (.type "type")
theorem ExOk.none : ExOk K mg fun _ _ => Option.none := ⟨fun x h b e => (by cases e), fun x e => (by cases e)⟩
theorem TabOk.nil {gl : Str → Option D} {exm : Str → Str → Option Bool} (hx : ExOk K mg exm) (hg : ∀ x d, gl x = some d → ∃ u v, mg x = some u ∧ RelV v u ∧ ∀ W H, RepV K W H d v) (hb : ∀ x v, boots.lookup x = some v → mg x = none) : TabOk P w K mg base 0 ⟨fun _ => Option.none, gl, exm⟩ :=
  ⟨fun x m e => (by cases e), hg, hb, hx.1, hx.2⟩
theorem TabOk.add {d : DefM} (TB : TabOk P w K mg base k T) (F : FunD K d.name qual params body scope [] [] f fd) (hm : mg d.name = some (.ref f)) (S : FnScope N ps scope) (hb : Binds K fd ps []) (hp : d.np = ps.length) (hn : d.ns = N.length) (hc : chkSs N scope d.body body = true) :
    TabOk P w K mg base (k + 1) (addT T d) := by
  refine ⟨fun x m e => ?_, TB.gl, TB.bi, TB.exm, TB.exc⟩
  by_cases hx : x = d.name
  · subst hx
    have e' : some (run T d.np d.ns d.body) = some m := by
      have e2 : (if d.name = d.name then some (run T d.np d.ns d.body) else T.fn d.name) = some m := e
      rwa [if_pos rfl] at e2
    cases e'
    refine ⟨f, fd, ps, hm, F.kp, hb, ?_, fun ds s hl => run_bad (by rw [hp]; exact hl)⟩
    rw [hp, hn]
    exact fnOk_of F S TB hc
  · have e' : T.fn x = some m := by
      have e2 : (if x = d.name then some (run T d.np d.ns d.body) else T.fn x) = some m := e
      rwa [if_neg hx] at e2
    obtain ⟨f', fd', ps', h1, h2, h3, h4, h5⟩ := TB.fn x m e'
    exact ⟨f', fd', ps', h1, h2, h3, h4.mono (Nat.le_succ k), h5⟩
end
end PD

set_option Elab.async false
set_option linter.all false
set_option maxRecDepth 100000
set_option maxHeartbeats 16000000
/-! PD24: the module's names: texts' tuples, ints. -/
namespace PD
open PySem PySem.Spec PyProof.Rows L2
def GlOk (K : PySem.W.Frag) (mg : Str → Option Value) (x : Str) (d : D) : Prop := ∃ u v, mg x = some u ∧ RelV v u ∧ ∀ W H, RepV K W H d v
section
variable {K : PySem.W.Frag} {h : Heap} {mg : Str → Option Value}
theorem repL_strs (W : Wd) (H : Hp) : ∀ ss : List Str, RepL K W H (ss.map D.str) ((ss.map He.Dv.str).map (He.Dv.v K))
  | [] => .nil
  | x :: r => .cons (by unfold RepV; rfl) (repL_strs W H r)
theorem glTup (X : K.In h) (G : h.Ns mainGlobals mg) {x : Str} {ss : List Str} (c : (He.Fa.glo x).ok K = true) (t : He.tupB K x (ss.map He.Dv.str) = true) : GlOk K mg x (.tup (ss.map D.str)) := by
  refine ⟨_, .ref (He.ga K x), He.glo_ok X G c, rfl, fun W H => ?_⟩
  unfold RepV
  exact ⟨_, _, rfl, He.tupB_ok t H, repL_strs W H ss⟩
theorem glInt (X : K.In h) (G : h.Ns mainGlobals mg) {x : Str} {i : Int} (c : (He.Fa.int x i).ok K = true) : GlOk K mg x (.int i) := by
  obtain ⟨t, e⟩ := He.int_ok X G c
  exact ⟨_, .int i, e, ⟨t, rfl⟩, fun W H => by unfold RepV; rfl⟩
theorem glAll {gl : List (Str × D)} (h : ∀ p ∈ gl, GlOk K mg p.1 p.2) : ∀ x d, gl.lookup x = some d → ∃ u v, mg x = some u ∧ RelV v u ∧ ∀ W H, RepV K W H d v := fun x d e => h (x, d) (PySem.mem_of_lookup e)
theorem mem_look {α β : Type} [BEq α] [LawfulBEq α] {x : α} {b : β} : ∀ {l : List (α × β)}, l.lookup x = some b → (x, b) ∈ l
  | [], h => by cases h
  | (y, c) :: l, h => by
    rw [List.lookup_cons] at h
    cases e : x == y with
    | true =>
      rw [e] at h
      cases h
      rw [eq_of_beq e]
      exact List.mem_cons_self
    | false =>
      rw [e] at h
      exact List.mem_cons_of_mem _ (mem_look h)
theorem exAll (X : K.In h) (G : h.Ns mainGlobals mg) {l : List ((Str × Str) × Bool)} (hx : ∀ p ∈ l, (He.Fa.glo p.1.1).ok K = true ∧ (He.Fa.glo p.1.2).ok K = true ∧ (He.Fa.exm p.1.1 p.1.2 p.2).ok K = true ∧ (p.1.1 = p.1.2 → (He.Fa.exc p.1.1).ok K = true)) : ExOk K mg fun x y => l.lookup (x, y) := by
  refine ⟨fun x y b e => ?_, fun x e => ?_⟩
  · obtain ⟨h1, h2, h3, _⟩ := hx ((x, y), b) (mem_look e)
    exact ⟨_, _, He.glo_ok X G h1, He.glo_ok X G h2, He.exm_ok h3⟩
  · obtain ⟨b, e⟩ := Option.isSome_iff_exists.mp e
    obtain ⟨h1, _, _, h4⟩ := hx ((x, x), b) (mem_look e)
    exact ⟨_, He.glo_ok X G h1, He.exc_ok (h4 rfl)⟩
theorem bootAll (h : ∀ p ∈ boots, mg p.1 = none) : ∀ x v, boots.lookup x = some v → mg x = none := fun x v e => h (x, v) (PySem.mem_of_lookup e)
end
end PD

set_option Elab.async false
set_option linter.all false
set_option maxRecDepth 100000
set_option maxHeartbeats 4000000
/-! PL1: runs of mirrors, step by step; the lots that every law draws. -/
namespace PD
open PySem

def M.at {α : Type} (m : M α) (s : Sto) : Res α := m s
def Res.then {α β : Type} (r : Res α) (f : α → M β) : Res β := match r with
  | .ok a s => (f a).at s
  | .exn e s => .exn e s
  | .bad => .bad
theorem bind_ap {α β : Type} (m : M α) (f : α → M β) (s : Sto) : (m >>= f).at s = (m.at s).then f := rfl
theorem pure_ap {α : Type} (a : α) (s : Sto) : (pure a : M α).at s = .ok a s := rfl
theorem then_ok {α β : Type} (a : α) (s : Sto) (f : α → M β) : (Res.ok a s).then f = (f a).at s := rfl
theorem optM_some {α : Type} (a : α) (s : Sto) : (optM (some a) : M α).at s = .ok a s := rfl
theorem idxM_ap (x y : D) (s : Sto) : (idxM x y).at s = (optM (idxD x y s)).at s := rfl
theorem newM_ap (xs : List D) (s : Sto) : (newM xs).at s = .ok (.loc s.length) (s ++ [.lst xs]) := rfl
theorem chk_true {α : Type} (m : M α) : chk true m = m := rfl
theorem callM_some (g : List D → M D) (ms : M (List D)) : callM (some g) ms = (ms >>= g) := rfl
def Res.tr {α : Type} (ρ : Env') (r : Res α) (k : α → M (Fl × Env')) : Res (Fl × Env') := match r with
  | .ok a s' => (k a).at s'
  | .exn e s' => .ok (.ex e, ρ) s'
  | .bad => .bad
theorem tryS_ap {α : Type} (ρ : Env') (m : M α) (k : α → M (Fl × Env')) (s : Sto) : (tryS ρ m k).at s = (m.at s).tr ρ k := rfl
theorem tr_ok {α : Type} (ρ : Env') (a : α) (s : Sto) (k : α → M (Fl × Env')) : (Res.ok a s).tr ρ k = (k a).at s := rfl
theorem seqK_nx (ρ : Env') (k : Env' → M (Fl × Env')) : seqK (.nx, ρ) k = k ρ := rfl
theorem seqK_rt (d : D) (ρ : Env') (k : Env' → M (Fl × Env')) : seqK (.rt d, ρ) k = pure (.rt d, ρ) := rfl
theorem endM_rt (d : D) (ρ : Env') : endM (.rt d, ρ) = pure d := rfl
theorem endM_nx (ρ : Env') : endM (.nx, ρ) = pure .non := rfl
def Res.nox {α : Type} : Res α → Res α
  | .exn _ _ => .bad
  | r => r
theorem noExn_ap {α : Type} (m : M α) (s : Sto) : (noExn m).at s = (m.at s).nox := by
  show (match m s with
    | .exn _ _ => .bad
    | r => r) = Res.nox (m s)
  cases m s <;> rfl
theorem nox_ok {α : Type} (a : α) (s : Sto) : (Res.ok a s).nox = .ok a s := rfl
theorem itemsM_ap (m : M D) (s : Sto) : (itemsM m).at s = (m.at s).then fun d => optM (itemsD' d) := rfl
theorem bndM_ap (m : M (Option D)) (s : Sto) : (bndM m).at s = (m.at s).then fun x => optM (bndD x) := rfl
theorem mthM_ap (m : Mth) (x : D) (ms : M (List D)) (s : Sto) : (mthM m x ms).at s = (chk (recvOk m x) (ms >>= fun xs => optM (mthD m x xs))).at s := rfl
theorem run_ap (T : Tab) (k n : Nat) (b : List Sd) (args : List D) (s : Sto) (h : args.length = k) : (run T k n b args).at s = ((exs T b (args.map (fun d => some (.val d)) ++ List.replicate (n - k) none)).at s).nox.then endM := by
  unfold run
  rw [show decide (args.length = k) = true from decide_eq_true h, chk_true, bind_ap, noExn_ap]
theorem put_loc (ρ : Env') (n : Nat) (j : Int) (x : D) (s : Sto) : (putM ρ (some (.loc n)) (.int j) x).at s = (match setSto s n j x with
    | some s' => .ok (.nx, ρ) s'
    | none => .bad) := rfl

theorem idx_lst (xs : List D) (i : Int) (s : Sto) : idxD (.lst xs) (.int i) s = if xs.length ≤ line then L2.atI xs i else none := rfl
theorem idx_tup (xs : List D) (i : Int) (s : Sto) : idxD (.tup xs) (.int i) s = if xs.length ≤ line then L2.atI xs i else none := rfl
theorem idx_loc (n : Nat) (i : Int) (s : Sto) : idxD (.loc n) (.int i) s = (s[n]?).bind fun c => match c with | .lst xs => L2.atI xs i := by
  show (match s[n]? with | some (.lst xs) => L2.atI xs i | _ => none) = _
  cases s[n]? with
  | none => rfl
  | some c => cases c; rfl
theorem idx_dct (ks : List Str) (vs : List D) (k : Str) (s : Sto) : idxD (.dct ks vs) (.str k) s = lookS k ks vs := rfl
theorem cmp_lt (i j : Int) : cmpD .lt (.int i) (.int j) = some (.bl (decide (i < j))) := rfl
theorem cmp_le (i j : Int) : cmpD .le (.int i) (.int j) = some (.bl (decide (i ≤ j))) := rfl
theorem cmp_gt (i j : Int) : cmpD .gt (.int i) (.int j) = some (.bl (decide (j < i))) := rfl
theorem cmp_ge (i j : Int) : cmpD .ge (.int i) (.int j) = some (.bl (decide (j ≤ i))) := rfl
theorem cmp_eq (x y : D) : cmpD .eq x y = (eqD x y).map .bl := by cases x <;> cases y <;> rfl
theorem cmp_ne (x y : D) : cmpD .ne x y = (eqD x y).map fun b => .bl !b := by cases x <;> cases y <;> rfl
theorem cmp_in (x y : D) : cmpD .in_ x y = (inD x y).map .bl := by cases x <;> cases y <;> rfl
theorem cmp_notIn (x y : D) : cmpD .notIn x y = (inD x y).map fun b => .bl !b := by cases x <;> cases y <;> rfl
theorem cmp_isN (x : D) : cmpD .isN x .non = some (.bl (isNonD x)) := by cases x <;> rfl
theorem cmp_notN (x : D) : cmpD .notN x .non = some (.bl (!isNonD x)) := by cases x <;> rfl
theorem eq_int (i j : Int) : eqD (.int i) (.int j) = some (decide (i = j)) := rfl
theorem eq_str (i j : Str) : eqD (.str i) (.str j) = some (decide (i = j)) := rfl
theorem eq_bl (i j : Bool) : eqD (.bl i) (.bl j) = some (decide (i = j)) := rfl
theorem eq_lst (i j : List D) : eqD (.lst i) (.lst j) = if shaped (.lst i) && shaped (.lst j) then some (eqv (.lst i) (.lst j)) else none := rfl
theorem eq_tup (i j : List D) : eqD (.tup i) (.tup j) = if shaped (.tup i) && shaped (.tup j) then some (eqv (.tup i) (.tup j)) else none := rfl
theorem add_int (i j : Int) : binD .add (.int i) (.int j) = some (.int (i + j)) := rfl
theorem sub_int (i j : Int) : binD .sub (.int i) (.int j) = some (.int (i - j)) := rfl
theorem mul_int (i j : Int) : binD .mul (.int i) (.int j) = if small64 i || small64 j then some (.int (i * j)) else none := rfl
theorem fdiv_int (i j : Int) : binD .fdiv (.int i) (.int j) = if j ≠ 0 ∧ j.natAbs < 1073741824 then some (.int (i.fdiv j)) else none := rfl
theorem mod_int (i j : Int) : binD .mod (.int i) (.int j) = if j ≠ 0 then some (.int (i.fmod j)) else none := rfl
theorem pow_int (i j : Int) : binD .pow (.int i) (.int j) = if 0 ≤ j ∧ j ≤ 1000000 ∧ i.natAbs < 2 ^ 64 then some (.int (i ^ j.toNat)) else none := rfl
theorem add_str (a b : Str) : binD .add (.str a) (.str b) = if a.length + b.length ≤ line then some (.str (a ++ b)) else none := rfl
theorem add_lst (a b : List D) : binD .add (.lst a) (.lst b) = if a.length + b.length ≤ line then some (.lst (a ++ b)) else none := rfl
theorem add_tup (a b : List D) : binD .add (.tup a) (.tup b) = if a.length + b.length ≤ line then some (.tup (a ++ b)) else none := rfl
theorem add_scr (a : List D) (b : List Int) : binD .add (.lst a) (.scr b) = if a.length + b.length ≤ line then some (.lst (a ++ b.map .int)) else none := rfl
theorem asB_bl (b : Bool) : asB (.bl b) = some b := rfl
theorem asInt_int (i : Int) : asInt (.int i) = some i := rfl
theorem bif_len_l (xs : List D) : bifD .len [.lst xs] = some (.int xs.length) := rfl
theorem bif_len_t (xs : List D) : bifD .len [.tup xs] = some (.int xs.length) := rfl
theorem bif_tuple_l (xs : List D) : bifD .tuple [.lst xs] = some (.tup xs) := rfl
theorem bif_tuple_t (xs : List D) : bifD .tuple [.tup xs] = some (.tup xs) := rfl
theorem bif_list_l (xs : List D) : bifD .list [.lst xs] = some (.lst xs) := rfl
theorem bif_list_t (xs : List D) : bifD .list [.tup xs] = some (.lst xs) := rfl
theorem bif_all (xs : List D) : bifD .all [.lst xs] = (asBools xs).map fun bs => .bl (bs.all id) := rfl
theorem bif_any (xs : List D) : bifD .any [.lst xs] = (asBools xs).map fun bs => .bl (bs.any id) := rfl
theorem bif_int_i (i : Int) : bifD .int [.int i] = some (.int i) := rfl
theorem bif_int_b (i : Bool) : bifD .int [.bl i] = some (.int (if i then 1 else 0)) := rfl
theorem bif_str_i (i : Int) : bifD .str [.int i] = if i.natAbs < 2 ^ 64 then some (.str (toString i)) else none := rfl
theorem bif_str_s (i : Str) : bifD .str [.str i] = some (.str i) := rfl
theorem slc_l (xs : List D) (lo hi : Option Int) : slcD (.lst xs) lo hi = some (.lst (cutD xs lo hi)) := rfl
theorem slc_t (xs : List D) (lo hi : Option Int) : slcD (.tup xs) lo hi = some (.tup (cutD xs lo hi)) := rfl
theorem bnd_n : bndD none = some none := rfl
theorem bnd_i (i : Int) : bndD (some (.int i)) = some (some i) := rfl
theorem its_l (xs : List D) : itemsD' (.lst xs) = some xs := rfl
theorem its_t (xs : List D) : itemsD' (.tup xs) = some xs := rfl
theorem bindT_nm (i : Nat) (d : D) (ρ : Env') : bindT (.nm i) d ρ = some (setV ρ i d) := rfl
theorem bindT_tp (is : List Nat) (ds : List D) (ρ : Env') : bindT (.tp is) (.tup ds) ρ = bindTs is ds ρ := rfl
theorem isi_bool_non  : isiD .bool (.non) = some false := rfl
theorem isi_bool_bl (b : Bool) : isiD .bool (.bl b) = some true := rfl
theorem isi_bool_int (b : Int) : isiD .bool (.int b) = some false := rfl
theorem isi_bool_str (b : Str) : isiD .bool (.str b) = some false := rfl
theorem isi_bool_tup (b : List D) : isiD .bool (.tup b) = some false := rfl
theorem isi_bool_lst (b : List D) : isiD .bool (.lst b) = some false := rfl
theorem isi_int_non  : isiD .int (.non) = some false := rfl
theorem isi_int_bl (b : Bool) : isiD .int (.bl b) = some true := rfl
theorem isi_int_int (b : Int) : isiD .int (.int b) = some true := rfl
theorem isi_int_str (b : Str) : isiD .int (.str b) = some false := rfl
theorem isi_int_tup (b : List D) : isiD .int (.tup b) = some false := rfl
theorem isi_int_lst (b : List D) : isiD .int (.lst b) = some false := rfl
theorem isi_str_non  : isiD .str (.non) = some false := rfl
theorem isi_str_bl (b : Bool) : isiD .str (.bl b) = some false := rfl
theorem isi_str_int (b : Int) : isiD .str (.int b) = some false := rfl
theorem isi_str_str (b : Str) : isiD .str (.str b) = some true := rfl
theorem isi_str_tup (b : List D) : isiD .str (.tup b) = some false := rfl
theorem isi_str_lst (b : List D) : isiD .str (.lst b) = some false := rfl
theorem isi_tuple_non  : isiD .tuple (.non) = some false := rfl
theorem isi_tuple_bl (b : Bool) : isiD .tuple (.bl b) = some false := rfl
theorem isi_tuple_int (b : Int) : isiD .tuple (.int b) = some false := rfl
theorem isi_tuple_str (b : Str) : isiD .tuple (.str b) = some false := rfl
theorem isi_tuple_tup (b : List D) : isiD .tuple (.tup b) = some true := rfl
theorem isi_tuple_lst (b : List D) : isiD .tuple (.lst b) = some false := rfl
theorem isi_list_non  : isiD .list (.non) = some false := rfl
theorem isi_list_bl (b : Bool) : isiD .list (.bl b) = some false := rfl
theorem isi_list_int (b : Int) : isiD .list (.int b) = some false := rfl
theorem isi_list_str (b : Str) : isiD .list (.str b) = some false := rfl
theorem isi_list_tup (b : List D) : isiD .list (.tup b) = some false := rfl
theorem isi_list_lst (b : List D) : isiD .list (.lst b) = some true := rfl
def lcB (T : Tab) (tg : Tg) (t : Option Cd) (e : Cd) (ρ : Env') : D → M (Option D) := lcF tg (fun ρ => evt T t ρ) (fun ρ => ev T e ρ) ρ
def lcK (T : Tab) (tg : Tg) (t : Option Cd) (e : Cd) (ρ : Env') (xs : List D) : M D := noExn (lcM (lcB T tg t e ρ) xs) >>= fun ys => chk (decide (xs.length ≤ line)) (pure (.lst ys))
theorem lcK_ap (T : Tab) (tg : Tg) (t : Option Cd) (e : Cd) (ρ : Env') (xs : List D) (s : Sto) : (lcK T tg t e ρ xs).at s = ((lcM (lcB T tg t e ρ) xs).at s).nox.then fun ys => chk (decide (xs.length ≤ line)) (pure (.lst ys)) := by
  unfold lcK
  rw [bind_ap, noExn_ap]
theorem lcB_ap (T : Tab) (tg : Tg) (t : Option Cd) (e : Cd) (ρ : Env') (x : D) (s : Sto) : (lcB T tg t e ρ x).at s = ((optM (bindT tg x ρ)).at s).then fun ρ' => evt T t ρ' >>= fun b => if b then ev T e ρ' >>= fun y => pure (some y) else pure none := rfl
def forB (T : Tab) (tg : Tg) (b : List Sd) : D → Env' → M (Fl × Env') := fun x ρ => optM (bindT tg x ρ) >>= fun ρ' => exs T b ρ'
theorem forB_ap (T : Tab) (tg : Tg) (b : List Sd) (x : D) (ρ : Env') (s : Sto) : (forB T tg b x ρ).at s = ((optM (bindT tg x ρ)).at s).then fun ρ' => exs T b ρ' := rfl
section
variable (T : Tab) (ρ : Env') (s : Sto)
theorem at_var (i : Nat) : (ev T (.var i) ρ).at s = (optM (getV ρ i)).at s := by
  unfold M.at
  rw [ev] <;> rfl
theorem at_glob (x : Str) : (ev T (.glob x) ρ).at s = (optM (T.gl x)).at s := by
  unfold M.at
  rw [ev] <;> rfl
theorem at_cI (i : Int) : (ev T (.cI i) ρ).at s = .ok (.int i) s := by
  unfold M.at
  rw [ev] <;> rfl
theorem at_cS (i : Str) : (ev T (.cS i) ρ).at s = .ok (.str i) s := by
  unfold M.at
  rw [ev] <;> rfl
theorem at_cB (i : Bool) : (ev T (.cB i) ρ).at s = .ok (.bl i) s := by
  unfold M.at
  rw [ev] <;> rfl
theorem at_cN  : (ev T (.cN) ρ).at s = .ok .non s := by
  unfold M.at
  rw [ev] <;> rfl
theorem at_tup (es : List Cd) : (ev T (.tup es) ρ).at s = ((evs T es ρ).at s).then fun xs => pure (.tup xs) := by
  unfold M.at
  rw [ev] <;> rfl
theorem at_lst (es : List Cd) : (ev T (.lst es) ρ).at s = ((evs T es ρ).at s).then fun xs => pure (.lst xs) := by
  unfold M.at
  rw [ev] <;> rfl
theorem at_loc (es : List Cd) : (ev T (.loc es) ρ).at s = ((evs T es ρ).at s).then fun xs => newM xs := by
  unfold M.at
  rw [ev] <;> rfl
theorem at_dct (ks : List Str) (es : List Cd) : (ev T (.dct ks es) ρ).at s = ((evs T es ρ).at s).then fun xs => pure (.dct ks xs) := by
  unfold M.at
  rw [ev] <;> rfl
theorem at_bin (op : BOp) (a b : Cd) : (ev T (.bin op a b) ρ).at s = ((ev T a ρ).at s).then fun x => ev T b ρ >>= fun y => optM (binD op x y) := by
  unfold M.at
  rw [ev] <;> rfl
theorem at_cmp (op : COp) (a b : Cd) : (ev T (.cmp op a b) ρ).at s = ((ev T a ρ).at s).then fun x => ev T b ρ >>= fun y => optM (cmpD op x y) := by
  unfold M.at
  rw [ev] <;> rfl
theorem at_chain (p q : COp) (a b c : Cd) : (ev T (.chain p q a b c) ρ).at s = ((ev T a ρ).at s).then fun x => ev T b ρ >>= fun y => optM ((cmpD p x y).bind asB) >>= fun r => if r then (ev T c ρ >>= fun z => optM (cmpD q y z)) else pure (.bl false) := by
  unfold M.at
  rw [ev] <;> rfl
theorem at_and (a b : Cd) : (ev T (.and a b) ρ).at s = ((ev T a ρ).at s).then fun x => optM (asB x) >>= fun r => if r then ev T b ρ else pure (.bl false) := by
  unfold M.at
  rw [ev] <;> rfl
theorem at_or (a b : Cd) : (ev T (.or a b) ρ).at s = ((ev T a ρ).at s).then fun x => optM (asB x) >>= fun r => if r then pure (.bl true) else ev T b ρ := by
  unfold M.at
  rw [ev] <;> rfl
theorem at_not (a : Cd) : (ev T (.not a) ρ).at s = ((ev T a ρ).at s).then fun x => optM (asB x) >>= fun r => pure (.bl !r) := by
  unfold M.at
  rw [ev] <;> rfl
theorem at_ife (t a b : Cd) : (ev T (.ife t a b) ρ).at s = ((ev T t ρ).at s).then fun x => optM (asB x) >>= fun r => if r then ev T a ρ else ev T b ρ := by
  unfold M.at
  rw [ev] <;> rfl
theorem at_idx (a i : Cd) : (ev T (.idx a i) ρ).at s = ((ev T a ρ).at s).then fun x => ev T i ρ >>= fun y => idxM x y := by
  unfold M.at
  rw [ev] <;> rfl
theorem at_slc (a : Cd) (lo hi : Option Cd) : (ev T (.slc a lo hi) ρ).at s = ((ev T a ρ).at s).then fun x => bndM (evo T lo ρ) >>= fun l => bndM (evo T hi ρ) >>= fun h => optM (slcD x l h) := by
  unfold M.at
  rw [ev] <;> rfl
theorem at_neg (a : Cd) : (ev T (.neg a) ρ).at s = ((ev T a ρ).at s).then fun x => optM ((asInt x).map fun i => .int (-i)) := by
  unfold M.at
  rw [ev] <;> rfl
theorem at_isi (t : Ty) (a : Cd) : (ev T (.isi t a) ρ).at s = ((ev T a ρ).at s).then fun x => optM ((isiD t x).map .bl) := by
  unfold M.at
  rw [ev] <;> rfl
theorem at_call (x : Str) (es : List Cd) : (ev T (.call x es) ρ).at s = (callM (T.fn x) (evs T es ρ)).at s := by
  unfold M.at
  rw [ev] <;> rfl
theorem at_bif (f : Bif) (es : List Cd) : (ev T (.bif f es) ρ).at s = ((evs T es ρ).at s).then fun xs => optM (bifD f xs) := by
  unfold M.at
  rw [ev] <;> rfl
theorem at_mth (m : Mth) (a : Cd) (es : List Cd) : (ev T (.mth m a es) ρ).at s = ((ev T a ρ).at s).then fun x => mthM m x (evs T es ρ) := by
  unfold M.at
  rw [ev] <;> rfl
theorem at_lc (tg : Tg) (it : Cd) (t : Option Cd) (e : Cd) : (ev T (.lc tg it t e) ρ).at s = ((itemsM (ev T it ρ)).at s).then fun xs => lcK T tg t e ρ xs := by
  unfold M.at
  rw [ev] <;> rfl
theorem at_lc2 (tg : Tg) (it : Cd) (tg2 : Tg) (it2 : Cd) (e : Cd) : (ev T (.lc2 tg it tg2 it2 e) ρ).at s = (lc2E tg tg2 (fun ρ => itemsM (ev T it ρ)) (fun ρ => itemsM (ev T it2 ρ)) (fun ρ => ev T e ρ) ρ).at s := by
  unfold M.at
  rw [ev] <;> rfl
theorem at_rng1 (a : Cd) : (ev T (.rng1 a) ρ).at s = ((ev T a ρ).at s).then fun x => optM (asInt x) >>= fun j => chk (okB j) (pure (.lst (rangeD 0 j))) := by
  unfold M.at
  rw [ev] <;> rfl
theorem at_rng2 (a b : Cd) : (ev T (.rng2 a b) ρ).at s = ((ev T a ρ).at s).then fun x => ev T b ρ >>= fun y => optM (asInt x) >>= fun i => optM (asInt y) >>= fun j => chk (okB i && okB j) (pure (.lst (rangeD i j))) := by
  unfold M.at
  rw [ev] <;> rfl
theorem at_lrng (a b : Cd) : (ev T (.lrng a b) ρ).at s = ((ev T a ρ).at s).then fun x => ev T b ρ >>= fun y => optM (asInt x) >>= fun i => optM (asInt y) >>= fun j => chk (okB i && okB j && decide ((j - i).toNat ≤ line)) (pure (.lst (rangeD i j))) := by
  unfold M.at
  rw [ev] <;> rfl
theorem at_zip (es : List Cd) : (ev T (.zip es) ρ).at s = ((evs T es ρ).at s).then fun xs => optM (itemsAll xs) >>= fun ls => optM (zipD ls) >>= fun r => pure (.lst r) := by
  unfold M.at
  rw [ev] <;> rfl
theorem at_enum (a : Cd) : (ev T (.enum a) ρ).at s = ((ev T a ρ).at s).then fun x => optM (lstD x) >>= fun xs => pure (.lst (enumFrom 0 xs)) := by
  unfold M.at
  rw [ev] <;> rfl
theorem at_nil  : (evs T [] ρ).at s = .ok [] s := by
  unfold M.at
  rw [evs] <;> rfl
theorem at_cons (e : Cd) (es : List Cd) : (evs T (e :: es) ρ).at s = ((ev T e ρ).at s).then fun x => evs T es ρ >>= fun xs => pure (x :: xs) := by
  unfold M.at
  rw [evs] <;> rfl
theorem at_onone  : (evo T none ρ).at s = .ok none s := by
  unfold M.at
  rw [evo] <;> rfl
theorem at_osome (e : Cd) : (evo T (some e) ρ).at s = ((ev T e ρ).at s).then fun x => pure (some x) := by
  unfold M.at
  rw [evo] <;> rfl
theorem at_tnone  : (evt T none ρ).at s = .ok true s := by
  unfold M.at
  rw [evt] <;> rfl
theorem at_tsome (e : Cd) : (evt T (some e) ρ).at s = ((ev T e ρ).at s).then fun x => optM (asB x) := by
  unfold M.at
  rw [evt] <;> rfl
theorem at_onil  : (evOs T [] [] ρ).at s = .ok [] s := by
  unfold M.at
  rw [evOs] <;> rfl
theorem at_ocons (os : List Bool) (e : Cd) (es : List Cd) : (evOs T (false :: os) (e :: es) ρ).at s = ((ev T e ρ).at s).then fun x => evOs T os es ρ >>= fun xs => pure (.val x :: xs) := by
  unfold M.at
  rw [evOs] <;> rfl
theorem at_oown (os : List Bool) (e : List Cd) (es : List Cd) : (evOs T (true :: os) (.lst e :: es) ρ).at s = ((evs T e ρ).at s).then fun x => evOs T os es ρ >>= fun xs => pure (.own x :: xs) := by
  unfold M.at
  rw [evOs] <;> rfl
theorem at_asg (tg : Tg) (e : Cd) : (ex T (.asg tg e) ρ).at s = ((ev T e ρ).at s).tr ρ fun x => optM (bindT tg x ρ) >>= fun ρ' => pure (.nx, ρ') := by
  unfold M.at
  rw [ex] <;> rfl
theorem at_par (is : List Nat) (os : List Bool) (es : List Cd) : (ex T (.par is os es) ρ).at s = ((evOs T os es ρ).at s).tr ρ fun xs => optM (bindOs is xs ρ) >>= fun ρ' => pure (.nx, ρ') := by
  unfold M.at
  rw [ex] <;> rfl
theorem at_cat (i j : Nat) (e : Cd) : (ex T (.cat i j e) ρ).at s = (chk (lookL ρ j).isSome (tryS ρ (ev T e ρ) fun y => optM (catO ρ i j y) >>= fun ρ' => pure (.nx, ρ'))).at s := by
  unfold M.at
  rw [ex] <;> rfl
theorem at_own (i : Nat) (es : List Cd) : (ex T (.own i es) ρ).at s = ((evs T es ρ).at s).tr ρ fun xs => chk (decide (i < ρ.length)) (pure (.nx, ρ.set i (some (.own xs)))) := by
  unfold M.at
  rw [ex] <;> rfl
theorem at_frz (i : Nat) : (ex T (.frz i) ρ).at s = ((optM (frzM ρ i)).at s).then fun ρ' => pure (.nx, ρ') := by
  unfold M.at
  rw [ex] <;> rfl
theorem at_app (i : Nat) (e : Cd) : (ex T (.app i e) ρ).at s = (chk (isOwn ρ i) (tryS ρ (ev T e ρ) fun x => appM ρ i x)).at s := by
  unfold M.at
  rw [ex] <;> rfl
theorem at_set (i : Nat) (k e : Cd) : (ex T (.set i k e) ρ).at s = (chk (getV ρ i).isSome (tryS ρ (ev T e ρ) fun x => tryS ρ (ev T k ρ) fun y => putM ρ (getV ρ i) y x)).at s := by
  unfold M.at
  rw [ex] <;> rfl
theorem at_ret (e : Cd) : (ex T (.ret e) ρ).at s = ((ev T e ρ).at s).tr ρ fun x => pure (.rt x, ρ) := by
  unfold M.at
  rw [ex] <;> rfl
theorem at_retN  : (ex T (.retN) ρ).at s = .ok (.rt .non, ρ) s := by
  unfold M.at
  rw [ex] <;> rfl
theorem at_if (t : Cd) (a b : List Sd) : (ex T (.ife t a b) ρ).at s = (((ev T t ρ).at s).then fun x => optM (asB x)).tr ρ fun r => if r then exs T a ρ else exs T b ρ := by
  unfold M.at
  rw [ex] <;> rfl
theorem at_for (tg : Tg) (it : Cd) (b : List Sd) : (ex T (.for_ tg it b) ρ).at s = ((itemsM (ev T it ρ)).at s).tr ρ fun xs => forM' (forB T tg b) xs ρ := by
  unfold M.at
  rw [ex] <;> rfl
theorem at_whl (t : Cd) (b : List Sd) : (ex T (.whl t b) ρ).at s = (whlM (fun ρ => ev T t ρ >>= fun x => optM (asB x)) (fun ρ => exs T b ρ) bigN ρ).at s := by
  unfold M.at
  rw [ex] <;> rfl
theorem at_exp (e : Cd) : (ex T (.exp e) ρ).at s = ((ev T e ρ).at s).tr ρ fun _ => pure (.nx, ρ) := by
  unfold M.at
  rw [ex] <;> rfl
theorem at_pass  : (ex T (.pass) ρ).at s = .ok (.nx, ρ) s := by
  unfold M.at
  rw [ex] <;> rfl
theorem at_brk  : (ex T (.brk) ρ).at s = .ok (.bk, ρ) s := by
  unfold M.at
  rw [ex] <;> rfl
theorem at_cnt  : (ex T (.cnt) ρ).at s = .ok (.ct, ρ) s := by
  unfold M.at
  rw [ex] <;> rfl
theorem at_snil  : (exs T [] ρ).at s = .ok (.nx, ρ) s := by
  unfold M.at
  rw [exs] <;> rfl
theorem at_scons (c : Sd) (r : List Sd) : (exs T (c :: r) ρ).at s = ((ex T c ρ).at s).then fun p => seqK p (exs T r) := by
  unfold M.at
  rw [exs] <;> rfl
end
/-- the urn n: two ints -/
structure Urn (s : Sto) (n : Nat) (a b : Int) : Prop where
  at_ : s[n]? = some (.lst [.int a, .int b])
  a0 : 0 ≤ a
  b0 : 0 ≤ b
  b1 : b < 2147483629
def bLot : List Sd := [.ife (.cmp .gt (.idx (.var 0) (.cI 0)) (.cI 0)) [.asg (.nm 2) (.bin .mod (.bif .int [.idx (.var 0) (.cI 0)]) (.var 1)), .set 0 (.cI 0) (.bin .fdiv (.idx (.var 0) (.cI 0)) (.var 1)), .ret (.var 2)] [], .set 0 (.cI 1) (.bin .mod (.bif .int [.bin .add (.bin .mul (.idx (.var 0) (.cI 1)) (.cI 742938)) (.cI 46337)]) (.cI 2147483629)), .asg (.nm 3) (.bin .mod (.bif .int [.bin .mul (.idx (.var 0) (.cI 1)) (.bin .add (.idx (.var 0) (.cI 1)) (.cI 101))]) (.cI 2147483587)), .ret (.bin .mod (.bif .int [.bin .fdiv (.var 3) (.cI 677)]) (.var 1))]
theorem lot_first (T : Tab) {s : Sto} {n : Nat} {a b m : Int} (u : Urn s n a b) (ha : 0 < a) (hm : 0 < m) (hm2 : m < 1000000) :
    (run T 2 4 bLot [.loc n, .int m]).at s = .ok (.int (a.fmod m)) (s.set n (.lst [.int (a.fdiv m), .int b])) := by
  rw [run_ap T 2 4 bLot [.loc n, .int m] s rfl]
  have h1 := u.at_
  have h2 : ¬ m = 0 := by omega
  have h3 : m.natAbs < 1073741824 := by omega
  simp [bLot, ↓at_var, ↓at_glob, ↓at_cI, ↓at_cS, ↓at_cB, ↓at_cN, ↓at_tup, ↓at_lst, ↓at_loc, ↓at_dct, ↓at_bin, ↓at_cmp, ↓at_chain, ↓at_and, ↓at_or, ↓at_not, ↓at_ife, ↓at_idx, ↓at_slc, ↓at_neg, ↓at_isi, ↓at_call, ↓at_bif, ↓at_mth, ↓at_lc, ↓at_lc2, ↓at_rng1, ↓at_rng2, ↓at_lrng, ↓at_zip, ↓at_enum, ↓at_nil, ↓at_cons, ↓at_onone, ↓at_osome, ↓at_tnone, ↓at_tsome, ↓at_onil, ↓at_ocons, ↓at_oown, ↓at_asg, ↓at_par, ↓at_cat, ↓at_own, ↓at_frz, ↓at_app, ↓at_set, ↓at_ret, ↓at_retN, ↓at_if, ↓at_for, ↓at_whl, ↓at_exp, ↓at_pass, ↓at_brk, ↓at_cnt, ↓at_snil, ↓at_scons, ↓lcK_ap, ↓lcB_ap, ↓forB_ap, bindOs, idxM_ap, newM_ap, nox_ok, put_loc, ↓noExn_ap, ↓bind_ap, pure_ap, then_ok, ↓tryS_ap, tr_ok, optM_some, chk_true, callM_some, seqK_nx, seqK_rt, endM_rt, endM_nx, ↓itemsM_ap, ↓bndM_ap, ↓mthM_ap, getV, setV, idx_lst, idx_tup, idx_loc, idx_dct, cmp_lt, cmp_le, cmp_gt, cmp_ge, cmp_eq, cmp_ne, cmp_in, cmp_notIn, cmp_isN, cmp_notN, eq_int, eq_str, eq_bl, eq_lst, eq_tup, add_int, sub_int, mul_int, fdiv_int, mod_int, pow_int, add_str, add_lst, add_tup, add_scr, asB_bl, asInt_int, bif_len_l, bif_len_t, bif_tuple_l, bif_tuple_t, bif_list_l, bif_list_t, bif_all, bif_any, bif_int_i, bif_int_b, bif_str_i, bif_str_s, slc_l, slc_t, bnd_n, bnd_i, its_l, its_t, bindT_nm, bindT_tp, isi_bool_non, isi_bool_bl, isi_bool_int, isi_bool_str, isi_bool_tup, isi_bool_lst, isi_int_non, isi_int_bl, isi_int_int, isi_int_str, isi_int_tup, isi_int_lst, isi_str_non, isi_str_bl, isi_str_int, isi_str_str, isi_str_tup, isi_str_lst, isi_tuple_non, isi_tuple_bl, isi_tuple_int, isi_tuple_str, isi_tuple_tup, isi_tuple_lst, isi_list_non, isi_list_bl, isi_list_int, isi_list_str, isi_list_tup, isi_list_lst, h1, L2.atI, L2.ixN, ha, h2, h3, setSto]
theorem urn_set {s : Sto} {n : Nat} {a b a' b' : Int} (u : Urn s n a b) (h1 : 0 ≤ a') (h2 : 0 ≤ b') (h3 : b' < 2147483629) : Urn (s.set n (.lst [.int a', .int b'])) n a' b' := by
  refine ⟨?_, h1, h2, h3⟩
  have hl : n < s.length := (List.getElem?_eq_some_iff.mp u.at_).1
  simp [hl]
def nxt (b : Int) : Int := (b * 742938 + 46337).fmod 2147483629
def wide (b : Int) : Int := (b * (b + 101)).fmod 2147483587
theorem fmod_bd (x : Int) {m : Int} (h : 0 < m) : 0 ≤ x.fmod m ∧ x.fmod m < m := ⟨Int.fmod_nonneg_of_pos x h, Int.fmod_lt_of_pos x h⟩
theorem fdiv_nn {x m : Int} (h : 0 ≤ x) (hm : 0 < m) : 0 ≤ x.fdiv m := Int.fdiv_nonneg h (Int.le_of_lt hm)
theorem lot_rest (T : Tab) {s : Sto} {n : Nat} {a b m : Int} (u : Urn s n a b) (ha : ¬ 0 < a) (hm : 0 < m) (hm2 : m < 1000000) :
    (run T 2 4 bLot [.loc n, .int m]).at s = .ok (.int (((wide (nxt b)).fdiv 677).fmod m)) (s.set n (.lst [.int a, .int (nxt b)])) := by
  rw [run_ap T 2 4 bLot [.loc n, .int m] s rfl]
  have h1 := u.at_
  have h2 : ¬ m = 0 := by omega
  have hl : n < s.length := (List.getElem?_eq_some_iff.mp u.at_).1
  have b1 := u.b0
  have b2 := u.b1
  have sm : small64 b = true := by
    unfold small64
    simp only [Bool.and_eq_true, decide_eq_true_eq]
    omega
  obtain ⟨c1, c2⟩ := fmod_bd (b * 742938 + 46337) (show (0 : Int) < 2147483629 by decide)
  have sm2 : small64 (nxt b) = true := by
    unfold small64 nxt
    simp only [Bool.and_eq_true, decide_eq_true_eq]
    omega
  unfold nxt at sm2
  have hg : s[n] = .lst [.int a, .int b] := by
    have q := h1
    rw [List.getElem?_eq_getElem hl] at q
    exact Option.some.inj q
  simp [bLot, ↓at_var, ↓at_glob, ↓at_cI, ↓at_cS, ↓at_cB, ↓at_cN, ↓at_tup, ↓at_lst, ↓at_loc, ↓at_dct, ↓at_bin, ↓at_cmp, ↓at_chain, ↓at_and, ↓at_or, ↓at_not, ↓at_ife, ↓at_idx, ↓at_slc, ↓at_neg, ↓at_isi, ↓at_call, ↓at_bif, ↓at_mth, ↓at_lc, ↓at_lc2, ↓at_rng1, ↓at_rng2, ↓at_lrng, ↓at_zip, ↓at_enum, ↓at_nil, ↓at_cons, ↓at_onone, ↓at_osome, ↓at_tnone, ↓at_tsome, ↓at_onil, ↓at_ocons, ↓at_oown, ↓at_asg, ↓at_par, ↓at_cat, ↓at_own, ↓at_frz, ↓at_app, ↓at_set, ↓at_ret, ↓at_retN, ↓at_if, ↓at_for, ↓at_whl, ↓at_exp, ↓at_pass, ↓at_brk, ↓at_cnt, ↓at_snil, ↓at_scons, ↓lcK_ap, ↓lcB_ap, ↓forB_ap, bindOs, idxM_ap, newM_ap, nox_ok, put_loc, ↓noExn_ap, ↓bind_ap, pure_ap, then_ok, ↓tryS_ap, tr_ok, optM_some, chk_true, callM_some, seqK_nx, seqK_rt, endM_rt, endM_nx, ↓itemsM_ap, ↓bndM_ap, ↓mthM_ap, getV, setV, idx_lst, idx_tup, idx_loc, idx_dct, cmp_lt, cmp_le, cmp_gt, cmp_ge, cmp_eq, cmp_ne, cmp_in, cmp_notIn, cmp_isN, cmp_notN, eq_int, eq_str, eq_bl, eq_lst, eq_tup, add_int, sub_int, mul_int, fdiv_int, mod_int, pow_int, add_str, add_lst, add_tup, add_scr, asB_bl, asInt_int, bif_len_l, bif_len_t, bif_tuple_l, bif_tuple_t, bif_list_l, bif_list_t, bif_all, bif_any, bif_int_i, bif_int_b, bif_str_i, bif_str_s, slc_l, slc_t, bnd_n, bnd_i, its_l, its_t, bindT_nm, bindT_tp, isi_bool_non, isi_bool_bl, isi_bool_int, isi_bool_str, isi_bool_tup, isi_bool_lst, isi_int_non, isi_int_bl, isi_int_int, isi_int_str, isi_int_tup, isi_int_lst, isi_str_non, isi_str_bl, isi_str_int, isi_str_str, isi_str_tup, isi_str_lst, isi_tuple_non, isi_tuple_bl, isi_tuple_int, isi_tuple_str, isi_tuple_tup, isi_tuple_lst, isi_list_non, isi_list_bl, isi_list_int, isi_list_str, isi_list_tup, isi_list_lst, hg, L2.atI, L2.ixN, ha, h2, setSto, sm, sm2, hl, nxt, wide]
/-- there is an urn at n -/
def UrnS (s : Sto) (n : Nat) : Prop := ∃ a b, Urn s n a b
/-- a lot is drawn -/
theorem lot_ok (T : Tab) {s : Sto} {n : Nat} {m : Int} (u : UrnS s n) (hm : 0 < m) (hm2 : m < 1000000) : ∃ r s', (run T 2 4 bLot [.loc n, .int m]).at s = .ok (.int r) s' ∧ 0 ≤ r ∧ r < m ∧ UrnS s' n ∧ s'.length = s.length := by
  obtain ⟨a, b, u⟩ := u
  by_cases ha : 0 < a
  · obtain ⟨c1, c2⟩ := fmod_bd a hm
    exact ⟨_, _, lot_first T u ha hm hm2, c1, c2, ⟨_, _, urn_set u (fdiv_nn u.a0 hm) u.b0 u.b1⟩, by simp⟩
  · obtain ⟨c1, c2⟩ := fmod_bd ((wide (nxt b)).fdiv 677) hm
    obtain ⟨d1, d2⟩ := fmod_bd (b * 742938 + 46337) (show (0 : Int) < 2147483629 by decide)
    exact ⟨_, _, lot_rest T u ha hm hm2, c1, c2, ⟨_, _, urn_set u u.a0 d1 d2⟩, by simp⟩
def bUrn : List Sd := [.asg (.nm 2) (.ife (.cmp .ge (.var 0) (.bin .pow (.cI 10) (.cI 18))) (.bin .fdiv (.var 0) (.cI 3)) (.cI 0)), .ret (.loc [.var 2, .bin .add (.bin .mod (.bif .int [.bin .add (.bin .mul (.var 0) (.cI 29)) (.bin .mul (.cI 7001) (.var 1))]) (.cI 2038074743)) (.cI 3)])]
theorem urn_ok (T : Tab) (s : Sto) (c k : Int) : ∃ s', (run T 2 3 bUrn [.int c, .int k]).at s = .ok (.loc s.length) s' ∧ UrnS s' s.length ∧ s'.length = s.length + 1 := by
  obtain ⟨d1, d2⟩ := fmod_bd (c * 29 + 7001 * k) (show (0 : Int) < 2038074743 by decide)
  by_cases hc : 1000000000000000000 ≤ c
  · refine ⟨s ++ [.lst [.int (c.fdiv 3), .int ((c * 29 + 7001 * k).fmod 2038074743 + 3)]], ?_, ⟨c.fdiv 3, (c * 29 + 7001 * k).fmod 2038074743 + 3, ⟨by simp, fdiv_nn (by omega) (by decide), by omega, by omega⟩⟩, by simp⟩
    rw [run_ap T 2 3 bUrn [.int c, .int k] s rfl]
    simp [bUrn, ↓at_var, ↓at_glob, ↓at_cI, ↓at_cS, ↓at_cB, ↓at_cN, ↓at_tup, ↓at_lst, ↓at_loc, ↓at_dct, ↓at_bin, ↓at_cmp, ↓at_chain, ↓at_and, ↓at_or, ↓at_not, ↓at_ife, ↓at_idx, ↓at_slc, ↓at_neg, ↓at_isi, ↓at_call, ↓at_bif, ↓at_mth, ↓at_lc, ↓at_lc2, ↓at_rng1, ↓at_rng2, ↓at_lrng, ↓at_zip, ↓at_enum, ↓at_nil, ↓at_cons, ↓at_onone, ↓at_osome, ↓at_tnone, ↓at_tsome, ↓at_onil, ↓at_ocons, ↓at_oown, ↓at_asg, ↓at_par, ↓at_cat, ↓at_own, ↓at_frz, ↓at_app, ↓at_set, ↓at_ret, ↓at_retN, ↓at_if, ↓at_for, ↓at_whl, ↓at_exp, ↓at_pass, ↓at_brk, ↓at_cnt, ↓at_snil, ↓at_scons, ↓lcK_ap, ↓lcB_ap, ↓forB_ap, bindOs, idxM_ap, newM_ap, nox_ok, put_loc, ↓noExn_ap, ↓bind_ap, pure_ap, then_ok, ↓tryS_ap, tr_ok, optM_some, chk_true, callM_some, seqK_nx, seqK_rt, endM_rt, endM_nx, ↓itemsM_ap, ↓bndM_ap, ↓mthM_ap, getV, setV, idx_lst, idx_tup, idx_loc, idx_dct, cmp_lt, cmp_le, cmp_gt, cmp_ge, cmp_eq, cmp_ne, cmp_in, cmp_notIn, cmp_isN, cmp_notN, eq_int, eq_str, eq_bl, eq_lst, eq_tup, add_int, sub_int, mul_int, fdiv_int, mod_int, pow_int, add_str, add_lst, add_tup, add_scr, asB_bl, asInt_int, bif_len_l, bif_len_t, bif_tuple_l, bif_tuple_t, bif_list_l, bif_list_t, bif_all, bif_any, bif_int_i, bif_int_b, bif_str_i, bif_str_s, slc_l, slc_t, bnd_n, bnd_i, its_l, its_t, bindT_nm, bindT_tp, isi_bool_non, isi_bool_bl, isi_bool_int, isi_bool_str, isi_bool_tup, isi_bool_lst, isi_int_non, isi_int_bl, isi_int_int, isi_int_str, isi_int_tup, isi_int_lst, isi_str_non, isi_str_bl, isi_str_int, isi_str_str, isi_str_tup, isi_str_lst, isi_tuple_non, isi_tuple_bl, isi_tuple_int, isi_tuple_str, isi_tuple_tup, isi_tuple_lst, isi_list_non, isi_list_bl, isi_list_int, isi_list_str, isi_list_tup, isi_list_lst, hc, small64]
  · refine ⟨s ++ [.lst [.int 0, .int ((c * 29 + 7001 * k).fmod 2038074743 + 3)]], ?_, ⟨0, (c * 29 + 7001 * k).fmod 2038074743 + 3, ⟨by simp, by omega, by omega, by omega⟩⟩, by simp⟩
    rw [run_ap T 2 3 bUrn [.int c, .int k] s rfl]
    simp [bUrn, ↓at_var, ↓at_glob, ↓at_cI, ↓at_cS, ↓at_cB, ↓at_cN, ↓at_tup, ↓at_lst, ↓at_loc, ↓at_dct, ↓at_bin, ↓at_cmp, ↓at_chain, ↓at_and, ↓at_or, ↓at_not, ↓at_ife, ↓at_idx, ↓at_slc, ↓at_neg, ↓at_isi, ↓at_call, ↓at_bif, ↓at_mth, ↓at_lc, ↓at_lc2, ↓at_rng1, ↓at_rng2, ↓at_lrng, ↓at_zip, ↓at_enum, ↓at_nil, ↓at_cons, ↓at_onone, ↓at_osome, ↓at_tnone, ↓at_tsome, ↓at_onil, ↓at_ocons, ↓at_oown, ↓at_asg, ↓at_par, ↓at_cat, ↓at_own, ↓at_frz, ↓at_app, ↓at_set, ↓at_ret, ↓at_retN, ↓at_if, ↓at_for, ↓at_whl, ↓at_exp, ↓at_pass, ↓at_brk, ↓at_cnt, ↓at_snil, ↓at_scons, ↓lcK_ap, ↓lcB_ap, ↓forB_ap, bindOs, idxM_ap, newM_ap, nox_ok, put_loc, ↓noExn_ap, ↓bind_ap, pure_ap, then_ok, ↓tryS_ap, tr_ok, optM_some, chk_true, callM_some, seqK_nx, seqK_rt, endM_rt, endM_nx, ↓itemsM_ap, ↓bndM_ap, ↓mthM_ap, getV, setV, idx_lst, idx_tup, idx_loc, idx_dct, cmp_lt, cmp_le, cmp_gt, cmp_ge, cmp_eq, cmp_ne, cmp_in, cmp_notIn, cmp_isN, cmp_notN, eq_int, eq_str, eq_bl, eq_lst, eq_tup, add_int, sub_int, mul_int, fdiv_int, mod_int, pow_int, add_str, add_lst, add_tup, add_scr, asB_bl, asInt_int, bif_len_l, bif_len_t, bif_tuple_l, bif_tuple_t, bif_list_l, bif_list_t, bif_all, bif_any, bif_int_i, bif_int_b, bif_str_i, bif_str_s, slc_l, slc_t, bnd_n, bnd_i, its_l, its_t, bindT_nm, bindT_tp, isi_bool_non, isi_bool_bl, isi_bool_int, isi_bool_str, isi_bool_tup, isi_bool_lst, isi_int_non, isi_int_bl, isi_int_int, isi_int_str, isi_int_tup, isi_int_lst, isi_str_non, isi_str_bl, isi_str_int, isi_str_str, isi_str_tup, isi_str_lst, isi_tuple_non, isi_tuple_bl, isi_tuple_int, isi_tuple_str, isi_tuple_tup, isi_tuple_lst, isi_list_non, isi_list_bl, isi_list_int, isi_list_str, isi_list_tup, isi_list_lst, hc, small64]
def bAny : List Sd := [.ret (.idx (.var 1) (.call "_law_lot" [.var 0, .bif .len [.var 1]]))]
theorem any_ok {T : Tab} {T' : Tab} (ht : T.fn "_law_lot" = some (run T' 2 4 bLot)) {s : Sto} {n : Nat} (u : UrnS s n) {xs : List D} (h0 : xs ≠ []) (hx : xs.length < 1000000) : ∃ d s', (run T 2 2 bAny [.loc n, .lst xs]).at s = .ok d s' ∧ d ∈ xs ∧ UrnS s' n ∧ s'.length = s.length := by
  have hp : 0 < xs.length := List.length_pos_iff.mpr h0
  obtain ⟨r, s', e, r0, r1, u', l'⟩ := lot_ok T' (m := xs.length) u (by omega) (by omega)
  have hr : r.toNat < xs.length := by omega
  refine ⟨xs[r.toNat], s', ?_, List.getElem_mem hr, u', l'⟩
  rw [run_ap T 2 2 bAny [.loc n, .lst xs] s rfl]
  have hl : xs.length ≤ line := by unfold line; omega
  have r2 : r < (xs.length : Int) := r1
  simp [bAny, ↓at_var, ↓at_glob, ↓at_cI, ↓at_cS, ↓at_cB, ↓at_cN, ↓at_tup, ↓at_lst, ↓at_loc, ↓at_dct, ↓at_bin, ↓at_cmp, ↓at_chain, ↓at_and, ↓at_or, ↓at_not, ↓at_ife, ↓at_idx, ↓at_slc, ↓at_neg, ↓at_isi, ↓at_call, ↓at_bif, ↓at_mth, ↓at_lc, ↓at_lc2, ↓at_rng1, ↓at_rng2, ↓at_lrng, ↓at_zip, ↓at_enum, ↓at_nil, ↓at_cons, ↓at_onone, ↓at_osome, ↓at_tnone, ↓at_tsome, ↓at_onil, ↓at_ocons, ↓at_oown, ↓at_asg, ↓at_par, ↓at_cat, ↓at_own, ↓at_frz, ↓at_app, ↓at_set, ↓at_ret, ↓at_retN, ↓at_if, ↓at_for, ↓at_whl, ↓at_exp, ↓at_pass, ↓at_brk, ↓at_cnt, ↓at_snil, ↓at_scons, ↓lcK_ap, ↓lcB_ap, ↓forB_ap, bindOs, idxM_ap, newM_ap, nox_ok, put_loc, ↓noExn_ap, ↓bind_ap, pure_ap, then_ok, ↓tryS_ap, tr_ok, optM_some, chk_true, callM_some, seqK_nx, seqK_rt, endM_rt, endM_nx, ↓itemsM_ap, ↓bndM_ap, ↓mthM_ap, getV, setV, idx_lst, idx_tup, idx_loc, idx_dct, cmp_lt, cmp_le, cmp_gt, cmp_ge, cmp_eq, cmp_ne, cmp_in, cmp_notIn, cmp_isN, cmp_notN, eq_int, eq_str, eq_bl, eq_lst, eq_tup, add_int, sub_int, mul_int, fdiv_int, mod_int, pow_int, add_str, add_lst, add_tup, add_scr, asB_bl, asInt_int, bif_len_l, bif_len_t, bif_tuple_l, bif_tuple_t, bif_list_l, bif_list_t, bif_all, bif_any, bif_int_i, bif_int_b, bif_str_i, bif_str_s, slc_l, slc_t, bnd_n, bnd_i, its_l, its_t, bindT_nm, bindT_tp, isi_bool_non, isi_bool_bl, isi_bool_int, isi_bool_str, isi_bool_tup, isi_bool_lst, isi_int_non, isi_int_bl, isi_int_int, isi_int_str, isi_int_tup, isi_int_lst, isi_str_non, isi_str_bl, isi_str_int, isi_str_str, isi_str_tup, isi_str_lst, isi_tuple_non, isi_tuple_bl, isi_tuple_int, isi_tuple_str, isi_tuple_tup, isi_tuple_lst, isi_list_non, isi_list_bl, isi_list_int, isi_list_str, isi_list_tup, isi_list_lst, ht, e, hl, L2.atI, L2.ixN, r0, r2, hr]
end PD

set_option Elab.async false
set_option linter.all false
set_option maxRecDepth 100000
set_option maxHeartbeats 4000000
/-! PL2: walks; drawn rules, events, histories. -/
namespace PD
open PySem

inductive All2 {α β : Type} (R : α → β → Prop) : List α → List β → Prop where
  | nil : All2 R [] []
  | cons {a : α} {b : β} {as : List α} {bs : List β} : R a b → All2 R as bs → All2 R (a :: as) (b :: bs)
theorem All2.length {α β : Type} {R : α → β → Prop} : ∀ {as : List α} {bs : List β}, All2 R as bs → bs.length = as.length
  | _, _, .nil => rfl
  | _, _, .cons _ t => by rw [List.length_cons, List.length_cons, t.length]
theorem lcM_cons (f : D → M (Option D)) (x : D) (r : List D) (s : Sto) : (lcM f (x :: r)).at s = ((f x).at s).then fun y => lcM f r >>= fun ys => pure (match y with
      | some v => v :: ys
      | none => ys) := rfl
theorem lcM_nil (f : D → M (Option D)) (s : Sto) : (lcM f []).at s = .ok [] s := rfl
/-- a comprehension that draws -/
theorem lcM_draw {f : D → M (Option D)} {I : Sto → Prop} {R : D → D → Prop} : ∀ {xs : List D}, (∀ x ∈ xs, ∀ s, I s → ∃ y s', (f x).at s = .ok (some y) s' ∧ R x y ∧ I s') → ∀ s, I s → ∃ ys s', (lcM f xs).at s = .ok ys s' ∧ All2 R xs ys ∧ I s'
  | [], _, s, i => ⟨[], s, rfl, .nil, i⟩
  | x :: r, h, s, i => by
    obtain ⟨y, s1, e1, r1, i1⟩ := h x List.mem_cons_self s i
    obtain ⟨ys, s2, e2, r2, i2⟩ := lcM_draw (fun z hz => h z (List.mem_cons_of_mem _ hz)) s1 i1
    refine ⟨y :: ys, s2, ?_, .cons r1 r2, i2⟩
    rw [lcM_cons, e1, then_ok, bind_ap, e2, then_ok]
    rfl
/-- a comprehension that reads only -/
theorem lcM_map {f : D → M (Option D)} {g : D → Option D} {s : Sto} : ∀ {xs : List D}, (∀ x ∈ xs, (f x).at s = .ok (g x) s) → (lcM f xs).at s = .ok (xs.filterMap g) s
  | [], _ => rfl
  | x :: r, h => by
    rw [lcM_cons, h x List.mem_cons_self, then_ok, bind_ap, lcM_map fun z hz => h z (List.mem_cons_of_mem _ hz), then_ok, List.filterMap_cons]
    cases g x <;> rfl
theorem forM_cons (f : D → Env' → M (Fl × Env')) (x : D) (r : List D) (ρ : Env') (s : Sto) : (forM' f (x :: r) ρ).at s = ((f x ρ).at s).then fun p => forK p (forM' f r) := rfl
theorem forM_nil (f : D → Env' → M (Fl × Env')) (ρ : Env') (s : Sto) : (forM' f [] ρ).at s = .ok (.nx, ρ) s := rfl
theorem forK_nx (ρ : Env') (k : Env' → M (Fl × Env')) : forK (.nx, ρ) k = k ρ := rfl
theorem forK_rt (d : D) (ρ : Env') (k : Env' → M (Fl × Env')) : forK (.rt d, ρ) k = pure (.rt d, ρ) := rfl
/-- a loop by a word of what is still to come -/
theorem forM_inv {f : D → Env' → M (Fl × Env')} (I : List D → Env' → Sto → Prop) (h : ∀ x r ρ s, I (x :: r) ρ s → ∃ ρ' s', (f x ρ).at s = .ok (.nx, ρ') s' ∧ I r ρ' s') : ∀ xs ρ s, I xs ρ s → ∃ ρ' s', (forM' f xs ρ).at s = .ok (.nx, ρ') s' ∧ I [] ρ' s'
  | [], ρ, s, i => ⟨ρ, s, rfl, i⟩
  | x :: r, ρ, s, i => by
    obtain ⟨ρ1, s1, e1, i1⟩ := h x r ρ s i
    obtain ⟨ρ2, s2, e2, i2⟩ := forM_inv I h r ρ1 s1 i1
    refine ⟨ρ2, s2, ?_, i2⟩
    rw [forM_cons, e1, then_ok, forK_nx, e2]
/-! ### what every law draws -/
def bVls : List Sd := [.asg (.nm 0) (.lst [.lst [.cI 2, .cI 3], .lst [.cS "next", .cS "own", .cS "refuse"], .lst [.cS "counter", .cS "refuse", .cS "strike"], .lst [.cS "given", .cS "now"], .lst [.cS "given", .cS "now"]]), .ret (.bin .add (.var 0) (.lst [.lst [.cS "any", .cS "chief", .cS "two"], .lst [.cB false, .cB true], .lst [.cS "chief", .cS "never", .cS "void"], .lst [.cB false, .cB true]]))]
def bRule : List Sd := [.ret (.bin .add (.tup [.var 1]) (.bif .tuple [.lc (.nm 2) (.slc (.call "_law_values" []) (some (.cI 1)) none) none (.call "_law_any" [.var 0, .var 2])]))]
def bEvent : List Sd := [.asg (.nm 2) (.lst [.cS "enter", .cS "enter", .cS "take", .cS "move", .cS "close", .cS "close", .cS "close", .cS "open", .cS "give", .cS "give", .cS "give", .cS "on"]), .asg (.nm 3) (.call "_law_any" [.var 0, .var 2]), .par [4, 5] [false, false] [.call "_law_any" [.var 0, .lst [.cS "chief", .cS "clerk"]], .bin .add (.cI 1) (.call "_law_lot" [.var 0, .var 1])], .ife (.cmp .eq (.var 3) (.cS "on")) [.ret (.tup [.cS "on"])] [], .ife (.cmp .eq (.var 3) (.cS "give")) [.ret (.tup [.cS "give", .var 5])] [], .ret (.ife (.cmp .eq (.var 3) (.cS "take")) (.tup [.cS "take", .var 4]) (.tup [.var 3, .var 4, .var 5]))]
def bHist : List Sd := [.ret (.bif .tuple [.lc (.nm 3) (.rng1 (.call "_law_lot" [.var 0, .bin .add (.var 2) (.cI 1)])) none (.call "_law_event" [.var 0, .var 1])])]
def Lot (T : Tab) : Prop := ∃ T1, T.fn "_law_lot" = some (run T1 2 4 bLot)
def Any (T : Tab) : Prop := ∃ T1, T.fn "_law_any" = some (run T1 2 2 bAny) ∧ Lot T1
def Vls (T : Tab) : Prop := ∃ T1, T.fn "_law_values" = some (run T1 0 1 bVls)
theorem Lot.draw {T : Tab} (h : Lot T) {s : Sto} {n : Nat} {m : Int} (u : UrnS s n) (hm : 0 < m) (hm2 : m < 1000000) : ∃ f, T.fn "_law_lot" = some f ∧ ∃ r s', (f [.loc n, .int m]).at s = .ok (.int r) s' ∧ 0 ≤ r ∧ r < m ∧ UrnS s' n ∧ s'.length = s.length := by
  obtain ⟨T1, e⟩ := h
  exact ⟨_, e, lot_ok T1 u hm hm2⟩
theorem Any.draw {T : Tab} (h : Any T) {s : Sto} {n : Nat} (u : UrnS s n) {xs : List D} (h0 : xs ≠ []) (hx : xs.length < 1000000) : ∃ f, T.fn "_law_any" = some f ∧ ∃ d s', (f [.loc n, .lst xs]).at s = .ok d s' ∧ d ∈ xs ∧ UrnS s' n ∧ s'.length = s.length := by
  obtain ⟨T1, e, T2, e2⟩ := h
  exact ⟨_, e, any_ok e2 u h0 hx⟩
def valsL : List (List D) := [[.str "next", .str "own", .str "refuse"], [.str "counter", .str "refuse", .str "strike"], [.str "given", .str "now"], [.str "given", .str "now"], [.str "any", .str "chief", .str "two"], [.bl false, .bl true], [.str "chief", .str "never", .str "void"], [.bl false, .bl true]]
theorem vls_ok (T : Tab) (s : Sto) : (run T 0 1 bVls []).at s = .ok (.lst (.lst [.int 2, .int 3] :: valsL.map .lst)) s := by
  kernel_rfl
/-- a rule of p periods -/
def IsRule (p : Int) (d : D) : Prop := ∃ ys, d = .tup (.int p :: ys) ∧ All2 (fun xs y => y ∈ xs) valsL ys
theorem rule_ok {T : Tab} (hA : Any T) (hV : Vls T) {s : Sto} {n : Nat} (u : UrnS s n) (p : Int) : ∃ d s', (run T 2 3 bRule [.loc n, .int p]).at s = .ok d s' ∧ IsRule p d ∧ UrnS s' n ∧ s'.length = s.length := by
  obtain ⟨T1, eV⟩ := hV
  have key := lcM_draw (f := lcB T (.nm 2) none (.call "_law_any" [.var 0, .var 2]) [some (.val (.loc n)), some (.val (.int p)), none]) (I := fun s' => UrnS s' n ∧ s'.length = s.length) (R := fun x y => ∃ xs, x = .lst xs ∧ y ∈ xs) (xs := valsL.map .lst)
    (fun x hx s1 ⟨u1, l1⟩ => by
      obtain ⟨xs, hxs, rfl⟩ := List.mem_map.mp hx
      have h0 : xs ≠ [] ∧ xs.length < 1000000 := by
        simp only [valsL, List.mem_cons, List.not_mem_nil, or_false] at hxs
        rcases hxs with rfl | rfl | rfl | rfl | rfl | rfl | rfl | rfl <;> exact ⟨List.cons_ne_nil _ _, by simp⟩
      obtain ⟨f, e1, d, s2, e2, m, u2, l2⟩ := hA.draw u1 h0.1 h0.2
      refine ⟨d, s2, ?_, ⟨xs, rfl, m⟩, u2, by rw [l2, l1]⟩
      simp [↓at_var, ↓at_glob, ↓at_cI, ↓at_cS, ↓at_cB, ↓at_cN, ↓at_tup, ↓at_lst, ↓at_loc, ↓at_dct, ↓at_bin, ↓at_cmp, ↓at_chain, ↓at_and, ↓at_or, ↓at_not, ↓at_ife, ↓at_idx, ↓at_slc, ↓at_neg, ↓at_isi, ↓at_call, ↓at_bif, ↓at_mth, ↓at_lc, ↓at_lc2, ↓at_rng1, ↓at_rng2, ↓at_lrng, ↓at_zip, ↓at_enum, ↓at_nil, ↓at_cons, ↓at_onone, ↓at_osome, ↓at_tnone, ↓at_tsome, ↓at_onil, ↓at_ocons, ↓at_oown, ↓at_asg, ↓at_par, ↓at_cat, ↓at_own, ↓at_frz, ↓at_app, ↓at_set, ↓at_ret, ↓at_retN, ↓at_if, ↓at_for, ↓at_whl, ↓at_exp, ↓at_pass, ↓at_brk, ↓at_cnt, ↓at_snil, ↓at_scons, ↓lcK_ap, ↓lcB_ap, ↓forB_ap, bindOs, idxM_ap, newM_ap, nox_ok, put_loc, ↓noExn_ap, ↓bind_ap, pure_ap, then_ok, ↓tryS_ap, tr_ok, optM_some, chk_true, callM_some, seqK_nx, seqK_rt, endM_rt, endM_nx, ↓itemsM_ap, ↓bndM_ap, ↓mthM_ap, getV, setV, idx_lst, idx_tup, idx_loc, idx_dct, cmp_lt, cmp_le, cmp_gt, cmp_ge, cmp_eq, cmp_ne, cmp_in, cmp_notIn, cmp_isN, cmp_notN, eq_int, eq_str, eq_bl, eq_lst, eq_tup, add_int, sub_int, mul_int, fdiv_int, mod_int, pow_int, add_str, add_lst, add_tup, add_scr, asB_bl, asInt_int, bif_len_l, bif_len_t, bif_tuple_l, bif_tuple_t, bif_list_l, bif_list_t, bif_all, bif_any, bif_int_i, bif_int_b, bif_str_i, bif_str_s, slc_l, slc_t, bnd_n, bnd_i, its_l, its_t, bindT_nm, bindT_tp, isi_bool_non, isi_bool_bl, isi_bool_int, isi_bool_str, isi_bool_tup, isi_bool_lst, isi_int_non, isi_int_bl, isi_int_int, isi_int_str, isi_int_tup, isi_int_lst, isi_str_non, isi_str_bl, isi_str_int, isi_str_str, isi_str_tup, isi_str_lst, isi_tuple_non, isi_tuple_bl, isi_tuple_int, isi_tuple_str, isi_tuple_tup, isi_tuple_lst, isi_list_non, isi_list_bl, isi_list_int, isi_list_str, isi_list_tup, isi_list_lst, e1, e2]) s ⟨u, rfl⟩
  obtain ⟨ys, s', e, r, u', l'⟩ := key
  have r2 : All2 (fun xs y => y ∈ xs) valsL ys := by
    have gen : ∀ (vs : List (List D)) (ys : List D), All2 (fun x y => ∃ xs, x = D.lst xs ∧ y ∈ xs) (vs.map .lst) ys → All2 (fun xs y => y ∈ xs) vs ys := by
      intro vs
      induction vs with
      | nil => intro ys h; cases h; exact .nil
      | cons v vs ih =>
        intro ys h
        cases h with
        | cons a b =>
          obtain ⟨xs, q, m⟩ := a
          cases q
          exact .cons m (ih _ b)
    exact gen _ _ r
  refine ⟨.tup (.int p :: ys), s', ?_, ⟨ys, rfl, r2⟩, u', l'⟩
  rw [run_ap T 2 3 bRule [.loc n, .int p] s rfl]
  have cut : cutD (.lst [.int 2, .int 3] :: valsL.map .lst) (some 1) none = valsL.map .lst := by kernel_rfl
  have hl : ys.length = 8 := r2.length
  have hl2 : valsL.length ≤ 16777216 := by decide
  simp [bRule, ↓at_var, ↓at_glob, ↓at_cI, ↓at_cS, ↓at_cB, ↓at_cN, ↓at_tup, ↓at_lst, ↓at_loc, ↓at_dct, ↓at_bin, ↓at_cmp, ↓at_chain, ↓at_and, ↓at_or, ↓at_not, ↓at_ife, ↓at_idx, ↓at_slc, ↓at_neg, ↓at_isi, ↓at_call, ↓at_bif, ↓at_mth, ↓at_lc, ↓at_lc2, ↓at_rng1, ↓at_rng2, ↓at_lrng, ↓at_zip, ↓at_enum, ↓at_nil, ↓at_cons, ↓at_onone, ↓at_osome, ↓at_tnone, ↓at_tsome, ↓at_onil, ↓at_ocons, ↓at_oown, ↓at_asg, ↓at_par, ↓at_cat, ↓at_own, ↓at_frz, ↓at_app, ↓at_set, ↓at_ret, ↓at_retN, ↓at_if, ↓at_for, ↓at_whl, ↓at_exp, ↓at_pass, ↓at_brk, ↓at_cnt, ↓at_snil, ↓at_scons, ↓lcK_ap, ↓lcB_ap, ↓forB_ap, bindOs, idxM_ap, newM_ap, nox_ok, put_loc, ↓noExn_ap, ↓bind_ap, pure_ap, then_ok, ↓tryS_ap, tr_ok, optM_some, chk_true, callM_some, seqK_nx, seqK_rt, endM_rt, endM_nx, ↓itemsM_ap, ↓bndM_ap, ↓mthM_ap, getV, setV, idx_lst, idx_tup, idx_loc, idx_dct, cmp_lt, cmp_le, cmp_gt, cmp_ge, cmp_eq, cmp_ne, cmp_in, cmp_notIn, cmp_isN, cmp_notN, eq_int, eq_str, eq_bl, eq_lst, eq_tup, add_int, sub_int, mul_int, fdiv_int, mod_int, pow_int, add_str, add_lst, add_tup, add_scr, asB_bl, asInt_int, bif_len_l, bif_len_t, bif_tuple_l, bif_tuple_t, bif_list_l, bif_list_t, bif_all, bif_any, bif_int_i, bif_int_b, bif_str_i, bif_str_s, slc_l, slc_t, bnd_n, bnd_i, its_l, its_t, bindT_nm, bindT_tp, isi_bool_non, isi_bool_bl, isi_bool_int, isi_bool_str, isi_bool_tup, isi_bool_lst, isi_int_non, isi_int_bl, isi_int_int, isi_int_str, isi_int_tup, isi_int_lst, isi_str_non, isi_str_bl, isi_str_int, isi_str_str, isi_str_tup, isi_str_lst, isi_tuple_non, isi_tuple_bl, isi_tuple_int, isi_tuple_str, isi_tuple_tup, isi_tuple_lst, isi_list_non, isi_list_bl, isi_list_int, isi_list_str, isi_list_tup, isi_list_lst, eV, vls_ok, cut, e, hl2, hl, line]
/-- an event of at most p periods -/
def evsL (p : Int) (d : D) : Prop := d = .tup [.str "on"] ∨ (∃ k, 1 ≤ k ∧ k ≤ p ∧ d = .tup [.str "give", .int k]) ∨ (∃ w : Str, (w = "chief" ∨ w = "clerk") ∧ d = .tup [.str "take", .str w]) ∨
  ∃ (a w : Str) (k : Int), (a = "close" ∨ a = "enter" ∨ a = "move" ∨ a = "open") ∧ (w = "chief" ∨ w = "clerk") ∧ 1 ≤ k ∧ k ≤ p ∧ d = .tup [.str a, .str w, .int k]
theorem event_ok {T : Tab} (hA : Any T) (hL : Lot T) {s : Sto} {n : Nat} (u : UrnS s n) {p : Int} (h0 : 0 < p) (h1 : p < 1000) : ∃ d s', (run T 2 6 bEvent [.loc n, .int p]).at s = .ok d s' ∧ evsL p d ∧ UrnS s' n ∧ s'.length = s.length := by
  obtain ⟨f, e1, w, s1, e2, m, u1, l1⟩ := hA.draw u (xs := [.str "enter", .str "enter", .str "take", .str "move", .str "close", .str "close", .str "close", .str "open", .str "give", .str "give", .str "give", .str "on"]) (List.cons_ne_nil _ _) (by simp)
  obtain ⟨f', e1', who, s2, e3, m2, u2, l2⟩ := hA.draw u1 (xs := [.str "chief", .str "clerk"]) (List.cons_ne_nil _ _) (by simp)
  rw [e1] at e1'
  cases e1'
  obtain ⟨g, e4, r, s3, e5, r0, r1, u3, l3⟩ := hL.draw u2 h0 (by omega)
  have b : ∀ d, (run T 2 6 bEvent [.loc n, .int p]).at s = .ok d s3 → evsL p d → ∃ d s', (run T 2 6 bEvent [.loc n, .int p]).at s = .ok d s' ∧ evsL p d ∧ UrnS s' n ∧ s'.length = s.length := fun d h q => ⟨d, s3, h, q, u3, by rw [l3, l2, l1]⟩
  have who' : ∃ x, who = .str x ∧ (x = "chief" ∨ x = "clerk") := by
    simp only [List.mem_cons, List.not_mem_nil, or_false] at m2
    rcases m2 with rfl | rfl
    · exact ⟨_, rfl, .inl rfl⟩
    · exact ⟨_, rfl, .inr rfl⟩
  obtain ⟨x, rfl, hx⟩ := who'
  have start : ∀ d, (∀ y : Str, w = .str y → ((exs T [.ife (.cmp .eq (.var 3) (.cS "on")) [.ret (.tup [.cS "on"])] [], .ife (.cmp .eq (.var 3) (.cS "give")) [.ret (.tup [.cS "give", .var 5])] [], .ret (.ife (.cmp .eq (.var 3) (.cS "take")) (.tup [.cS "take", .var 4]) (.tup [.var 3, .var 4, .var 5]))]
      [some (.val (.loc n)), some (.val (.int p)), some (.val (.lst [.str "enter", .str "enter", .str "take", .str "move", .str "close", .str "close", .str "close", .str "open", .str "give", .str "give", .str "give", .str "on"])), some (.val (.str y)), some (.val (.str x)), some (.val (.int (1 + r)))]).at s3).nox.then endM = .ok d s3) →
      (∃ y, w = .str y) → (run T 2 6 bEvent [.loc n, .int p]).at s = .ok d s3 := fun d h ⟨y, hy⟩ => by
    subst hy
    rw [← h y rfl, run_ap T 2 6 bEvent [.loc n, .int p] s rfl]
    simp [bEvent, ↓at_var, ↓at_glob, ↓at_cI, ↓at_cS, ↓at_cB, ↓at_cN, ↓at_tup, ↓at_lst, ↓at_loc, ↓at_dct, ↓at_bin, ↓at_cmp, ↓at_chain, ↓at_and, ↓at_or, ↓at_not, ↓at_ife, ↓at_idx, ↓at_slc, ↓at_neg, ↓at_isi, ↓at_call, ↓at_bif, ↓at_mth, ↓at_lc, ↓at_lc2, ↓at_rng1, ↓at_rng2, ↓at_lrng, ↓at_zip, ↓at_enum, ↓at_nil, ↓at_cons, ↓at_onone, ↓at_osome, ↓at_tnone, ↓at_tsome, ↓at_onil, ↓at_ocons, ↓at_oown, ↓at_asg, ↓at_par, ↓at_cat, ↓at_own, ↓at_frz, ↓at_app, ↓at_set, ↓at_ret, ↓at_retN, ↓at_if, ↓at_for, ↓at_whl, ↓at_exp, ↓at_pass, ↓at_brk, ↓at_cnt, ↓at_snil, ↓at_scons, ↓lcK_ap, ↓lcB_ap, ↓forB_ap, bindOs, idxM_ap, newM_ap, nox_ok, put_loc, ↓noExn_ap, ↓bind_ap, pure_ap, then_ok, ↓tryS_ap, tr_ok, optM_some, chk_true, callM_some, seqK_nx, seqK_rt, endM_rt, endM_nx, ↓itemsM_ap, ↓bndM_ap, ↓mthM_ap, getV, setV, idx_lst, idx_tup, idx_loc, idx_dct, cmp_lt, cmp_le, cmp_gt, cmp_ge, cmp_eq, cmp_ne, cmp_in, cmp_notIn, cmp_isN, cmp_notN, eq_int, eq_str, eq_bl, eq_lst, eq_tup, add_int, sub_int, mul_int, fdiv_int, mod_int, pow_int, add_str, add_lst, add_tup, add_scr, asB_bl, asInt_int, bif_len_l, bif_len_t, bif_tuple_l, bif_tuple_t, bif_list_l, bif_list_t, bif_all, bif_any, bif_int_i, bif_int_b, bif_str_i, bif_str_s, slc_l, slc_t, bnd_n, bnd_i, its_l, its_t, bindT_nm, bindT_tp, isi_bool_non, isi_bool_bl, isi_bool_int, isi_bool_str, isi_bool_tup, isi_bool_lst, isi_int_non, isi_int_bl, isi_int_int, isi_int_str, isi_int_tup, isi_int_lst, isi_str_non, isi_str_bl, isi_str_int, isi_str_str, isi_str_tup, isi_str_lst, isi_tuple_non, isi_tuple_bl, isi_tuple_int, isi_tuple_str, isi_tuple_tup, isi_tuple_lst, isi_list_non, isi_list_bl, isi_list_int, isi_list_str, isi_list_tup, isi_list_lst, e1, e2, e3, e4, e5]
  simp only [List.mem_cons, List.not_mem_nil, or_false] at m
  have wd : ∀ a : Str, (a = "close" ∨ a = "enter" ∨ a = "move" ∨ a = "open") → w = .str a → ∃ d s', (run T 2 6 bEvent [.loc n, .int p]).at s = .ok d s' ∧ evsL p d ∧ UrnS s' n ∧ s'.length = s.length := fun a ha hw => by
    refine b (.tup [.str a, .str x, .int (1 + r)]) (start _ (fun y hy => ?_) ⟨a, hw⟩) (.inr (.inr (.inr ⟨a, x, 1 + r, ha, hx, by omega, by omega, rfl⟩)))
    rw [hw] at hy
    cases hy
    rcases ha with rfl | rfl | rfl | rfl <;> simp +decide [↓at_var, ↓at_glob, ↓at_cI, ↓at_cS, ↓at_cB, ↓at_cN, ↓at_tup, ↓at_lst, ↓at_loc, ↓at_dct, ↓at_bin, ↓at_cmp, ↓at_chain, ↓at_and, ↓at_or, ↓at_not, ↓at_ife, ↓at_idx, ↓at_slc, ↓at_neg, ↓at_isi, ↓at_call, ↓at_bif, ↓at_mth, ↓at_lc, ↓at_lc2, ↓at_rng1, ↓at_rng2, ↓at_lrng, ↓at_zip, ↓at_enum, ↓at_nil, ↓at_cons, ↓at_onone, ↓at_osome, ↓at_tnone, ↓at_tsome, ↓at_onil, ↓at_ocons, ↓at_oown, ↓at_asg, ↓at_par, ↓at_cat, ↓at_own, ↓at_frz, ↓at_app, ↓at_set, ↓at_ret, ↓at_retN, ↓at_if, ↓at_for, ↓at_whl, ↓at_exp, ↓at_pass, ↓at_brk, ↓at_cnt, ↓at_snil, ↓at_scons, ↓lcK_ap, ↓lcB_ap, ↓forB_ap, bindOs, idxM_ap, newM_ap, nox_ok, put_loc, ↓noExn_ap, ↓bind_ap, pure_ap, then_ok, ↓tryS_ap, tr_ok, optM_some, chk_true, callM_some, seqK_nx, seqK_rt, endM_rt, endM_nx, ↓itemsM_ap, ↓bndM_ap, ↓mthM_ap, getV, setV, idx_lst, idx_tup, idx_loc, idx_dct, cmp_lt, cmp_le, cmp_gt, cmp_ge, cmp_eq, cmp_ne, cmp_in, cmp_notIn, cmp_isN, cmp_notN, eq_int, eq_str, eq_bl, eq_lst, eq_tup, add_int, sub_int, mul_int, fdiv_int, mod_int, pow_int, add_str, add_lst, add_tup, add_scr, asB_bl, asInt_int, bif_len_l, bif_len_t, bif_tuple_l, bif_tuple_t, bif_list_l, bif_list_t, bif_all, bif_any, bif_int_i, bif_int_b, bif_str_i, bif_str_s, slc_l, slc_t, bnd_n, bnd_i, its_l, its_t, bindT_nm, bindT_tp, isi_bool_non, isi_bool_bl, isi_bool_int, isi_bool_str, isi_bool_tup, isi_bool_lst, isi_int_non, isi_int_bl, isi_int_int, isi_int_str, isi_int_tup, isi_int_lst, isi_str_non, isi_str_bl, isi_str_int, isi_str_str, isi_str_tup, isi_str_lst, isi_tuple_non, isi_tuple_bl, isi_tuple_int, isi_tuple_str, isi_tuple_tup, isi_tuple_lst, isi_list_non, isi_list_bl, isi_list_int, isi_list_str, isi_list_tup, isi_list_lst]
  rcases m with rfl | rfl | rfl | rfl | rfl | rfl | rfl | rfl | rfl | rfl | rfl | rfl
  · exact wd _ (.inr (.inl rfl)) rfl
  · exact wd _ (.inr (.inl rfl)) rfl
  · refine b (.tup [.str "take", .str x]) (start _ (fun y hy => ?_) ⟨_, rfl⟩) (.inr (.inr (.inl ⟨x, hx, rfl⟩)))
    cases hy
    simp +decide [↓at_var, ↓at_glob, ↓at_cI, ↓at_cS, ↓at_cB, ↓at_cN, ↓at_tup, ↓at_lst, ↓at_loc, ↓at_dct, ↓at_bin, ↓at_cmp, ↓at_chain, ↓at_and, ↓at_or, ↓at_not, ↓at_ife, ↓at_idx, ↓at_slc, ↓at_neg, ↓at_isi, ↓at_call, ↓at_bif, ↓at_mth, ↓at_lc, ↓at_lc2, ↓at_rng1, ↓at_rng2, ↓at_lrng, ↓at_zip, ↓at_enum, ↓at_nil, ↓at_cons, ↓at_onone, ↓at_osome, ↓at_tnone, ↓at_tsome, ↓at_onil, ↓at_ocons, ↓at_oown, ↓at_asg, ↓at_par, ↓at_cat, ↓at_own, ↓at_frz, ↓at_app, ↓at_set, ↓at_ret, ↓at_retN, ↓at_if, ↓at_for, ↓at_whl, ↓at_exp, ↓at_pass, ↓at_brk, ↓at_cnt, ↓at_snil, ↓at_scons, ↓lcK_ap, ↓lcB_ap, ↓forB_ap, bindOs, idxM_ap, newM_ap, nox_ok, put_loc, ↓noExn_ap, ↓bind_ap, pure_ap, then_ok, ↓tryS_ap, tr_ok, optM_some, chk_true, callM_some, seqK_nx, seqK_rt, endM_rt, endM_nx, ↓itemsM_ap, ↓bndM_ap, ↓mthM_ap, getV, setV, idx_lst, idx_tup, idx_loc, idx_dct, cmp_lt, cmp_le, cmp_gt, cmp_ge, cmp_eq, cmp_ne, cmp_in, cmp_notIn, cmp_isN, cmp_notN, eq_int, eq_str, eq_bl, eq_lst, eq_tup, add_int, sub_int, mul_int, fdiv_int, mod_int, pow_int, add_str, add_lst, add_tup, add_scr, asB_bl, asInt_int, bif_len_l, bif_len_t, bif_tuple_l, bif_tuple_t, bif_list_l, bif_list_t, bif_all, bif_any, bif_int_i, bif_int_b, bif_str_i, bif_str_s, slc_l, slc_t, bnd_n, bnd_i, its_l, its_t, bindT_nm, bindT_tp, isi_bool_non, isi_bool_bl, isi_bool_int, isi_bool_str, isi_bool_tup, isi_bool_lst, isi_int_non, isi_int_bl, isi_int_int, isi_int_str, isi_int_tup, isi_int_lst, isi_str_non, isi_str_bl, isi_str_int, isi_str_str, isi_str_tup, isi_str_lst, isi_tuple_non, isi_tuple_bl, isi_tuple_int, isi_tuple_str, isi_tuple_tup, isi_tuple_lst, isi_list_non, isi_list_bl, isi_list_int, isi_list_str, isi_list_tup, isi_list_lst]
  · exact wd _ (.inr (.inr (.inl rfl))) rfl
  · exact wd _ (.inl rfl) rfl
  · exact wd _ (.inl rfl) rfl
  · exact wd _ (.inl rfl) rfl
  · exact wd _ (.inr (.inr (.inr rfl))) rfl
  · refine b (.tup [.str "give", .int (1 + r)]) (start _ (fun y hy => ?_) ⟨_, rfl⟩) (.inr (.inl ⟨1 + r, by omega, by omega, rfl⟩))
    cases hy
    simp +decide [↓at_var, ↓at_glob, ↓at_cI, ↓at_cS, ↓at_cB, ↓at_cN, ↓at_tup, ↓at_lst, ↓at_loc, ↓at_dct, ↓at_bin, ↓at_cmp, ↓at_chain, ↓at_and, ↓at_or, ↓at_not, ↓at_ife, ↓at_idx, ↓at_slc, ↓at_neg, ↓at_isi, ↓at_call, ↓at_bif, ↓at_mth, ↓at_lc, ↓at_lc2, ↓at_rng1, ↓at_rng2, ↓at_lrng, ↓at_zip, ↓at_enum, ↓at_nil, ↓at_cons, ↓at_onone, ↓at_osome, ↓at_tnone, ↓at_tsome, ↓at_onil, ↓at_ocons, ↓at_oown, ↓at_asg, ↓at_par, ↓at_cat, ↓at_own, ↓at_frz, ↓at_app, ↓at_set, ↓at_ret, ↓at_retN, ↓at_if, ↓at_for, ↓at_whl, ↓at_exp, ↓at_pass, ↓at_brk, ↓at_cnt, ↓at_snil, ↓at_scons, ↓lcK_ap, ↓lcB_ap, ↓forB_ap, bindOs, idxM_ap, newM_ap, nox_ok, put_loc, ↓noExn_ap, ↓bind_ap, pure_ap, then_ok, ↓tryS_ap, tr_ok, optM_some, chk_true, callM_some, seqK_nx, seqK_rt, endM_rt, endM_nx, ↓itemsM_ap, ↓bndM_ap, ↓mthM_ap, getV, setV, idx_lst, idx_tup, idx_loc, idx_dct, cmp_lt, cmp_le, cmp_gt, cmp_ge, cmp_eq, cmp_ne, cmp_in, cmp_notIn, cmp_isN, cmp_notN, eq_int, eq_str, eq_bl, eq_lst, eq_tup, add_int, sub_int, mul_int, fdiv_int, mod_int, pow_int, add_str, add_lst, add_tup, add_scr, asB_bl, asInt_int, bif_len_l, bif_len_t, bif_tuple_l, bif_tuple_t, bif_list_l, bif_list_t, bif_all, bif_any, bif_int_i, bif_int_b, bif_str_i, bif_str_s, slc_l, slc_t, bnd_n, bnd_i, its_l, its_t, bindT_nm, bindT_tp, isi_bool_non, isi_bool_bl, isi_bool_int, isi_bool_str, isi_bool_tup, isi_bool_lst, isi_int_non, isi_int_bl, isi_int_int, isi_int_str, isi_int_tup, isi_int_lst, isi_str_non, isi_str_bl, isi_str_int, isi_str_str, isi_str_tup, isi_str_lst, isi_tuple_non, isi_tuple_bl, isi_tuple_int, isi_tuple_str, isi_tuple_tup, isi_tuple_lst, isi_list_non, isi_list_bl, isi_list_int, isi_list_str, isi_list_tup, isi_list_lst]
  · refine b (.tup [.str "give", .int (1 + r)]) (start _ (fun y hy => ?_) ⟨_, rfl⟩) (.inr (.inl ⟨1 + r, by omega, by omega, rfl⟩))
    cases hy
    simp +decide [↓at_var, ↓at_glob, ↓at_cI, ↓at_cS, ↓at_cB, ↓at_cN, ↓at_tup, ↓at_lst, ↓at_loc, ↓at_dct, ↓at_bin, ↓at_cmp, ↓at_chain, ↓at_and, ↓at_or, ↓at_not, ↓at_ife, ↓at_idx, ↓at_slc, ↓at_neg, ↓at_isi, ↓at_call, ↓at_bif, ↓at_mth, ↓at_lc, ↓at_lc2, ↓at_rng1, ↓at_rng2, ↓at_lrng, ↓at_zip, ↓at_enum, ↓at_nil, ↓at_cons, ↓at_onone, ↓at_osome, ↓at_tnone, ↓at_tsome, ↓at_onil, ↓at_ocons, ↓at_oown, ↓at_asg, ↓at_par, ↓at_cat, ↓at_own, ↓at_frz, ↓at_app, ↓at_set, ↓at_ret, ↓at_retN, ↓at_if, ↓at_for, ↓at_whl, ↓at_exp, ↓at_pass, ↓at_brk, ↓at_cnt, ↓at_snil, ↓at_scons, ↓lcK_ap, ↓lcB_ap, ↓forB_ap, bindOs, idxM_ap, newM_ap, nox_ok, put_loc, ↓noExn_ap, ↓bind_ap, pure_ap, then_ok, ↓tryS_ap, tr_ok, optM_some, chk_true, callM_some, seqK_nx, seqK_rt, endM_rt, endM_nx, ↓itemsM_ap, ↓bndM_ap, ↓mthM_ap, getV, setV, idx_lst, idx_tup, idx_loc, idx_dct, cmp_lt, cmp_le, cmp_gt, cmp_ge, cmp_eq, cmp_ne, cmp_in, cmp_notIn, cmp_isN, cmp_notN, eq_int, eq_str, eq_bl, eq_lst, eq_tup, add_int, sub_int, mul_int, fdiv_int, mod_int, pow_int, add_str, add_lst, add_tup, add_scr, asB_bl, asInt_int, bif_len_l, bif_len_t, bif_tuple_l, bif_tuple_t, bif_list_l, bif_list_t, bif_all, bif_any, bif_int_i, bif_int_b, bif_str_i, bif_str_s, slc_l, slc_t, bnd_n, bnd_i, its_l, its_t, bindT_nm, bindT_tp, isi_bool_non, isi_bool_bl, isi_bool_int, isi_bool_str, isi_bool_tup, isi_bool_lst, isi_int_non, isi_int_bl, isi_int_int, isi_int_str, isi_int_tup, isi_int_lst, isi_str_non, isi_str_bl, isi_str_int, isi_str_str, isi_str_tup, isi_str_lst, isi_tuple_non, isi_tuple_bl, isi_tuple_int, isi_tuple_str, isi_tuple_tup, isi_tuple_lst, isi_list_non, isi_list_bl, isi_list_int, isi_list_str, isi_list_tup, isi_list_lst]
  · refine b (.tup [.str "give", .int (1 + r)]) (start _ (fun y hy => ?_) ⟨_, rfl⟩) (.inr (.inl ⟨1 + r, by omega, by omega, rfl⟩))
    cases hy
    simp +decide [↓at_var, ↓at_glob, ↓at_cI, ↓at_cS, ↓at_cB, ↓at_cN, ↓at_tup, ↓at_lst, ↓at_loc, ↓at_dct, ↓at_bin, ↓at_cmp, ↓at_chain, ↓at_and, ↓at_or, ↓at_not, ↓at_ife, ↓at_idx, ↓at_slc, ↓at_neg, ↓at_isi, ↓at_call, ↓at_bif, ↓at_mth, ↓at_lc, ↓at_lc2, ↓at_rng1, ↓at_rng2, ↓at_lrng, ↓at_zip, ↓at_enum, ↓at_nil, ↓at_cons, ↓at_onone, ↓at_osome, ↓at_tnone, ↓at_tsome, ↓at_onil, ↓at_ocons, ↓at_oown, ↓at_asg, ↓at_par, ↓at_cat, ↓at_own, ↓at_frz, ↓at_app, ↓at_set, ↓at_ret, ↓at_retN, ↓at_if, ↓at_for, ↓at_whl, ↓at_exp, ↓at_pass, ↓at_brk, ↓at_cnt, ↓at_snil, ↓at_scons, ↓lcK_ap, ↓lcB_ap, ↓forB_ap, bindOs, idxM_ap, newM_ap, nox_ok, put_loc, ↓noExn_ap, ↓bind_ap, pure_ap, then_ok, ↓tryS_ap, tr_ok, optM_some, chk_true, callM_some, seqK_nx, seqK_rt, endM_rt, endM_nx, ↓itemsM_ap, ↓bndM_ap, ↓mthM_ap, getV, setV, idx_lst, idx_tup, idx_loc, idx_dct, cmp_lt, cmp_le, cmp_gt, cmp_ge, cmp_eq, cmp_ne, cmp_in, cmp_notIn, cmp_isN, cmp_notN, eq_int, eq_str, eq_bl, eq_lst, eq_tup, add_int, sub_int, mul_int, fdiv_int, mod_int, pow_int, add_str, add_lst, add_tup, add_scr, asB_bl, asInt_int, bif_len_l, bif_len_t, bif_tuple_l, bif_tuple_t, bif_list_l, bif_list_t, bif_all, bif_any, bif_int_i, bif_int_b, bif_str_i, bif_str_s, slc_l, slc_t, bnd_n, bnd_i, its_l, its_t, bindT_nm, bindT_tp, isi_bool_non, isi_bool_bl, isi_bool_int, isi_bool_str, isi_bool_tup, isi_bool_lst, isi_int_non, isi_int_bl, isi_int_int, isi_int_str, isi_int_tup, isi_int_lst, isi_str_non, isi_str_bl, isi_str_int, isi_str_str, isi_str_tup, isi_str_lst, isi_tuple_non, isi_tuple_bl, isi_tuple_int, isi_tuple_str, isi_tuple_tup, isi_tuple_lst, isi_list_non, isi_list_bl, isi_list_int, isi_list_str, isi_list_tup, isi_list_lst]
  · refine b (.tup [.str "on"]) (start _ (fun y hy => ?_) ⟨_, rfl⟩) (.inl rfl)
    cases hy
    simp +decide [↓at_var, ↓at_glob, ↓at_cI, ↓at_cS, ↓at_cB, ↓at_cN, ↓at_tup, ↓at_lst, ↓at_loc, ↓at_dct, ↓at_bin, ↓at_cmp, ↓at_chain, ↓at_and, ↓at_or, ↓at_not, ↓at_ife, ↓at_idx, ↓at_slc, ↓at_neg, ↓at_isi, ↓at_call, ↓at_bif, ↓at_mth, ↓at_lc, ↓at_lc2, ↓at_rng1, ↓at_rng2, ↓at_lrng, ↓at_zip, ↓at_enum, ↓at_nil, ↓at_cons, ↓at_onone, ↓at_osome, ↓at_tnone, ↓at_tsome, ↓at_onil, ↓at_ocons, ↓at_oown, ↓at_asg, ↓at_par, ↓at_cat, ↓at_own, ↓at_frz, ↓at_app, ↓at_set, ↓at_ret, ↓at_retN, ↓at_if, ↓at_for, ↓at_whl, ↓at_exp, ↓at_pass, ↓at_brk, ↓at_cnt, ↓at_snil, ↓at_scons, ↓lcK_ap, ↓lcB_ap, ↓forB_ap, bindOs, idxM_ap, newM_ap, nox_ok, put_loc, ↓noExn_ap, ↓bind_ap, pure_ap, then_ok, ↓tryS_ap, tr_ok, optM_some, chk_true, callM_some, seqK_nx, seqK_rt, endM_rt, endM_nx, ↓itemsM_ap, ↓bndM_ap, ↓mthM_ap, getV, setV, idx_lst, idx_tup, idx_loc, idx_dct, cmp_lt, cmp_le, cmp_gt, cmp_ge, cmp_eq, cmp_ne, cmp_in, cmp_notIn, cmp_isN, cmp_notN, eq_int, eq_str, eq_bl, eq_lst, eq_tup, add_int, sub_int, mul_int, fdiv_int, mod_int, pow_int, add_str, add_lst, add_tup, add_scr, asB_bl, asInt_int, bif_len_l, bif_len_t, bif_tuple_l, bif_tuple_t, bif_list_l, bif_list_t, bif_all, bif_any, bif_int_i, bif_int_b, bif_str_i, bif_str_s, slc_l, slc_t, bnd_n, bnd_i, its_l, its_t, bindT_nm, bindT_tp, isi_bool_non, isi_bool_bl, isi_bool_int, isi_bool_str, isi_bool_tup, isi_bool_lst, isi_int_non, isi_int_bl, isi_int_int, isi_int_str, isi_int_tup, isi_int_lst, isi_str_non, isi_str_bl, isi_str_int, isi_str_str, isi_str_tup, isi_str_lst, isi_tuple_non, isi_tuple_bl, isi_tuple_int, isi_tuple_str, isi_tuple_tup, isi_tuple_lst, isi_list_non, isi_list_bl, isi_list_int, isi_list_str, isi_list_tup, isi_list_lst]
theorem hist_ok {T T1 : Tab} (hE : T.fn "_law_event" = some (run T1 2 6 bEvent)) (hA : Any T1) (hL1 : Lot T1) (hL : Lot T) {s : Sto} {n : Nat} (u : UrnS s n) {p m : Int} (h0 : 0 < p) (h1 : p < 1000) (m0 : 0 ≤ m) (m1 : m < 1000) :
    ∃ ds s', (run T 3 4 bHist [.loc n, .int p, .int m]).at s = .ok (.tup ds) s' ∧ (∀ d ∈ ds, evsL p d) ∧ (ds.length : Int) ≤ m ∧ UrnS s' n ∧ s'.length = s.length := by
  obtain ⟨g, e4, r, s3, e5, r0, r1, u3, l3⟩ := hL.draw u (m := m + 1) (by omega) (by omega)
  have key := lcM_draw (f := lcB T (.nm 3) none (.call "_law_event" [.var 0, .var 1]) [some (.val (.loc n)), some (.val (.int p)), some (.val (.int m)), none]) (I := fun s' => UrnS s' n ∧ s'.length = s.length) (R := fun _ y => evsL p y) (xs := rangeD 0 r)
    (fun x hx s1 ⟨u1, l1⟩ => by
      obtain ⟨d, s2, e2, q, u2, l2⟩ := event_ok hA hL1 u1 h0 h1
      refine ⟨d, s2, ?_, q, u2, by rw [l2, l1]⟩
      simp [↓at_var, ↓at_glob, ↓at_cI, ↓at_cS, ↓at_cB, ↓at_cN, ↓at_tup, ↓at_lst, ↓at_loc, ↓at_dct, ↓at_bin, ↓at_cmp, ↓at_chain, ↓at_and, ↓at_or, ↓at_not, ↓at_ife, ↓at_idx, ↓at_slc, ↓at_neg, ↓at_isi, ↓at_call, ↓at_bif, ↓at_mth, ↓at_lc, ↓at_lc2, ↓at_rng1, ↓at_rng2, ↓at_lrng, ↓at_zip, ↓at_enum, ↓at_nil, ↓at_cons, ↓at_onone, ↓at_osome, ↓at_tnone, ↓at_tsome, ↓at_onil, ↓at_ocons, ↓at_oown, ↓at_asg, ↓at_par, ↓at_cat, ↓at_own, ↓at_frz, ↓at_app, ↓at_set, ↓at_ret, ↓at_retN, ↓at_if, ↓at_for, ↓at_whl, ↓at_exp, ↓at_pass, ↓at_brk, ↓at_cnt, ↓at_snil, ↓at_scons, ↓lcK_ap, ↓lcB_ap, ↓forB_ap, bindOs, idxM_ap, newM_ap, nox_ok, put_loc, ↓noExn_ap, ↓bind_ap, pure_ap, then_ok, ↓tryS_ap, tr_ok, optM_some, chk_true, callM_some, seqK_nx, seqK_rt, endM_rt, endM_nx, ↓itemsM_ap, ↓bndM_ap, ↓mthM_ap, getV, setV, idx_lst, idx_tup, idx_loc, idx_dct, cmp_lt, cmp_le, cmp_gt, cmp_ge, cmp_eq, cmp_ne, cmp_in, cmp_notIn, cmp_isN, cmp_notN, eq_int, eq_str, eq_bl, eq_lst, eq_tup, add_int, sub_int, mul_int, fdiv_int, mod_int, pow_int, add_str, add_lst, add_tup, add_scr, asB_bl, asInt_int, bif_len_l, bif_len_t, bif_tuple_l, bif_tuple_t, bif_list_l, bif_list_t, bif_all, bif_any, bif_int_i, bif_int_b, bif_str_i, bif_str_s, slc_l, slc_t, bnd_n, bnd_i, its_l, its_t, bindT_nm, bindT_tp, isi_bool_non, isi_bool_bl, isi_bool_int, isi_bool_str, isi_bool_tup, isi_bool_lst, isi_int_non, isi_int_bl, isi_int_int, isi_int_str, isi_int_tup, isi_int_lst, isi_str_non, isi_str_bl, isi_str_int, isi_str_str, isi_str_tup, isi_str_lst, isi_tuple_non, isi_tuple_bl, isi_tuple_int, isi_tuple_str, isi_tuple_tup, isi_tuple_lst, isi_list_non, isi_list_bl, isi_list_int, isi_list_str, isi_list_tup, isi_list_lst, hE, e2]) s3 ⟨u3, l3⟩
  obtain ⟨ys, s', e, ra, u', l'⟩ := key
  have hlen : ys.length = r.toNat := by
    rw [ra.length]
    simp [rangeD]
  have hall : ∀ d ∈ ys, evsL p d := by
    have gen : ∀ (as bs : List D), All2 (fun _ y => evsL p y) as bs → ∀ d ∈ bs, evsL p d := by
      intro as bs h
      induction h with
      | nil => intro d hd; cases hd
      | cons a b ih =>
        intro d hd
        rcases List.mem_cons.mp hd with rfl | hd
        · exact a
        · exact ih d hd
    exact gen _ _ ra
  refine ⟨ys, s', ?_, hall, by omega, u', l'⟩
  rw [run_ap T 3 4 bHist [.loc n, .int p, .int m] s rfl]
  have ok : okB r = true := by
    unfold okB
    simp only [Bool.and_eq_true, decide_eq_true_eq]
    omega
  have hl : (rangeD 0 r).length ≤ 16777216 := by
    have e9 : (rangeD 0 r).length = r.toNat := by simp [rangeD]
    omega
  simp [bHist, ↓at_var, ↓at_glob, ↓at_cI, ↓at_cS, ↓at_cB, ↓at_cN, ↓at_tup, ↓at_lst, ↓at_loc, ↓at_dct, ↓at_bin, ↓at_cmp, ↓at_chain, ↓at_and, ↓at_or, ↓at_not, ↓at_ife, ↓at_idx, ↓at_slc, ↓at_neg, ↓at_isi, ↓at_call, ↓at_bif, ↓at_mth, ↓at_lc, ↓at_lc2, ↓at_rng1, ↓at_rng2, ↓at_lrng, ↓at_zip, ↓at_enum, ↓at_nil, ↓at_cons, ↓at_onone, ↓at_osome, ↓at_tnone, ↓at_tsome, ↓at_onil, ↓at_ocons, ↓at_oown, ↓at_asg, ↓at_par, ↓at_cat, ↓at_own, ↓at_frz, ↓at_app, ↓at_set, ↓at_ret, ↓at_retN, ↓at_if, ↓at_for, ↓at_whl, ↓at_exp, ↓at_pass, ↓at_brk, ↓at_cnt, ↓at_snil, ↓at_scons, ↓lcK_ap, ↓lcB_ap, ↓forB_ap, bindOs, idxM_ap, newM_ap, nox_ok, put_loc, ↓noExn_ap, ↓bind_ap, pure_ap, then_ok, ↓tryS_ap, tr_ok, optM_some, chk_true, callM_some, seqK_nx, seqK_rt, endM_rt, endM_nx, ↓itemsM_ap, ↓bndM_ap, ↓mthM_ap, getV, setV, idx_lst, idx_tup, idx_loc, idx_dct, cmp_lt, cmp_le, cmp_gt, cmp_ge, cmp_eq, cmp_ne, cmp_in, cmp_notIn, cmp_isN, cmp_notN, eq_int, eq_str, eq_bl, eq_lst, eq_tup, add_int, sub_int, mul_int, fdiv_int, mod_int, pow_int, add_str, add_lst, add_tup, add_scr, asB_bl, asInt_int, bif_len_l, bif_len_t, bif_tuple_l, bif_tuple_t, bif_list_l, bif_list_t, bif_all, bif_any, bif_int_i, bif_int_b, bif_str_i, bif_str_s, slc_l, slc_t, bnd_n, bnd_i, its_l, its_t, bindT_nm, bindT_tp, isi_bool_non, isi_bool_bl, isi_bool_int, isi_bool_str, isi_bool_tup, isi_bool_lst, isi_int_non, isi_int_bl, isi_int_int, isi_int_str, isi_int_tup, isi_int_lst, isi_str_non, isi_str_bl, isi_str_int, isi_str_str, isi_str_tup, isi_str_lst, isi_tuple_non, isi_tuple_bl, isi_tuple_int, isi_tuple_str, isi_tuple_tup, isi_tuple_lst, isi_list_non, isi_list_bl, isi_list_int, isi_list_str, isi_list_tup, isi_list_lst, e4, e5, ok, e, hl, line]
end PD

set_option Elab.async false
set_option linter.all false
set_option maxRecDepth 100000
set_option maxHeartbeats 4000000
/-! PL3: more steps; walks over all of a finite many. -/
namespace PD
open PySem
section
variable (T : Tab) (ρ : Env') (s : Sto)
theorem at_cmpL (ne : Bool) (a b : Cd) : (ev T (.cmpL ne a b) ρ).at s = ((ev T a ρ).at s).then fun x => ev T b ρ >>= fun y => cmpLM ne x y := by
  unfold M.at
  rw [ev] <;> rfl
theorem at_isL (a : Cd) : (ev T (.isL a) ρ).at s = ((ev T a ρ).at s).then fun x => isLM x := by
  unfold M.at
  rw [ev] <;> rfl
theorem at_appL (i : Nat) (e : Cd) : (ex T (.appL i e) ρ).at s = (chk (isLocO (getV ρ i)) (tryS ρ (ev T e ρ) fun x => appLM ρ (getV ρ i) x)).at s := by
  unfold M.at
  rw [ex] <;> rfl
theorem at_ownL (i : Nat) (e : Cd) : (ex T (.ownL i e) ρ).at s = (tryS ρ (ev T e ρ) fun d => ownLM ρ i d).at s := by
  unfold M.at
  rw [ex] <;> rfl
theorem at_setO (i : Nat) (k e : Cd) : (ex T (.setO i k e) ρ).at s = (chk (isOwn ρ i) (tryS ρ (ev T e ρ) fun x => tryS ρ (ev T k ρ) fun y => setOM ρ i y x)).at s := by
  unfold M.at
  rw [ex] <;> rfl
theorem at_rse (x : Str) : (ex T (.rse x) ρ).at s = (if x ≠ ("" : Str) ∧ (T.exm x x).isSome = true then pure (.ex ⟨x, none⟩, ρ) else badM : M (Fl × Env')).at s := by
  unfold M.at
  rw [ex] <;> rfl
theorem at_try (b : List Sd) (hs : List (Str × D)) : (ex T (.try_ b hs) ρ).at s = (chk (hs.all fun p => (T.exm p.1 p.1).isSome) (exs T b ρ >>= tryK T.exm hs)).at s := by
  unfold M.at
  rw [ex] <;> rfl
end
theorem tr_exn {α : Type} (ρ : Env') (e : Exc) (s : Sto) (k : α → M (Fl × Env')) : (Res.exn e s).tr ρ k = .ok (.ex e, ρ) s := rfl
theorem seqK_ex (e : Exc) (ρ : Env') (k : Env' → M (Fl × Env')) : seqK (.ex e, ρ) k = pure (.ex e, ρ) := rfl
theorem endM_ex (e : Exc) (ρ : Env') (s : Sto) : (endM (.ex e, ρ)).at s = .exn e s := rfl
theorem then_exn {α β : Type} (e : Exc) (s : Sto) (f : α → M β) : (Res.exn e s).then f = .exn e s := rfl
theorem tryK_nx (exm : Str → Str → Option Bool) (hs : List (Str × D)) (ρ : Env') : tryK exm hs (.nx, ρ) = pure (.nx, ρ) := rfl
theorem tryK_ex (exm : Str → Str → Option Bool) (hs : List (Str × D)) (e : Exc) (ρ : Env') : tryK exm hs (.ex e, ρ) = hdM exm e ρ hs := rfl
/-- a list mapped, told otherwise -/
def mapR {α β : Type} (g : α → β) : List α → List β
  | [] => []
  | x :: xs => g x :: mapR g xs
theorem of_mapR {α β : Type} {f g : α → β} : ∀ {l : List α}, l.map f = mapR g l → ∀ x ∈ l, f x = g x
  | [], _, x, h => by cases h
  | a :: l, e, x, h => by
    have e' : f a :: l.map f = g a :: mapR g l := e
    injection e' with e1 e2
    rcases List.mem_cons.mp h with rfl | h
    · exact e1
    · exact of_mapR e2 x h
end PD

set_option Elab.async false
set_option linter.all false
set_option maxRecDepth 100000
set_option maxHeartbeats 8000000
/-! PL4: plain values. -/
namespace PD
open PySem
/-! ### plain values: at most n levels of tuples and lists, none of more than L items -/
def Pl (L : Nat) : Nat → D → Prop
  | _, .non => True
  | _, .bl _ => True
  | _, .int _ => True
  | _, .str s => PyData.strOk s = true
  | n + 1, .tup xs => xs.length ≤ L ∧ ∀ x ∈ xs, Pl L n x
  | n + 1, .lst xs => xs.length ≤ L ∧ ∀ x ∈ xs, Pl L n x
  | _, _ => False
theorem Pl.up {L M : Nat} (hL : L ≤ M) : ∀ {n m : Nat} {d : D}, n ≤ m → Pl L n d → Pl M m d
  | 0, m, d, _, h => by
    cases d <;> first | exact False.elim h | exact h | (unfold Pl at h ⊢; first | exact h | trivial) | (cases m <;> exact h)
  | n + 1, 0, d, hm, h => absurd hm (by omega)
  | n + 1, m + 1, d, hm, h => by
    cases d with
    | tup xs => exact ⟨Nat.le_trans h.1 hL, fun x hx => Pl.up hL (by omega) (h.2 x hx)⟩
    | lst xs => exact ⟨Nat.le_trans h.1 hL, fun x hx => Pl.up hL (by omega) (h.2 x hx)⟩
    | _ => first | exact False.elim h | exact h
theorem toPys_lay : ∀ {xs : List D}, (∀ x ∈ xs, (toPy x).canLay0 = true) → PyData.canLayAll0 (toPys xs) = true
  | [], _ => by
    unfold toPys PyData.canLayAll0
    rfl
  | x :: xs, h => by
    unfold toPys PyData.canLayAll0
    rw [h x List.mem_cons_self, toPys_lay fun y hy => h y (List.mem_cons_of_mem _ hy)]
    rfl
theorem toPys_dep {n : Nat} : ∀ {xs : List D}, (∀ x ∈ xs, (toPy x).depth ≤ n) → PyData.depthAll (toPys xs) ≤ n
  | [], _ => by
    unfold toPys PyData.depthAll
    omega
  | x :: xs, h => by
    unfold toPys PyData.depthAll
    exact Nat.max_le.mpr ⟨h x List.mem_cons_self, toPys_dep fun y hy => h y (List.mem_cons_of_mem _ hy)⟩
theorem Pl.lay {L : Nat} : ∀ {n : Nat} {d : D}, Pl L n d → (toPy d).canLay0 = true ∧ (toPy d).depth ≤ n := by
  intro n
  induction n with
  | zero =>
    intro d h
    cases d <;> first | exact False.elim h | (unfold toPy PyData.canLay0 PyData.depth; exact ⟨rfl, Nat.le_refl _⟩) | (unfold toPy PyData.canLay0 PyData.depth; exact ⟨h, Nat.le_refl _⟩)
  | succ n ih =>
    intro d h
    cases d <;> first
      | exact False.elim h
      | (unfold toPy PyData.canLay0 PyData.depth; exact ⟨rfl, Nat.zero_le _⟩)
      | (unfold toPy PyData.canLay0 PyData.depth; exact ⟨h, Nat.zero_le _⟩)
      | (unfold toPy PyData.canLay0 PyData.depth
         exact ⟨toPys_lay fun x hx => (ih (h.2 x hx)).1, Nat.succ_le_succ (toPys_dep fun x hx => (ih (h.2 x hx)).2)⟩)
theorem Pl.shaped {L n : Nat} {d : D} (hn : n ≤ 64) (h : Pl L n d) : shaped d = true := by
  obtain ⟨a, b⟩ := h.lay
  show ((toPy d).canLay0 && decide ((toPy d).depth ≤ 64)) = true
  rw [a, decide_eq_true (Nat.le_trans b hn)]
  rfl
/-- the kinds that stand in plain values -/
def Top : D → Prop
  | .non => True
  | .bl _ => True
  | .int _ => True
  | .str s => PyData.strOk s = true
  | .tup _ => True
  | .lst _ => True
  | _ => False
theorem Pl.top {L n : Nat} {d : D} (h : Pl L n d) : Top d := by
  cases d <;> first | trivial | exact h | (cases n <;> exact h)
theorem at_nat {xs : List D} {k : Nat} (h : k < xs.length) : L2.atI xs (k : Int) = some xs[k] := by
  have h1 : (0 : Int) ≤ (k : Int) := by omega
  have h2 : (k : Int) < (xs.length : Int) := by omega
  simp [L2.atI, L2.ixN, h1, h2, h]
theorem at0 (x : D) (r : List D) : L2.atI (x :: r) 0 = some x := at_nat (xs := x :: r) (k := 0) (by simp)
theorem at1 (x y : D) (r : List D) : L2.atI (x :: y :: r) 1 = some y := at_nat (xs := x :: y :: r) (k := 1) (by simp)
theorem at2 (x y z : D) (r : List D) : L2.atI (x :: y :: z :: r) 2 = some z := at_nat (xs := x :: y :: z :: r) (k := 2) (by simp)
theorem all_mem {α : Type} {P : α → Prop} : ∀ {l : List α}, (l.foldr (fun x r => P x ∧ r) True) → ∀ x ∈ l, P x
  | [], _, x, h => by cases h
  | a :: l, ⟨h1, h2⟩, x, h => by
    rcases List.mem_cons.mp h with rfl | h
    · exact h1
    · exact all_mem h2 x h
theorem asBools_map {α : Type} (g : α → Bool) : ∀ xs : List α, asBools (xs.map fun x => D.bl (g x)) = some (xs.map g)
  | [] => rfl
  | x :: xs => by
    show (asBools (xs.map fun x => D.bl (g x))).map (g x :: ·) = _
    rw [asBools_map g xs]
    rfl
theorem lcM_mapS {f : D → M (Option D)} {g : D → D} {s : Sto} {xs : List D} (h : ∀ x ∈ xs, (f x).at s = .ok (some (g x)) s) : (lcM f xs).at s = .ok (xs.map g) s := by
  rw [lcM_map (g := fun x => some (g x)) h]
  congr 1
  induction xs with
  | nil => rfl
  | cons x xs ih => rw [List.filterMap_cons, List.map_cons, ← ih fun z hz => h z (List.mem_cons_of_mem _ hz)]
theorem lcM_filter {f : D → M (Option D)} {g : D → Bool} {s : Sto} : ∀ {xs : List D}, (∀ x ∈ xs, (f x).at s = .ok (if g x then some x else none) s) → (lcM f xs).at s = .ok (xs.filter g) s
  | [], _ => rfl
  | x :: xs, h => by
    rw [lcM_cons, h x List.mem_cons_self, then_ok, bind_ap, lcM_filter fun z hz => h z (List.mem_cons_of_mem _ hz), then_ok, List.filter_cons]
    cases g x <;> rfl
theorem forM_step {f : D → Env' → M (Fl × Env')} {x : D} {r : List D} {ρ ρ1 : Env'} {p : Fl × Env'} {s s1 s2 : Sto} (h1 : (f x ρ).at s = .ok (.nx, ρ1) s1) (h2 : (forM' f r ρ1).at s1 = .ok p s2) : (forM' f (x :: r) ρ).at s = .ok p s2 := by
  rw [forM_cons, h1, then_ok, forK_nx, h2]
theorem eq_nilL {L n : Nat} (hn : n ≤ 64) {xs : List D} (h : Pl L n (.lst xs)) : eqD (.lst xs) (.lst []) = some xs.isEmpty := by
  have e1 := h.shaped hn
  have e2 : shaped (.lst []) = true := by decide +kernel
  rw [eq_lst, e1, e2]
  show some (PyData.eqv (toPy (.lst xs)) (toPy (.lst []))) = _
  cases xs with
  | nil => unfold toPy toPys PyData.eqv PyData.eqvAll; rfl
  | cons x xs => unfold toPy toPys PyData.eqv PyData.eqvAll; rfl
theorem eqvAll_cons (x y : D) (xs ys : List D) : PyData.eqvAll (toPys (x :: xs)) (toPys (y :: ys)) = (eqv x y && PyData.eqvAll (toPys xs) (toPys ys)) := by
  simp only [toPys, PyData.eqvAll]
  rfl
theorem eqvAll_self : ∀ {xs : List D}, (∀ x ∈ xs, eqv x x = true) → PyData.eqvAll (toPys xs) (toPys xs) = true
  | [], _ => by simp only [toPys, PyData.eqvAll]
  | x :: xs, h => by rw [eqvAll_cons, h x List.mem_cons_self, eqvAll_self fun y hy => h y (List.mem_cons_of_mem _ hy)]; rfl
theorem eqv_tup (xs ys : List D) : eqv (.tup xs) (.tup ys) = PyData.eqvAll (toPys xs) (toPys ys) := by
  show PyData.eqv (toPy (.tup xs)) (toPy (.tup ys)) = _
  simp only [toPy, PyData.eqv]
theorem eqv_lst (xs ys : List D) : eqv (.lst xs) (.lst ys) = PyData.eqvAll (toPys xs) (toPys ys) := by
  show PyData.eqv (toPy (.lst xs)) (toPy (.lst ys)) = _
  simp only [toPy, PyData.eqv]
theorem eqv_int (a b : Int) : eqv (.int a) (.int b) = decide (a = b) := by
  show PyData.eqv (toPy (.int a)) (toPy (.int b)) = _
  simp only [toPy, PyData.eqv]
  by_cases h : a = b <;> simp [h]
theorem eqv_st (a b : Str) : eqv (.str a) (.str b) = decide (a = b) := by
  show PyData.eqv (toPy (.str a)) (toPy (.str b)) = _
  simp only [toPy, PyData.eqv]
  by_cases h : a = b <;> simp [h]
theorem eqv_bl (a b : Bool) : eqv (.bl a) (.bl b) = decide (a = b) := by
  show PyData.eqv (toPy (.bl a)) (toPy (.bl b)) = _
  simp only [toPy, PyData.eqv]
  cases a <;> cases b <;> rfl
theorem eqv_non : eqv .non .non = true := by
  show PyData.eqv (toPy .non) (toPy .non) = _
  simp only [toPy, PyData.eqv]
theorem Pl.self {L : Nat} : ∀ {n : Nat} {d : D}, Pl L n d → eqv d d = true := by
  intro n
  induction n with
  | zero =>
    intro d h
    cases d <;> first | exact False.elim h | exact eqv_non | (rw [eqv_bl]; exact decide_eq_true rfl) | (rw [eqv_int]; exact decide_eq_true rfl) | (rw [eqv_st]; exact decide_eq_true rfl)
  | succ n ih =>
    intro d h
    cases d <;> first
      | exact False.elim h
      | exact eqv_non
      | (rw [eqv_bl]; exact decide_eq_true rfl)
      | (rw [eqv_int]; exact decide_eq_true rfl)
      | (rw [eqv_st]; exact decide_eq_true rfl)
      | (rw [eqv_tup]; exact eqvAll_self fun x hx => ih (h.2 x hx))
      | (rw [eqv_lst]; exact eqvAll_self fun x hx => ih (h.2 x hx))
theorem eq_self_t {L n : Nat} (hn : n ≤ 64) {xs : List D} (h : Pl L n (.tup xs)) : eqD (.tup xs) (.tup xs) = some true := by
  rw [eq_tup, h.shaped hn, h.self]
  rfl
theorem eq_self_l {L n : Nat} (hn : n ≤ 64) {xs : List D} (h : Pl L n (.lst xs)) : eqD (.lst xs) (.lst xs) = some true := by
  rw [eq_lst, h.shaped hn, h.self]
  rfl
theorem eqv_strs : ∀ {a b : List Str}, a ≠ b → PyData.eqvAll (toPys (a.map .str)) (toPys (b.map .str)) = false
  | [], [], h => absurd rfl h
  | [], b :: bs, _ => by simp only [List.map, toPys, PyData.eqvAll]
  | a :: as, [], _ => by simp only [List.map, toPys, PyData.eqvAll]
  | a :: as, b :: bs, h => by
    rw [List.map_cons, List.map_cons, eqvAll_cons, eqv_st]
    by_cases e : a = b
    · subst e
      rw [eqv_strs fun q => h (by rw [q])]
      exact Bool.and_false _
    · rw [decide_eq_false e]
      rfl
end PD

set_option Elab.async false
set_option linter.all false
set_option maxRecDepth 100000
set_option maxHeartbeats 0
namespace LW
open PySem PySem.Spec L2
def top (i : Nat) : Stmt := PySem.Challenge.pw_shutbooks_k02_one_entry_event_by_event.main.body.getD i (.Pass ⟨0, 0, 0, 0⟩)
def n_values_of : List Str := ["part", "words", "more"]
def c_values_of : PD.DefM := ⟨"values_of", 1, 3, [.ife (.cmp .eq (.var 0) (.cS "periods")) [.ret (.lst [.cI 2, .cI 3])] [], .ife (.cmp .in_ (.var 0) (.tup [.cS "order", .cS "early"])) [.ret (.lst [.cB false, .cB true])] [], .asg (.nm 1) (.dct ["late", "back", "show", "carry"] [.cS "next own refuse", .cS "counter refuse strike", .cS "given now", .cS "given now"]), .asg (.nm 2) (.dct ["seal", "again"] [.cS "any chief two", .cS "chief never void"]), .ret (.mth .split (.mth .get (.var 1) [.var 0, .mth .get (.var 2) [.var 0, .cS ""]]) [.cS " "])]⟩
def n_is_same : List Str := ["one", "other"]
def c_is_same : PD.DefM := ⟨"is_same", 2, 2, [.ife (.or (.isi .bool (.var 0)) (.isi .bool (.var 1))) [.ret (.and (.isi .bool (.var 0)) (.and (.isi .bool (.var 1)) (.cmp .eq (.var 0) (.var 1))))] [], .ife (.or (.isi .int (.var 0)) (.isi .int (.var 1))) [.ret (.and (.isi .int (.var 0)) (.and (.isi .int (.var 1)) (.cmp .eq (.var 0) (.var 1))))] [], .ret (.and (.isi .str (.var 0)) (.and (.isi .str (.var 1)) (.cmp .eq (.var 0) (.var 1))))]⟩
def n_is_value : List Str := ["part", "value", "one"]
def c_is_value : PD.DefM := ⟨"is_value", 2, 3, [.ret (.bif .any [.lc (.nm 2) (.call "values_of" [.var 0]) none (.call "is_same" [.var 1, .var 2])])]⟩
def n_is_rule : List Str := ["value", "part", "one"]
def c_is_rule : PD.DefM := ⟨"is_rule", 1, 3, [.ife (.or (.not (.isi .tuple (.var 0))) (.cmp .ne (.bif .len [.var 0]) (.bif .len [.glob "PART_NAMES"]))) [.ret (.cB false)] [], .ret (.bif .all [.lc (.tp [1, 2]) (.zip [.glob "PART_NAMES", .var 0]) none (.call "is_value" [.var 1, .var 2])])]⟩
def n_is_who : List Str := ["value"]
def c_is_who : PD.DefM := ⟨"is_who", 1, 1, [.ret (.and (.isi .str (.var 0)) (.cmp .in_ (.var 0) (.glob "PEOPLE")))]⟩
def n_is_number : List Str := ["value", "low", "high"]
def c_is_number : PD.DefM := ⟨"is_number", 3, 3, [.ret (.and (.isi .int (.var 0)) (.and (.not (.isi .bool (.var 0))) (.chain .le .le (.var 1) (.var 0) (.var 2))))]⟩
def n_is_event : List Str := ["periods", "value"]
def c_is_event : PD.DefM := ⟨"is_event", 2, 2, [.ife (.or (.not (.isi .tuple (.var 1))) (.or (.cmp .eq (.var 1) (.tup [])) (.not (.isi .str (.idx (.var 1) (.cI 0)))))) [.ret (.cB false)] [], .ife (.cmp .in_ (.idx (.var 1) (.cI 0)) (.tup [.cS "close", .cS "enter", .cS "move", .cS "open"])) [.ret (.and (.cmp .eq (.bif .len [.var 1]) (.cI 3)) (.and (.call "is_who" [.idx (.var 1) (.cI 1)]) (.call "is_number" [.idx (.var 1) (.cI 2), .cI 1, .var 0])))] [], .ife (.cmp .eq (.idx (.var 1) (.cI 0)) (.cS "give")) [.ret (.and (.cmp .eq (.bif .len [.var 1]) (.cI 2)) (.call "is_number" [.idx (.var 1) (.cI 1), .cI 1, .var 0]))] [], .ife (.cmp .eq (.idx (.var 1) (.cI 0)) (.cS "take")) [.ret (.and (.cmp .eq (.bif .len [.var 1]) (.cI 2)) (.call "is_who" [.idx (.var 1) (.cI 1)]))] [], .ret (.cmp .eq (.var 1) (.tup [.cS "on"]))]⟩
def n_are_events : List Str := ["periods", "value", "event"]
def c_are_events : PD.DefM := ⟨"are_events", 2, 3, [.ife (.or (.not (.isi .tuple (.var 1))) (.cmp .gt (.bif .len [.var 1]) (.glob "MOST_EVENTS"))) [.ret (.cB false)] [], .ret (.bif .all [.lc (.nm 2) (.var 1) none (.call "is_event" [.var 0, .var 2])])]⟩
def n_need_rule : List Str := ["rule"]
def c_need_rule : PD.DefM := ⟨"need_rule", 1, 1, [.ife (.not (.call "is_rule" [.var 0])) [.rse "InvalidRule"] []]⟩
def n_need_history : List Str := ["rule", "history"]
def c_need_history : PD.DefM := ⟨"need_history", 2, 2, [.ife (.not (.call "are_events" [.idx (.var 0) (.cI 0), .var 1])) [.rse "InvalidHistory"] []]⟩
def n_begin : List Str := ["rule", "many"]
def c_begin : PD.DefM := ⟨"begin", 1, 2, [.asg (.nm 1) (.idx (.var 0) (.cI 0)), .ret (.tup [.cI 1, .bin .mul (.tup [.cS "open"]) (.var 1), .bin .mul (.tup [.cI 0]) (.var 1), .cS "new", .cI 0, .bin .mul (.tup [.cN]) (.var 1)])]⟩
def n_put_at : List Str := ["row", "at", "value"]
def c_put_at : PD.DefM := ⟨"put_at", 3, 3, [.ret (.bin .add (.bin .add (.slc (.var 0) none (some (.bin .sub (.var 1) (.cI 1)))) (.tup [.var 2])) (.slc (.var 0) (some (.var 1)) none))]⟩
def n_writable : List Str := ["states", "who", "period", "state"]
def c_writable : PD.DefM := ⟨"writable", 3, 4, [.asg (.nm 3) (.idx (.var 0) (.bin .sub (.var 2) (.cI 1))), .ret (.or (.cmp .eq (.var 3) (.cS "open")) (.and (.cmp .eq (.var 3) (.cS "soft")) (.cmp .eq (.var 1) (.cS "chief"))))]⟩
def n_next_open : List Str := ["clock", "states", "who", "period", "some", "later"]
def c_next_open : PD.DefM := ⟨"next_open", 4, 6, [.asg (.nm 4) (.lc (.nm 5) (.rng2 (.bin .add (.var 3) (.cI 1)) (.bin .add (.var 0) (.cI 1))) (some (.call "writable" [.var 1, .var 2, .var 5])) (.var 5)), .ret (.ife (.cmp .ne (.var 4) (.lst [])) (.idx (.var 4) (.cI 0)) (.cI 0))]⟩
def n_booked : List Str := ["rule", "clock", "states", "who", "date"]
def c_booked : PD.DefM := ⟨"booked", 5, 5, [.ife (.cmp .gt (.var 4) (.var 1)) [.ret (.cI 0)] [], .ife (.or (.call "writable" [.var 2, .var 3, .var 4]) (.cmp .eq (.idx (.var 0) (.cI 1)) (.cS "own"))) [.ret (.var 4)] [], .ret (.ife (.cmp .eq (.idx (.var 0) (.cI 1)) (.cS "next")) (.call "next_open" [.var 1, .var 2, .var 3, .var 4]) (.cI 0))]⟩
def n_unbooked : List Str := ["rule", "clock", "states", "who", "place"]
def c_unbooked : PD.DefM := ⟨"unbooked", 5, 5, [.ife (.or (.call "writable" [.var 2, .var 3, .var 4]) (.cmp .eq (.idx (.var 0) (.cI 2)) (.cS "strike"))) [.ret (.var 4)] [], .ret (.ife (.cmp .eq (.idx (.var 0) (.cI 2)) (.cS "counter")) (.call "next_open" [.var 1, .var 2, .var 3, .var 4]) (.cI 0))]⟩
def n_closed : List Str := ["rule", "clock", "states", "who", "period", "state", "seal", "one"]
def c_closed : PD.DefM := ⟨"closed", 5, 8, [.par [5, 6] [false, false] [.idx (.var 2) (.bin .sub (.var 4) (.cI 1)), .idx (.var 0) (.cI 5)], .ife (.or (.cmp .gt (.var 4) (.var 1)) (.or (.cmp .eq (.var 5) (.cS "shut")) (.and (.idx (.var 0) (.cI 6)) (.bif .any [.lc (.nm 7) (.slc (.var 2) none (some (.bin .sub (.var 4) (.cI 1)))) none (.cmp .ne (.var 7) (.cS "shut"))])))) [.ret (.cS "")] [], .ife (.or (.cmp .eq (.var 6) (.cS "any")) (.cmp .eq (.var 3) (.cS "chief"))) [.ret (.cS "shut")] [], .ret (.ife (.and (.cmp .eq (.var 6) (.cS "two")) (.cmp .eq (.var 5) (.cS "open"))) (.cS "soft") (.cS ""))]⟩
def n_can_open : List Str := ["rule", "states", "who", "period"]
def c_can_open : PD.DefM := ⟨"can_open", 4, 4, [.ret (.and (.cmp .ne (.idx (.var 0) (.cI 7)) (.cS "never")) (.and (.cmp .eq (.var 2) (.cS "chief")) (.cmp .ne (.idx (.var 1) (.bin .sub (.var 3) (.cI 1))) (.cS "open"))))]⟩
def n_voided : List Str := ["rule", "given", "period"]
def c_voided : PD.DefM := ⟨"voided", 3, 3, [.ife (.cmp .ne (.idx (.var 0) (.cI 7)) (.cS "void")) [.ret (.var 1)] [], .ret (.bin .add (.slc (.var 1) none (some (.bin .sub (.var 2) (.cI 1)))) (.bin .mul (.tup [.cN]) (.bin .add (.bin .sub (.bif .len [.var 1]) (.var 2)) (.cI 1))))]⟩
def n_can_give : List Str := ["rule", "clock", "states", "period"]
def c_can_give : PD.DefM := ⟨"can_give", 4, 4, [.ret (.and (.cmp .le (.var 3) (.var 1)) (.or (.idx (.var 0) (.cI 8)) (.cmp .eq (.idx (.var 2) (.bin .sub (.var 3) (.cI 1))) (.cS "shut"))))]⟩
def n_report : List Str := ["rule", "sums", "given", "period", "opening"]
def c_report : PD.DefM := ⟨"report", 4, 5, [.ife (.and (.cmp .eq (.idx (.var 0) (.cI 3)) (.cS "given")) (.cmp .notN (.idx (.var 2) (.bin .sub (.var 3) (.cI 1))) .cN)) [.ret (.idx (.var 2) (.bin .sub (.var 3) (.cI 1)))] [], .asg (.nm 4) (.bif .sum [.slc (.var 1) none (some (.bin .sub (.var 3) (.cI 1)))]), .ife (.and (.cmp .gt (.var 3) (.cI 1)) (.and (.cmp .eq (.idx (.var 0) (.cI 4)) (.cS "given")) (.cmp .notN (.idx (.var 2) (.bin .sub (.var 3) (.cI 2))) .cN))) [.asg (.nm 4) (.idx (.idx (.var 2) (.bin .sub (.var 3) (.cI 2))) (.cI 2))] [], .ret (.tup [.var 4, .idx (.var 1) (.bin .sub (.var 3) (.cI 1)), .bin .add (.var 4) (.idx (.var 1) (.bin .sub (.var 3) (.cI 1)))])]⟩
def n_after_writing : List Str := ["rule", "stand", "event", "clock", "states", "sums", "life", "place", "given", "word", "who", "there", "gone"]
def c_after_writing : PD.DefM := ⟨"after_writing", 3, 13, [.asg (.tp [3, 4, 5, 6, 7, 8]) (.var 1), .par [9, 10, 11] [false, false, false] [.idx (.var 2) (.cI 0), .idx (.var 2) (.cI 1), .cI 0], .ife (.cmp .notIn (.var 6) (.idx (.dct ["enter", "move", "take"] [.tup [.cS "new"], .tup [.cS "in"], .tup [.cS "in", .cS "moved"]]) (.var 9))) [.ret .cN] [], .ife (.cmp .ne (.var 9) (.cS "take")) [.asg (.nm 11) (.call "booked" [.var 0, .var 3, .var 4, .var 10, .idx (.var 2) (.cI 2)]), .ife (.cmp .eq (.var 11) (.cI 0)) [.ret .cN] []] [], .ife (.cmp .ne (.var 9) (.cS "enter")) [.asg (.nm 12) (.call "unbooked" [.var 0, .var 3, .var 4, .var 10, .var 7]), .ife (.cmp .eq (.var 12) (.cI 0)) [.ret .cN] [], .asg (.nm 5) (.call "put_at" [.var 5, .var 12, .bin .sub (.idx (.var 5) (.bin .sub (.var 12) (.cI 1))) (.cI 1)])] [], .ife (.cmp .ne (.var 11) (.cI 0)) [.asg (.nm 5) (.call "put_at" [.var 5, .var 11, .bin .add (.idx (.var 5) (.bin .sub (.var 11) (.cI 1))) (.cI 1)])] [], .ret (.tup [.var 3, .var 4, .var 5, .idx (.dct ["enter", "move", "take"] [.cS "in", .cS "moved", .cS "out"]) (.var 9), .var 11, .var 8])]⟩
def n_step : List Str := ["rule", "stand", "event", "clock", "states", "sums", "life", "place", "given", "word", "row", "state", "later", "there"]
def c_step : PD.DefM := ⟨"step", 3, 14, [.asg (.tp [3, 4, 5, 6, 7, 8]) (.var 1), .asg (.nm 9) (.idx (.var 2) (.cI 0)), .ife (.cmp .eq (.var 9) (.cS "give")) [.ife (.not (.call "can_give" [.var 0, .var 3, .var 4, .idx (.var 2) (.cI 1)])) [.ret (.tup [.var 1, .cN])] [], .asg (.nm 10) (.call "report" [.var 0, .var 5, .var 8, .idx (.var 2) (.cI 1)]), .ret (.tup [.tup [.var 3, .var 4, .var 5, .var 6, .var 7, .call "put_at" [.var 8, .idx (.var 2) (.cI 1), .var 10]], .var 10])] [], .ife (.cmp .eq (.var 9) (.cS "on")) [.ret (.tup [.bin .add (.tup [.bif .min [.bin .add (.var 3) (.cI 1), .idx (.var 0) (.cI 0)]]) (.slc (.var 1) (some (.cI 1)) none), .cmp .lt (.var 3) (.idx (.var 0) (.cI 0))])] [], .ife (.cmp .eq (.var 9) (.cS "close")) [.asg (.nm 11) (.call "closed" [.var 0, .var 3, .var 4, .idx (.var 2) (.cI 1), .idx (.var 2) (.cI 2)]), .ife (.cmp .eq (.var 11) (.cS "")) [.ret (.tup [.var 1, .cB false])] [], .ret (.tup [.bin .add (.tup [.var 3, .call "put_at" [.var 4, .idx (.var 2) (.cI 2), .var 11]]) (.slc (.var 1) (some (.cI 2)) none), .cB true])] [], .ife (.cmp .eq (.var 9) (.cS "open")) [.ife (.not (.call "can_open" [.var 0, .var 4, .idx (.var 2) (.cI 1), .idx (.var 2) (.cI 2)])) [.ret (.tup [.var 1, .cB false])] [], .asg (.nm 12) (.call "voided" [.var 0, .var 8, .idx (.var 2) (.cI 2)]), .ret (.tup [.tup [.var 3, .call "put_at" [.var 4, .idx (.var 2) (.cI 2), .cS "open"], .var 5, .var 6, .var 7, .var 12], .cB true])] [], .asg (.nm 13) (.call "after_writing" [.var 0, .var 1, .var 2]), .ret (.ife (.cmp .isN (.var 13) .cN) (.tup [.var 1, .cB false]) (.tup [.var 13, .cB true]))]⟩
def n_led : List Str := ["rule", "history", "stand", "found", "event", "one"]
def c_led : PD.DefM := ⟨"led", 2, 6, [.asg (.nm 2) (.call "begin" [.var 0]), .asg (.nm 3) (.loc []), .for_ (.nm 4) (.var 1) [.asg (.tp [2, 5]) (.call "step" [.var 0, .var 2, .var 4]), .appL 3 (.var 5)], .ret (.tup [.var 2, .var 3])]⟩
def n_first_stand : List Str := ["rule"]
def c_first_stand : PD.DefM := ⟨"first_stand", 1, 1, [.exp (.call "need_rule" [.var 0]), .ret (.call "begin" [.var 0])]⟩
def n_stand_behind : List Str := ["rule", "history"]
def c_stand_behind : PD.DefM := ⟨"stand_behind", 2, 2, [.exp (.call "need_rule" [.var 0]), .exp (.call "need_history" [.var 0, .var 1]), .ret (.idx (.call "led" [.var 0, .var 1]) (.cI 0))]⟩
def n_told : List Str := ["rule", "history"]
def c_told : PD.DefM := ⟨"told", 2, 2, [.exp (.call "need_rule" [.var 0]), .exp (.call "need_history" [.var 0, .var 1]), .ret (.idx (.call "led" [.var 0, .var 1]) (.cI 1))]⟩
def n_law_urn : List Str := ["_law_cell", "_law_salt", "_law_great"]
def c_law_urn : PD.DefM := ⟨"_law_urn", 2, 3, [.asg (.nm 2) (.ife (.cmp .ge (.var 0) (.bin .pow (.cI 10) (.cI 18))) (.bin .fdiv (.var 0) (.cI 3)) (.cI 0)), .ret (.loc [.var 2, .bin .add (.bin .mod (.bif .int [.bin .add (.bin .mul (.var 0) (.cI 29)) (.bin .mul (.cI 7001) (.var 1))]) (.cI 2038074743)) (.cI 3)])]⟩
def n_law_lot : List Str := ["_law_urn_here", "_law_many", "_law_found", "_law_wide"]
def c_law_lot : PD.DefM := ⟨"_law_lot", 2, 4, [.ife (.cmp .gt (.idx (.var 0) (.cI 0)) (.cI 0)) [.asg (.nm 2) (.bin .mod (.bif .int [.idx (.var 0) (.cI 0)]) (.var 1)), .set 0 (.cI 0) (.bin .fdiv (.idx (.var 0) (.cI 0)) (.var 1)), .ret (.var 2)] [], .set 0 (.cI 1) (.bin .mod (.bif .int [.bin .add (.bin .mul (.idx (.var 0) (.cI 1)) (.cI 742938)) (.cI 46337)]) (.cI 2147483629)), .asg (.nm 3) (.bin .mod (.bif .int [.bin .mul (.idx (.var 0) (.cI 1)) (.bin .add (.idx (.var 0) (.cI 1)) (.cI 101))]) (.cI 2147483587)), .ret (.bin .mod (.bif .int [.bin .fdiv (.var 3) (.cI 677)]) (.var 1))]⟩
def n_law_any : List Str := ["_law_urn_here", "_law_things"]
def c_law_any : PD.DefM := ⟨"_law_any", 2, 2, [.ret (.idx (.var 1) (.call "_law_lot" [.var 0, .bif .len [.var 1]]))]⟩
def n_law_values : List Str := ["_law_found"]
def c_law_values : PD.DefM := ⟨"_law_values", 0, 1, [.asg (.nm 0) (.lst [.lst [.cI 2, .cI 3], .lst [.cS "next", .cS "own", .cS "refuse"], .lst [.cS "counter", .cS "refuse", .cS "strike"], .lst [.cS "given", .cS "now"], .lst [.cS "given", .cS "now"]]), .ret (.bin .add (.var 0) (.lst [.lst [.cS "any", .cS "chief", .cS "two"], .lst [.cB false, .cB true], .lst [.cS "chief", .cS "never", .cS "void"], .lst [.cB false, .cB true]]))]⟩
def n_law_rule : List Str := ["_law_urn_here", "_law_periods", "_law_some"]
def c_law_rule : PD.DefM := ⟨"_law_rule", 2, 3, [.ret (.bin .add (.tup [.var 1]) (.bif .tuple [.lc (.nm 2) (.slc (.call "_law_values" []) (some (.cI 1)) none) none (.call "_law_any" [.var 0, .var 2])]))]⟩
def n_law_event : List Str := ["_law_urn_here", "_law_periods", "_law_some", "_law_word", "_law_who", "_law_number"]
def c_law_event : PD.DefM := ⟨"_law_event", 2, 6, [.asg (.nm 2) (.lst [.cS "enter", .cS "enter", .cS "take", .cS "move", .cS "close", .cS "close", .cS "close", .cS "open", .cS "give", .cS "give", .cS "give", .cS "on"]), .asg (.nm 3) (.call "_law_any" [.var 0, .var 2]), .par [4, 5] [false, false] [.call "_law_any" [.var 0, .lst [.cS "chief", .cS "clerk"]], .bin .add (.cI 1) (.call "_law_lot" [.var 0, .var 1])], .ife (.cmp .eq (.var 3) (.cS "on")) [.ret (.tup [.cS "on"])] [], .ife (.cmp .eq (.var 3) (.cS "give")) [.ret (.tup [.cS "give", .var 5])] [], .ret (.ife (.cmp .eq (.var 3) (.cS "take")) (.tup [.cS "take", .var 4]) (.tup [.var 3, .var 4, .var 5]))]⟩
def n_law_history : List Str := ["_law_urn_here", "_law_periods", "_law_most", "_law_turn"]
def c_law_history : PD.DefM := ⟨"_law_history", 3, 4, [.ret (.bif .tuple [.lc (.nm 3) (.rng1 (.call "_law_lot" [.var 0, .bin .add (.var 2) (.cI 1)])) none (.call "_law_event" [.var 0, .var 1])])]⟩
def n_law_new : List Str := ["_law_rule_here"]
def c_law_new : PD.DefM := ⟨"_law_new", 1, 1, [.ret (.tup [.cI 1, .bin .mul (.tup [.cS "open"]) (.idx (.var 0) (.cI 0)), .bin .mul (.tup [.cI 0]) (.idx (.var 0) (.cI 0)), .cS "new", .cI 0, .bin .mul (.tup [.cN]) (.idx (.var 0) (.cI 0))])]⟩
def n_law_changed : List Str := ["_law_row", "_law_at", "_law_value", "_law_found"]
def c_law_changed : PD.DefM := ⟨"_law_changed", 3, 4, [.ownL 3 (.var 0), .setO 3 (.bin .sub (.var 1) (.cI 1)) (.var 2), .frz 3, .ret (.bif .tuple [.var 3])]⟩
def n_law_writes : List Str := ["_law_stand", "_law_who", "_law_good", "_law_number"]
def c_law_writes : PD.DefM := ⟨"_law_writes", 2, 4, [.asg (.nm 2) (.ife (.cmp .eq (.var 1) (.cS "chief")) (.tup [.cS "open", .cS "soft"]) (.tup [.cS "open"])), .ret (.lc (.nm 3) (.rng2 (.cI 1) (.bin .add (.idx (.var 0) (.cI 0)) (.cI 1))) (some (.cmp .in_ (.idx (.idx (.var 0) (.cI 1)) (.bin .sub (.var 3) (.cI 1))) (.var 2))) (.var 3))]⟩
def n_law_put_in : List Str := ["_law_rule_here", "_law_stand", "_law_who", "_law_date", "_law_free", "_law_later", "_law_number"]
def c_law_put_in : PD.DefM := ⟨"_law_put_in", 4, 7, [.asg (.nm 4) (.call "_law_writes" [.var 1, .var 2]), .ife (.cmp .gt (.var 3) (.idx (.var 1) (.cI 0))) [.ret (.cI 0)] [], .ife (.or (.cmp .in_ (.var 3) (.var 4)) (.cmp .eq (.idx (.var 0) (.cI 1)) (.cS "own"))) [.ret (.var 3)] [], .asg (.nm 5) (.lc (.nm 6) (.var 4) (some (.cmp .gt (.var 6) (.var 3))) (.var 6)), .ret (.ife (.and (.cmp .eq (.idx (.var 0) (.cI 1)) (.cS "next")) (.cmp .ne (.var 5) (.lst []))) (.idx (.var 5) (.cI 0)) (.cI 0))]⟩
def n_law_put_out : List Str := ["_law_rule_here", "_law_stand", "_law_who", "_law_free", "_law_place", "_law_later", "_law_number"]
def c_law_put_out : PD.DefM := ⟨"_law_put_out", 3, 7, [.par [3, 4] [false, false] [.call "_law_writes" [.var 1, .var 2], .idx (.var 1) (.cI 4)], .ife (.or (.cmp .in_ (.var 4) (.var 3)) (.cmp .eq (.idx (.var 0) (.cI 2)) (.cS "strike"))) [.ret (.var 4)] [], .asg (.nm 5) (.lc (.nm 6) (.var 3) (some (.cmp .gt (.var 6) (.var 4))) (.var 6)), .ret (.ife (.and (.cmp .eq (.idx (.var 0) (.cI 2)) (.cS "counter")) (.cmp .ne (.var 5) (.lst []))) (.idx (.var 5) (.cI 0)) (.cI 0))]⟩
def n_law_written : List Str := ["_law_rule_here", "_law_stand", "_law_event_here", "_law_word", "_law_who", "_law_clock", "_law_states", "_law_sums", "_law_life", "_law_place", "_law_reports", "_law_old", "_law_there", "_law_gone"]
def c_law_written : PD.DefM := ⟨"_law_written", 3, 14, [.par [3, 4] [false, false] [.idx (.var 2) (.cI 0), .idx (.var 2) (.cI 1)], .asg (.tp [5, 6, 7, 8, 9, 10]) (.var 1), .asg (.nm 11) (.idx (.dct ["enter", "move", "take"] [.lst [.cS "new"], .lst [.cS "in"], .lst [.cS "in", .cS "moved"]]) (.var 3)), .asg (.nm 12) (.ife (.cmp .ne (.var 3) (.cS "take")) (.call "_law_put_in" [.var 0, .var 1, .var 4, .idx (.var 2) (.cI 2)]) (.cI 0)), .asg (.nm 13) (.ife (.and (.cmp .ne (.var 3) (.cS "enter")) (.cmp .in_ (.var 8) (.var 11))) (.call "_law_put_out" [.var 0, .var 1, .var 4]) (.cI 0)), .ife (.or (.cmp .notIn (.var 8) (.var 11)) (.or (.and (.cmp .ne (.var 3) (.cS "take")) (.cmp .eq (.var 12) (.cI 0))) (.and (.cmp .ne (.var 3) (.cS "enter")) (.cmp .eq (.var 13) (.cI 0))))) [.ret (.var 1)] [], .ife (.cmp .gt (.var 13) (.cI 0)) [.asg (.nm 7) (.call "_law_changed" [.var 7, .var 13, .bin .sub (.idx (.var 7) (.bin .sub (.var 13) (.cI 1))) (.cI 1)])] [], .ife (.cmp .gt (.var 12) (.cI 0)) [.asg (.nm 7) (.call "_law_changed" [.var 7, .var 12, .bin .add (.idx (.var 7) (.bin .sub (.var 12) (.cI 1))) (.cI 1)])] [], .ret (.tup [.var 5, .var 6, .var 7, .idx (.dct ["enter", "move", "take"] [.cS "in", .cS "moved", .cS "out"]) (.var 3), .var 12, .var 10])]⟩
def n_law_shut_so : List Str := ["_law_rule_here", "_law_stand", "_law_event_here", "_law_clock", "_law_states", "_law_sums", "_law_life", "_law_place", "_law_reports", "_law_word", "_law_who", "_law_number", "_law_state", "_law_one"]
def c_law_shut_so : PD.DefM := ⟨"_law_shut_so", 3, 14, [.asg (.tp [3, 4, 5, 6, 7, 8]) (.var 1), .asg (.tp [9, 10, 11]) (.var 2), .asg (.nm 12) (.idx (.var 4) (.bin .sub (.var 11) (.cI 1))), .ife (.cmp .eq (.var 9) (.cS "open")) [.ife (.or (.cmp .eq (.idx (.var 0) (.cI 7)) (.cS "never")) (.or (.cmp .eq (.var 10) (.cS "clerk")) (.cmp .eq (.var 12) (.cS "open")))) [.ret (.var 1)] [], .ife (.cmp .eq (.idx (.var 0) (.cI 7)) (.cS "void")) [.asg (.nm 8) (.bin .add (.slc (.var 8) none (some (.bin .sub (.var 11) (.cI 1)))) (.bin .mul (.tup [.cN]) (.bin .sub (.bin .add (.idx (.var 0) (.cI 0)) (.cI 1)) (.var 11))))] [], .ret (.tup [.var 3, .call "_law_changed" [.var 4, .var 11, .cS "open"], .var 5, .var 6, .var 7, .var 8])] [], .ife (.or (.cmp .gt (.var 11) (.var 3)) (.or (.cmp .eq (.var 12) (.cS "shut")) (.and (.idx (.var 0) (.cI 6)) (.cmp .ne (.lc (.nm 13) (.slc (.var 4) none (some (.bin .sub (.var 11) (.cI 1)))) (some (.cmp .ne (.var 13) (.cS "shut"))) (.var 13)) (.lst []))))) [.ret (.var 1)] [], .ife (.and (.cmp .ne (.idx (.var 0) (.cI 5)) (.cS "any")) (.cmp .eq (.var 10) (.cS "clerk"))) [.ife (.or (.cmp .eq (.idx (.var 0) (.cI 5)) (.cS "chief")) (.cmp .eq (.var 12) (.cS "soft"))) [.ret (.var 1)] [], .ret (.tup [.var 3, .call "_law_changed" [.var 4, .var 11, .cS "soft"], .var 5, .var 6, .var 7, .var 8])] [], .ret (.tup [.var 3, .call "_law_changed" [.var 4, .var 11, .cS "shut"], .var 5, .var 6, .var 7, .var 8])]⟩
def n_law_shown : List Str := ["_law_rule_here", "_law_stand", "_law_number", "_law_clock", "_law_states", "_law_sums", "_law_life", "_law_place", "_law_reports", "_law_ahead"]
def c_law_shown : PD.DefM := ⟨"_law_shown", 3, 10, [.asg (.tp [3, 4, 5, 6, 7, 8]) (.var 1), .ife (.or (.cmp .gt (.var 2) (.var 3)) (.and (.not (.idx (.var 0) (.cI 8))) (.cmp .ne (.idx (.var 4) (.bin .sub (.var 2) (.cI 1))) (.cS "shut")))) [.ret .cN] [], .ife (.and (.cmp .eq (.idx (.var 0) (.cI 3)) (.cS "given")) (.cmp .notN (.idx (.var 8) (.bin .sub (.var 2) (.cI 1))) .cN)) [.ret (.idx (.var 8) (.bin .sub (.var 2) (.cI 1)))] [], .asg (.nm 9) (.bif .sum [.slc (.bif .list [.var 5]) none (some (.bin .sub (.var 2) (.cI 1)))]), .ife (.and (.cmp .gt (.var 2) (.cI 1)) (.and (.cmp .eq (.idx (.var 0) (.cI 4)) (.cS "given")) (.cmp .notN (.idx (.var 8) (.bin .sub (.var 2) (.cI 2))) .cN))) [.asg (.nm 9) (.idx (.idx (.var 8) (.bin .sub (.var 2) (.cI 2))) (.cI 2))] [], .ret (.tup [.var 9, .idx (.var 5) (.bin .sub (.var 2) (.cI 1)), .bin .add (.var 9) (.idx (.var 5) (.bin .sub (.var 2) (.cI 1)))])]⟩
def n_law_on : List Str := ["_law_rule_here", "_law_stand", "_law_event_here", "_law_row"]
def c_law_on : PD.DefM := ⟨"_law_on", 3, 4, [.ife (.cmp .eq (.idx (.var 2) (.cI 0)) (.cS "on")) [.ret (.bin .add (.tup [.bif .min [.idx (.var 0) (.cI 0), .bin .add (.idx (.var 1) (.cI 0)) (.cI 1)]]) (.slc (.var 1) (some (.cI 1)) none))] [], .ife (.cmp .eq (.idx (.var 2) (.cI 0)) (.cS "give")) [.asg (.nm 3) (.call "_law_shown" [.var 0, .var 1, .idx (.var 2) (.cI 1)]), .ret (.ife (.cmp .isN (.var 3) .cN) (.var 1) (.bin .add (.slc (.var 1) none (some (.cI 5))) (.tup [.call "_law_changed" [.idx (.var 1) (.cI 5), .idx (.var 2) (.cI 1), .var 3]])))] [], .ret (.ife (.cmp .in_ (.idx (.var 2) (.cI 0)) (.tup [.cS "close", .cS "open"])) (.call "_law_shut_so" [.var 0, .var 1, .var 2]) (.call "_law_written" [.var 0, .var 1, .var 2]))]⟩
def n_law_told : List Str := ["_law_rule_here", "_law_stand", "_law_event_here"]
def c_law_told : PD.DefM := ⟨"_law_told", 3, 3, [.ife (.cmp .eq (.idx (.var 2) (.cI 0)) (.cS "give")) [.ret (.call "_law_shown" [.var 0, .var 1, .idx (.var 2) (.cI 1)])] [], .ret (.cmp .ne (.call "_law_on" [.var 0, .var 1, .var 2]) (.var 1))]⟩
def n_law_refused : List Str := ["_law_rule_here", "_law_value"]
def c_law_refused : PD.DefM := ⟨"_law_refused", 2, 2, [.try_ [.exp (.call "told" [.var 0, .var 1])] [("InvalidHistory", .bl true), ("BookError", .bl false)], .ret (.cB false)]⟩
def n_law : List Str := ["_law_script", "_law_cell", "_law_urn_here", "_law_turn", "_law_rule_here", "_law_history_here", "_law_stand", "_law_due", "_law_event_here", "_law_found", "_law_odd", "_law_at"]
def c_law : PD.DefM := ⟨"law", 1, 12, [.for_ (.nm 1) (.slc (.bin .add (.lst [.cI 0]) (.var 0)) none (some (.cI 10))) [.asg (.nm 2) (.call "_law_urn" [.var 1, .cI 9]), .for_ (.nm 3) (.rng1 (.cI 6)) [.asg (.nm 4) (.call "_law_rule" [.var 2, .bin .add (.cI 2) (.call "_law_lot" [.var 2, .cI 2])]), .par [5, 6, 7] [false, false, true] [.call "_law_history" [.var 2, .idx (.var 4) (.cI 0), .cI 30], .call "_law_new" [.var 4], .lst []], .ife (.cmp .ne (.call "first_stand" [.var 4]) (.var 6)) [.ret (.cB false)] [], .for_ (.nm 8) (.var 5) [.app 7 (.call "_law_told" [.var 4, .var 6, .var 8]), .asg (.nm 6) (.call "_law_on" [.var 4, .var 6, .var 8])], .asg (.nm 9) (.call "told" [.var 4, .var 5]), .frz 7, .ife (.or (.cmp .ne (.call "stand_behind" [.var 4, .var 5]) (.var 6)) (.or (.cmpL true (.var 9) (.var 7)) (.not (.isL (.var 9))))) [.ret (.cB false)] [], .frz 7, .ife (.cmp .ne (.lc (.nm 11) (.rng1 (.bif .len [.var 7])) (some (.cmp .ne (.isi .bool (.idx (.var 9) (.var 11))) (.isi .bool (.idx (.var 7) (.var 11))))) (.var 11)) (.lst [])) [.ret (.cB false)] [], .appL 9 .cN, .frz 7, .ife (.cmpL true (.call "told" [.var 4, .var 5]) (.var 7)) [.ret (.cB false)] []], .for_ (.nm 10) (.tup [.cN, .lst [], .tup [.tup [.cS "give", .cI 0]], .tup [.cS "on"], .bin .mul (.tup [.tup [.cS "on"]]) (.cI 61), .tup [.tup [.cS "take"]]]) [.ife (.not (.call "_law_refused" [.var 4, .var 10])) [.ret (.cB false)] []]], .asg (.nm 4) (.tup [.cI 3, .cS "next", .cS "counter", .cS "now", .cS "now", .cS "two", .cB false, .cS "void", .cB true]), .asg (.nm 5) (.tup [.tup [.cS "on"], .tup [.cS "enter", .cS "clerk", .cI 1], .tup [.cS "close", .cS "clerk", .cI 1], .tup [.cS "take", .cS "clerk"]]), .asg (.nm 5) (.bin .add (.var 5) (.tup [.tup [.cS "give", .cI 2], .tup [.cS "close", .cS "chief", .cI 1]])), .ife (.cmpL true (.call "told" [.var 4, .var 5]) (.lst [.cB true, .cB true, .cB true, .cB true, .tup [.cI 1, .neg (.cI 1), .cI 0], .cB true])) [.ret (.cB false)] [], .asg (.nm 7) (.tup [.cI 2, .tup [.cS "shut", .cS "open", .cS "open"], .tup [.cI 1, .neg (.cI 1), .cI 0], .cS "out", .cI 0, .tup [.cN, .tup [.cI 1, .neg (.cI 1), .cI 0], .cN]]), .frz 7, .ife (.cmp .ne (.call "stand_behind" [.var 4, .var 5]) (.var 7)) [.ret (.cB false)] [], .asg (.nm 7) (.tup [.cI 2, .bin .mul (.tup [.cS "open"]) (.cI 3), .tup [.cI 1, .neg (.cI 1), .cI 0], .cS "out", .cI 0, .bin .mul (.tup [.cN]) (.cI 3)]), .frz 7, .ret (.cmp .eq (.call "stand_behind" [.var 4, .bin .add (.var 5) (.tup [.tup [.cS "open", .cS "chief", .cI 1]])]) (.var 7))]⟩
def gl : List (Str × PD.D) := [("PART_NAMES", .tup ((["periods", "late", "back", "show", "carry", "seal", "order", "again", "early"] : List Str).map PD.D.str)), ("PEOPLE", .tup ((["chief", "clerk"] : List Str).map PD.D.str)), ("MOST_EVENTS", .int 60)]
def exl : List ((Str × Str) × Bool) := [(("InvalidRule", "InvalidHistory"), false), (("InvalidRule", "BookError"), true), (("InvalidHistory", "BookError"), true), (("BookError", "BookError"), true), (("InvalidHistory", "InvalidHistory"), true), (("InvalidRule", "InvalidRule"), true)]
def T0 : PD.Tab := ⟨fun _ => none, fun x => gl.lookup x, fun x y => exl.lookup (x, y)⟩
def T1 : PD.Tab := PD.addT T0 c_law_urn
def T2 : PD.Tab := PD.addT T1 c_is_same
def T3 : PD.Tab := PD.addT T2 c_values_of
def T4 : PD.Tab := PD.addT T3 c_is_value
def T5 : PD.Tab := PD.addT T4 c_is_rule
def T6 : PD.Tab := PD.addT T5 c_need_rule
def T7 : PD.Tab := PD.addT T6 c_is_who
def T8 : PD.Tab := PD.addT T7 c_is_number
def T9 : PD.Tab := PD.addT T8 c_is_event
def T10 : PD.Tab := PD.addT T9 c_are_events
def T11 : PD.Tab := PD.addT T10 c_need_history
def T12 : PD.Tab := PD.addT T11 c_begin
def T13 : PD.Tab := PD.addT T12 c_writable
def T14 : PD.Tab := PD.addT T13 c_next_open
def T15 : PD.Tab := PD.addT T14 c_booked
def T16 : PD.Tab := PD.addT T15 c_unbooked
def T17 : PD.Tab := PD.addT T16 c_put_at
def T18 : PD.Tab := PD.addT T17 c_after_writing
def T19 : PD.Tab := PD.addT T18 c_report
def T20 : PD.Tab := PD.addT T19 c_closed
def T21 : PD.Tab := PD.addT T20 c_voided
def T22 : PD.Tab := PD.addT T21 c_can_give
def T23 : PD.Tab := PD.addT T22 c_can_open
def T24 : PD.Tab := PD.addT T23 c_step
def T25 : PD.Tab := PD.addT T24 c_led
def T26 : PD.Tab := PD.addT T25 c_told
def T27 : PD.Tab := PD.addT T26 c_stand_behind
def T28 : PD.Tab := PD.addT T27 c_law_lot
def T29 : PD.Tab := PD.addT T28 c_law_any
def T30 : PD.Tab := PD.addT T29 c_law_values
def T31 : PD.Tab := PD.addT T30 c_law_rule
def T32 : PD.Tab := PD.addT T31 c_law_event
def T33 : PD.Tab := PD.addT T32 c_law_history
def T34 : PD.Tab := PD.addT T33 c_law_new
def T35 : PD.Tab := PD.addT T34 c_first_stand
def T36 : PD.Tab := PD.addT T35 c_law_shown
def T37 : PD.Tab := PD.addT T36 c_law_changed
def T38 : PD.Tab := PD.addT T37 c_law_shut_so
def T39 : PD.Tab := PD.addT T38 c_law_writes
def T40 : PD.Tab := PD.addT T39 c_law_put_in
def T41 : PD.Tab := PD.addT T40 c_law_put_out
def T42 : PD.Tab := PD.addT T41 c_law_written
def T43 : PD.Tab := PD.addT T42 c_law_on
def T44 : PD.Tab := PD.addT T43 c_law_refused
def T45 : PD.Tab := PD.addT T44 c_law_told
section
def f_law_urn : List PD.D → PD.M PD.D := PD.run T0 2 3 c_law_urn.body
def f_is_same : List PD.D → PD.M PD.D := PD.run T1 2 2 c_is_same.body
def f_values_of : List PD.D → PD.M PD.D := PD.run T2 1 3 c_values_of.body
def f_is_value : List PD.D → PD.M PD.D := PD.run T3 2 3 c_is_value.body
def f_is_rule : List PD.D → PD.M PD.D := PD.run T4 1 3 c_is_rule.body
def f_need_rule : List PD.D → PD.M PD.D := PD.run T5 1 1 c_need_rule.body
def f_is_who : List PD.D → PD.M PD.D := PD.run T6 1 1 c_is_who.body
def f_is_number : List PD.D → PD.M PD.D := PD.run T7 3 3 c_is_number.body
def f_is_event : List PD.D → PD.M PD.D := PD.run T8 2 2 c_is_event.body
def f_are_events : List PD.D → PD.M PD.D := PD.run T9 2 3 c_are_events.body
def f_need_history : List PD.D → PD.M PD.D := PD.run T10 2 2 c_need_history.body
def f_begin : List PD.D → PD.M PD.D := PD.run T11 1 2 c_begin.body
def f_writable : List PD.D → PD.M PD.D := PD.run T12 3 4 c_writable.body
def f_next_open : List PD.D → PD.M PD.D := PD.run T13 4 6 c_next_open.body
def f_booked : List PD.D → PD.M PD.D := PD.run T14 5 5 c_booked.body
def f_unbooked : List PD.D → PD.M PD.D := PD.run T15 5 5 c_unbooked.body
def f_put_at : List PD.D → PD.M PD.D := PD.run T16 3 3 c_put_at.body
def f_after_writing : List PD.D → PD.M PD.D := PD.run T17 3 13 c_after_writing.body
def f_report : List PD.D → PD.M PD.D := PD.run T18 4 5 c_report.body
def f_closed : List PD.D → PD.M PD.D := PD.run T19 5 8 c_closed.body
def f_voided : List PD.D → PD.M PD.D := PD.run T20 3 3 c_voided.body
def f_can_give : List PD.D → PD.M PD.D := PD.run T21 4 4 c_can_give.body
def f_can_open : List PD.D → PD.M PD.D := PD.run T22 4 4 c_can_open.body
def f_step : List PD.D → PD.M PD.D := PD.run T23 3 14 c_step.body
def f_led : List PD.D → PD.M PD.D := PD.run T24 2 6 c_led.body
def f_told : List PD.D → PD.M PD.D := PD.run T25 2 2 c_told.body
def f_stand_behind : List PD.D → PD.M PD.D := PD.run T26 2 2 c_stand_behind.body
def f_law_lot : List PD.D → PD.M PD.D := PD.run T27 2 4 c_law_lot.body
def f_law_any : List PD.D → PD.M PD.D := PD.run T28 2 2 c_law_any.body
def f_law_values : List PD.D → PD.M PD.D := PD.run T29 0 1 c_law_values.body
def f_law_rule : List PD.D → PD.M PD.D := PD.run T30 2 3 c_law_rule.body
def f_law_event : List PD.D → PD.M PD.D := PD.run T31 2 6 c_law_event.body
def f_law_history : List PD.D → PD.M PD.D := PD.run T32 3 4 c_law_history.body
def f_law_new : List PD.D → PD.M PD.D := PD.run T33 1 1 c_law_new.body
def f_first_stand : List PD.D → PD.M PD.D := PD.run T34 1 1 c_first_stand.body
def f_law_shown : List PD.D → PD.M PD.D := PD.run T35 3 10 c_law_shown.body
def f_law_changed : List PD.D → PD.M PD.D := PD.run T36 3 4 c_law_changed.body
def f_law_shut_so : List PD.D → PD.M PD.D := PD.run T37 3 14 c_law_shut_so.body
def f_law_writes : List PD.D → PD.M PD.D := PD.run T38 2 4 c_law_writes.body
def f_law_put_in : List PD.D → PD.M PD.D := PD.run T39 4 7 c_law_put_in.body
def f_law_put_out : List PD.D → PD.M PD.D := PD.run T40 3 7 c_law_put_out.body
def f_law_written : List PD.D → PD.M PD.D := PD.run T41 3 14 c_law_written.body
def f_law_on : List PD.D → PD.M PD.D := PD.run T42 3 4 c_law_on.body
def f_law_refused : List PD.D → PD.M PD.D := PD.run T43 2 2 c_law_refused.body
def f_law_told : List PD.D → PD.M PD.D := PD.run T44 3 3 c_law_told.body
theorem t_is_value_is_same : T3.fn "is_same" = some f_is_same := rfl
theorem t_is_value_values_of : T3.fn "values_of" = some f_values_of := rfl
theorem t_is_rule_PART_NAMES : T4.gl "PART_NAMES" = some (.tup ((["periods", "late", "back", "show", "carry", "seal", "order", "again", "early"] : List Str).map PD.D.str)) := rfl
theorem t_is_rule_is_value : T4.fn "is_value" = some f_is_value := rfl
theorem t_need_rule_is_rule : T5.fn "is_rule" = some f_is_rule := rfl
theorem t_is_who_PEOPLE : T6.gl "PEOPLE" = some (.tup ((["chief", "clerk"] : List Str).map PD.D.str)) := rfl
theorem t_is_event_is_who : T8.fn "is_who" = some f_is_who := rfl
theorem t_is_event_is_number : T8.fn "is_number" = some f_is_number := rfl
theorem t_are_events_MOST_EVENTS : T9.gl "MOST_EVENTS" = some (.int 60) := rfl
theorem t_are_events_is_event : T9.fn "is_event" = some f_is_event := rfl
theorem t_need_history_are_events : T10.fn "are_events" = some f_are_events := rfl
theorem t_next_open_writable : T13.fn "writable" = some f_writable := rfl
theorem t_booked_writable : T14.fn "writable" = some f_writable := rfl
theorem t_booked_next_open : T14.fn "next_open" = some f_next_open := rfl
theorem t_unbooked_writable : T15.fn "writable" = some f_writable := rfl
theorem t_unbooked_next_open : T15.fn "next_open" = some f_next_open := rfl
theorem t_after_writing_booked : T17.fn "booked" = some f_booked := rfl
theorem t_after_writing_unbooked : T17.fn "unbooked" = some f_unbooked := rfl
theorem t_after_writing_put_at : T17.fn "put_at" = some f_put_at := rfl
theorem t_step_after_writing : T23.fn "after_writing" = some f_after_writing := rfl
theorem t_step_report : T23.fn "report" = some f_report := rfl
theorem t_step_closed : T23.fn "closed" = some f_closed := rfl
theorem t_step_voided : T23.fn "voided" = some f_voided := rfl
theorem t_step_can_give : T23.fn "can_give" = some f_can_give := rfl
theorem t_step_can_open : T23.fn "can_open" = some f_can_open := rfl
theorem t_step_put_at : T23.fn "put_at" = some f_put_at := rfl
theorem t_led_begin : T24.fn "begin" = some f_begin := rfl
theorem t_led_step : T24.fn "step" = some f_step := rfl
theorem t_told_need_rule : T25.fn "need_rule" = some f_need_rule := rfl
theorem t_told_need_history : T25.fn "need_history" = some f_need_history := rfl
theorem t_told_led : T25.fn "led" = some f_led := rfl
theorem t_stand_behind_need_rule : T26.fn "need_rule" = some f_need_rule := rfl
theorem t_stand_behind_need_history : T26.fn "need_history" = some f_need_history := rfl
theorem t_stand_behind_led : T26.fn "led" = some f_led := rfl
theorem t_law_any_law_lot : T28.fn "_law_lot" = some f_law_lot := rfl
theorem t_law_rule_law_any : T30.fn "_law_any" = some f_law_any := rfl
theorem t_law_rule_law_values : T30.fn "_law_values" = some f_law_values := rfl
theorem t_law_event_law_any : T31.fn "_law_any" = some f_law_any := rfl
theorem t_law_event_law_lot : T31.fn "_law_lot" = some f_law_lot := rfl
theorem t_law_history_law_event : T32.fn "_law_event" = some f_law_event := rfl
theorem t_law_history_law_lot : T32.fn "_law_lot" = some f_law_lot := rfl
theorem t_first_stand_need_rule : T34.fn "need_rule" = some f_need_rule := rfl
theorem t_first_stand_begin : T34.fn "begin" = some f_begin := rfl
theorem t_law_shut_so_law_changed : T37.fn "_law_changed" = some f_law_changed := rfl
theorem t_law_put_in_law_writes : T39.fn "_law_writes" = some f_law_writes := rfl
theorem t_law_put_out_law_writes : T40.fn "_law_writes" = some f_law_writes := rfl
theorem t_law_written_law_put_in : T41.fn "_law_put_in" = some f_law_put_in := rfl
theorem t_law_written_law_put_out : T41.fn "_law_put_out" = some f_law_put_out := rfl
theorem t_law_written_law_changed : T41.fn "_law_changed" = some f_law_changed := rfl
theorem t_law_on_law_shown : T42.fn "_law_shown" = some f_law_shown := rfl
theorem t_law_on_law_shut_so : T42.fn "_law_shut_so" = some f_law_shut_so := rfl
theorem t_law_on_law_written : T42.fn "_law_written" = some f_law_written := rfl
theorem t_law_on_law_changed : T42.fn "_law_changed" = some f_law_changed := rfl
theorem t_law_refused_told : T43.fn "told" = some f_told := rfl
theorem t_law_told_law_shown : T44.fn "_law_shown" = some f_law_shown := rfl
theorem t_law_told_law_on : T44.fn "_law_on" = some f_law_on := rfl
theorem t_law_law_urn : T45.fn "_law_urn" = some f_law_urn := rfl
theorem t_law_told : T45.fn "told" = some f_told := rfl
theorem t_law_stand_behind : T45.fn "stand_behind" = some f_stand_behind := rfl
theorem t_law_law_rule : T45.fn "_law_rule" = some f_law_rule := rfl
theorem t_law_law_history : T45.fn "_law_history" = some f_law_history := rfl
theorem t_law_law_new : T45.fn "_law_new" = some f_law_new := rfl
theorem t_law_first_stand : T45.fn "first_stand" = some f_first_stand := rfl
theorem t_law_law_on : T45.fn "_law_on" = some f_law_on := rfl
theorem t_law_law_refused : T45.fn "_law_refused" = some f_law_refused := rfl
theorem t_law_law_lot : T45.fn "_law_lot" = some f_law_lot := rfl
theorem t_law_law_told : T45.fn "_law_told" = some f_law_told := rfl
end
end LW

set_option Elab.async false
set_option linter.all false
set_option maxRecDepth 100000
set_option maxHeartbeats 8000000
namespace LW
open PySem PD
/-! ### where a writing goes -/
def writB (st who : Str) : Bool := decide (st = "open") || (decide (st = "soft") && decide (who = "chief"))
def stAt (sts : List Str) (n : Nat) : Str := sts.getD (n - 1) ""
def nextF (sts : List Str) (clock : Nat) (who : Str) (n : Nat) : Nat := match ((List.range clock).map (· + 1)).filter (fun l => decide (n < l) && writB (stAt sts l) who) with
  | l :: _ => l
  | [] => 0
def bookF (late : Str) (clock : Nat) (sts : List Str) (who : Str) (date : Nat) : Nat :=
  if clock < date then 0 else if writB (stAt sts date) who || decide (late = "own") then date else if late = "next" then nextF sts clock who date else 0
def unbookF (back : Str) (clock : Nat) (sts : List Str) (who : Str) (place : Nat) : Nat :=
  if writB (stAt sts place) who || decide (back = "strike") then place else if back = "counter" then nextF sts clock who place else 0
def lvs : List Str := ["open", "soft", "shut"]
def stsL : Nat → List (List Str)
  | 0 => [[]]
  | n + 1 => lvs.flatMap fun a => (stsL n).map fun r => a :: r
def tS' (sts : List Str) : D := .tup (sts.map .str)
def dom2 (p : Nat) : List (List Str × (Str × Nat)) := (stsL p).flatMap fun st => (["chief", "clerk"] : List Str).flatMap fun w => (List.range p).map fun d => (st, (w, d + 1))
def dom2c (p c : Nat) : List (List Str × (Str × Nat)) := (stsL p).flatMap fun st => (["chief", "clerk"] : List Str).flatMap fun w => (List.range c).map fun d => (st, (w, d + 1))
theorem book2 (late : Str) (hl : late ∈ (["next", "own", "refuse"] : List Str)) (clock : Nat) (hc : clock ∈ ([1, 2] : List Nat)) (y2 y3 y4 y5 y6 y7 y8 : D) (s : Sto) :
    (dom2 2).map (fun q => (f_booked [.tup [.int 2, .str late, y2, y3, y4, y5, y6, y7, y8], .int clock, tS' q.1, .str q.2.1, .int q.2.2]).at s) = mapR (fun q => .ok (.int (bookF late clock q.1 q.2.1 q.2.2 : Nat)) s) (dom2 2) := by
  simp only [List.mem_cons, List.not_mem_nil, or_false] at hl hc
  rcases hl with rfl | rfl | rfl <;> rcases hc with rfl | rfl <;> kernel_rfl
theorem put2 (late : Str) (hl : late ∈ (["next", "own", "refuse"] : List Str)) (clock : Nat) (hc : clock ∈ ([1, 2] : List Nat)) (y2 y3 y4 y5 y6 y7 y8 z1 z2 z3 z4 : D) (s : Sto) :
    (dom2 2).map (fun q => (f_law_put_in [.tup [.int 2, .str late, y2, y3, y4, y5, y6, y7, y8], .tup [.int clock, tS' q.1, z1, z2, z3, z4], .str q.2.1, .int q.2.2]).at s) = mapR (fun q => .ok (.int (bookF late clock q.1 q.2.1 q.2.2 : Nat)) s) (dom2 2) := by
  simp only [List.mem_cons, List.not_mem_nil, or_false] at hl hc
  rcases hl with rfl | rfl | rfl <;> rcases hc with rfl | rfl <;> kernel_rfl
theorem unbook2 (back : Str) (hl : back ∈ (["counter", "refuse", "strike"] : List Str)) (clock : Nat) (hc : clock ∈ ([1, 2] : List Nat)) (y1 y3 y4 y5 y6 y7 y8 : D) (s : Sto) :
    (dom2c 2 clock).map (fun q => (f_unbooked [.tup [.int 2, y1, .str back, y3, y4, y5, y6, y7, y8], .int clock, tS' q.1, .str q.2.1, .int q.2.2]).at s) = mapR (fun q => .ok (.int (unbookF back clock q.1 q.2.1 q.2.2 : Nat)) s) (dom2c 2 clock) := by
  simp only [List.mem_cons, List.not_mem_nil, or_false] at hl hc
  rcases hl with rfl | rfl | rfl <;> rcases hc with rfl | rfl <;> kernel_rfl
theorem out2 (back : Str) (hl : back ∈ (["counter", "refuse", "strike"] : List Str)) (clock : Nat) (hc : clock ∈ ([1, 2] : List Nat)) (y1 y3 y4 y5 y6 y7 y8 z1 z2 z4 : D) (s : Sto) :
    (dom2c 2 clock).map (fun q => (f_law_put_out [.tup [.int 2, y1, .str back, y3, y4, y5, y6, y7, y8], .tup [.int clock, tS' q.1, z1, z2, .int q.2.2, z4], .str q.2.1]).at s) = mapR (fun q => .ok (.int (unbookF back clock q.1 q.2.1 q.2.2 : Nat)) s) (dom2c 2 clock) := by
  simp only [List.mem_cons, List.not_mem_nil, or_false] at hl hc
  rcases hl with rfl | rfl | rfl <;> rcases hc with rfl | rfl <;> kernel_rfl
theorem book3 (late : Str) (hl : late ∈ (["next", "own", "refuse"] : List Str)) (clock : Nat) (hc : clock ∈ ([1, 2, 3] : List Nat)) (y2 y3 y4 y5 y6 y7 y8 : D) (s : Sto) :
    (dom2 3).map (fun q => (f_booked [.tup [.int 3, .str late, y2, y3, y4, y5, y6, y7, y8], .int clock, tS' q.1, .str q.2.1, .int q.2.2]).at s) = mapR (fun q => .ok (.int (bookF late clock q.1 q.2.1 q.2.2 : Nat)) s) (dom2 3) := by
  simp only [List.mem_cons, List.not_mem_nil, or_false] at hl hc
  rcases hl with rfl | rfl | rfl <;> rcases hc with rfl | rfl | rfl <;> kernel_rfl
theorem put3 (late : Str) (hl : late ∈ (["next", "own", "refuse"] : List Str)) (clock : Nat) (hc : clock ∈ ([1, 2, 3] : List Nat)) (y2 y3 y4 y5 y6 y7 y8 z1 z2 z3 z4 : D) (s : Sto) :
    (dom2 3).map (fun q => (f_law_put_in [.tup [.int 3, .str late, y2, y3, y4, y5, y6, y7, y8], .tup [.int clock, tS' q.1, z1, z2, z3, z4], .str q.2.1, .int q.2.2]).at s) = mapR (fun q => .ok (.int (bookF late clock q.1 q.2.1 q.2.2 : Nat)) s) (dom2 3) := by
  simp only [List.mem_cons, List.not_mem_nil, or_false] at hl hc
  rcases hl with rfl | rfl | rfl <;> rcases hc with rfl | rfl | rfl <;> kernel_rfl
theorem unbook3 (back : Str) (hl : back ∈ (["counter", "refuse", "strike"] : List Str)) (clock : Nat) (hc : clock ∈ ([1, 2, 3] : List Nat)) (y1 y3 y4 y5 y6 y7 y8 : D) (s : Sto) :
    (dom2c 3 clock).map (fun q => (f_unbooked [.tup [.int 3, y1, .str back, y3, y4, y5, y6, y7, y8], .int clock, tS' q.1, .str q.2.1, .int q.2.2]).at s) = mapR (fun q => .ok (.int (unbookF back clock q.1 q.2.1 q.2.2 : Nat)) s) (dom2c 3 clock) := by
  simp only [List.mem_cons, List.not_mem_nil, or_false] at hl hc
  rcases hl with rfl | rfl | rfl <;> rcases hc with rfl | rfl | rfl <;> kernel_rfl
theorem out3 (back : Str) (hl : back ∈ (["counter", "refuse", "strike"] : List Str)) (clock : Nat) (hc : clock ∈ ([1, 2, 3] : List Nat)) (y1 y3 y4 y5 y6 y7 y8 z1 z2 z4 : D) (s : Sto) :
    (dom2c 3 clock).map (fun q => (f_law_put_out [.tup [.int 3, y1, .str back, y3, y4, y5, y6, y7, y8], .tup [.int clock, tS' q.1, z1, z2, .int q.2.2, z4], .str q.2.1]).at s) = mapR (fun q => .ok (.int (unbookF back clock q.1 q.2.1 q.2.2 : Nat)) s) (dom2c 3 clock) := by
  simp only [List.mem_cons, List.not_mem_nil, or_false] at hl hc
  rcases hl with rfl | rfl | rfl <;> rcases hc with rfl | rfl | rfl <;> kernel_rfl
end LW

set_option Elab.async false
set_option linter.all false
set_option maxRecDepth 100000
set_option maxHeartbeats 8000000
namespace LW
open PySem PD
/-! ### stands -/
def mk (clock : Nat) (sts : List Str) (su : List D) (life : Str) (place : Nat) (gi : List D) : D := .tup [.int clock, .tup (sts.map .str), .tup su, .str life, .int place, .tup gi]
def openB (again st who : Str) : Bool := decide (again ≠ "never") && (decide (who = "chief") && decide (st ≠ "open"))
def openS (again : Str) (sts : List Str) (who : Str) (n : Nat) : List Str := if openB again (stAt sts n) who then sts.set (n - 1) "open" else sts
def openG (again : Str) (p : Nat) (sts : List Str) (who : Str) (n : Nat) (gi : List D) : List D := if openB again (stAt sts n) who && decide (again = "void") then gi.take (n - 1) ++ List.replicate (p - (n - 1)) .non else gi
theorem on2 (clock : Nat) (hc : clock ∈ ([1, 2] : List Nat)) (y1 y2 y3 y4 y5 y6 y7 y8 z1 : D) (sts : List Str) (su : List D) (life : Str) (place : Nat) (gi : List D) (s : Sto) :
    (f_step [.tup [.int 2, y1, y2, y3, y4, y5, y6, y7, y8], mk clock sts su life place gi, .tup [.str "on"]]).at s = .ok (.tup [mk (min (clock + 1) 2) sts su life place gi, .bl (decide (clock < 2))]) s ∧ (f_law_on [.tup [.int 2, y1, y2, y3, y4, y5, y6, y7, y8], mk clock sts su life place gi, .tup [.str "on"]]).at s = .ok (mk (min (clock + 1) 2) sts su life place gi) s := by
  simp only [List.mem_cons, List.not_mem_nil, or_false] at hc
  rcases hc with rfl | rfl <;> exact ⟨by kernel_rfl, by kernel_rfl⟩
theorem open2 (again : Str) (ha : again ∈ (["chief", "never", "void"] : List Str)) (clock : Nat) (y1 y2 y3 y4 y5 y6 y8 : D) (x1 x2 : Int) (life : Str) (place : Nat) (g1 g2 : D) (s : Sto) :
    (dom2 2).map (fun q => (f_step [.tup [.int 2, y1, y2, y3, y4, y5, y6, .str again, y8], mk clock q.1 [.int x1, .int x2] life place [g1, g2], .tup [.str "open", .str q.2.1, .int q.2.2]]).at s) = mapR (fun q => .ok (.tup [mk clock (openS again q.1 q.2.1 q.2.2) [.int x1, .int x2] life place (openG again 2 q.1 q.2.1 q.2.2 [g1, g2]), .bl (openB again (stAt q.1 q.2.2) q.2.1)]) s) (dom2 2) := by
  simp only [List.mem_cons, List.not_mem_nil, or_false] at ha
  rcases ha with rfl | rfl | rfl <;> kernel_rfl
theorem lopen2 (again : Str) (ha : again ∈ (["chief", "never", "void"] : List Str)) (clock : Nat) (y1 y2 y3 y4 y5 y6 y8 : D) (x1 x2 : Int) (life : Str) (place : Nat) (g1 g2 : D) (s : Sto) :
    (dom2 2).map (fun q => (f_law_on [.tup [.int 2, y1, y2, y3, y4, y5, y6, .str again, y8], mk clock q.1 [.int x1, .int x2] life place [g1, g2], .tup [.str "open", .str q.2.1, .int q.2.2]]).at s) = mapR (fun q => .ok ((mk clock (openS again q.1 q.2.1 q.2.2) [.int x1, .int x2] life place (openG again 2 q.1 q.2.1 q.2.2 [g1, g2]))) s) (dom2 2) := by
  simp only [List.mem_cons, List.not_mem_nil, or_false] at ha
  rcases ha with rfl | rfl | rfl <;> kernel_rfl
theorem on3 (clock : Nat) (hc : clock ∈ ([1, 2, 3] : List Nat)) (y1 y2 y3 y4 y5 y6 y7 y8 z1 : D) (sts : List Str) (su : List D) (life : Str) (place : Nat) (gi : List D) (s : Sto) :
    (f_step [.tup [.int 3, y1, y2, y3, y4, y5, y6, y7, y8], mk clock sts su life place gi, .tup [.str "on"]]).at s = .ok (.tup [mk (min (clock + 1) 3) sts su life place gi, .bl (decide (clock < 3))]) s ∧ (f_law_on [.tup [.int 3, y1, y2, y3, y4, y5, y6, y7, y8], mk clock sts su life place gi, .tup [.str "on"]]).at s = .ok (mk (min (clock + 1) 3) sts su life place gi) s := by
  simp only [List.mem_cons, List.not_mem_nil, or_false] at hc
  rcases hc with rfl | rfl | rfl <;> exact ⟨by kernel_rfl, by kernel_rfl⟩
theorem open3 (again : Str) (ha : again ∈ (["chief", "never", "void"] : List Str)) (clock : Nat) (y1 y2 y3 y4 y5 y6 y8 : D) (x1 x2 x3 : Int) (life : Str) (place : Nat) (g1 g2 g3 : D) (s : Sto) :
    (dom2 3).map (fun q => (f_step [.tup [.int 3, y1, y2, y3, y4, y5, y6, .str again, y8], mk clock q.1 [.int x1, .int x2, .int x3] life place [g1, g2, g3], .tup [.str "open", .str q.2.1, .int q.2.2]]).at s) = mapR (fun q => .ok (.tup [mk clock (openS again q.1 q.2.1 q.2.2) [.int x1, .int x2, .int x3] life place (openG again 3 q.1 q.2.1 q.2.2 [g1, g2, g3]), .bl (openB again (stAt q.1 q.2.2) q.2.1)]) s) (dom2 3) := by
  simp only [List.mem_cons, List.not_mem_nil, or_false] at ha
  rcases ha with rfl | rfl | rfl <;> kernel_rfl
theorem lopen3 (again : Str) (ha : again ∈ (["chief", "never", "void"] : List Str)) (clock : Nat) (y1 y2 y3 y4 y5 y6 y8 : D) (x1 x2 x3 : Int) (life : Str) (place : Nat) (g1 g2 g3 : D) (s : Sto) :
    (dom2 3).map (fun q => (f_law_on [.tup [.int 3, y1, y2, y3, y4, y5, y6, .str again, y8], mk clock q.1 [.int x1, .int x2, .int x3] life place [g1, g2, g3], .tup [.str "open", .str q.2.1, .int q.2.2]]).at s) = mapR (fun q => .ok ((mk clock (openS again q.1 q.2.1 q.2.2) [.int x1, .int x2, .int x3] life place (openG again 3 q.1 q.2.1 q.2.2 [g1, g2, g3]))) s) (dom2 3) := by
  simp only [List.mem_cons, List.not_mem_nil, or_false] at ha
  rcases ha with rfl | rfl | rfl <;> kernel_rfl
end LW

set_option Elab.async false
set_option linter.all false
set_option maxRecDepth 100000
set_option maxHeartbeats 8000000
namespace LW
open PySem PD
/-! ### periods that are shut -/
def closeF (zl : Str) (order : Bool) (clock : Nat) (sts : List Str) (who : Str) (n : Nat) : Option Str :=
  if decide (clock < n) || (decide (stAt sts n = "shut") || (order && (sts.take (n - 1)).any fun x => decide (x ≠ "shut"))) then none
  else if decide (zl = "any") || decide (who = "chief") then some "shut"
  else if decide (zl = "two") && decide (stAt sts n = "open") then some "soft" else none
def closeS (zl : Str) (order : Bool) (clock : Nat) (sts : List Str) (who : Str) (n : Nat) : List Str := match closeF zl order clock sts who n with
  | some st => sts.set (n - 1) st
  | none => sts
def domc (n : Nat) : List (List Str × Str) := (stsL n).flatMap fun st => (["chief", "clerk"] : List Str).map fun w => (st, w)
theorem close2_1 (zl : Str) (hs : zl ∈ (["any", "chief", "two"] : List Str)) (order : Bool) (clock : Nat) (hc : clock ∈ ([1, 2] : List Nat)) (y1 y2 y3 y4 y7 y8 : D) (x1 x2 : Int) (w1 w2 w3 life : Str) (place : Nat) (g1 g2 : D) (s : Sto) :
    (domc 1).map (fun q => (f_step [.tup [.int 2, y1, y2, y3, y4, .str zl, .bl order, y7, y8], mk clock (q.1 ++ [w2]) [.int x1, .int x2] life place [g1, g2], .tup [.str "close", .str q.2, .int 1]]).at s) = mapR (fun q => .ok (.tup [mk clock (closeS zl order clock (q.1 ++ [w2]) q.2 1) [.int x1, .int x2] life place [g1, g2], .bl (closeF zl order clock (q.1 ++ [w2]) q.2 1).isSome]) s) (domc 1) := by
  simp only [List.mem_cons, List.not_mem_nil, or_false] at hs hc
  rcases hs with rfl | rfl | rfl <;> rcases hc with rfl | rfl <;> cases order <;> kernel_rfl
theorem lclose2_1 (zl : Str) (hs : zl ∈ (["any", "chief", "two"] : List Str)) (order : Bool) (clock : Nat) (hc : clock ∈ ([1, 2] : List Nat)) (y1 y2 y3 y4 y7 y8 : D) (x1 x2 : Int) (w1 w2 w3 life : Str) (place : Nat) (g1 g2 : D) (s : Sto) :
    (domc 1).map (fun q => (f_law_on [.tup [.int 2, y1, y2, y3, y4, .str zl, .bl order, y7, y8], mk clock (q.1 ++ [w2]) [.int x1, .int x2] life place [g1, g2], .tup [.str "close", .str q.2, .int 1]]).at s) = mapR (fun q => .ok ((mk clock (closeS zl order clock (q.1 ++ [w2]) q.2 1) [.int x1, .int x2] life place [g1, g2])) s) (domc 1) := by
  simp only [List.mem_cons, List.not_mem_nil, or_false] at hs hc
  rcases hs with rfl | rfl | rfl <;> rcases hc with rfl | rfl <;> cases order <;> kernel_rfl
theorem close2_2 (zl : Str) (hs : zl ∈ (["any", "chief", "two"] : List Str)) (order : Bool) (clock : Nat) (hc : clock ∈ ([1, 2] : List Nat)) (y1 y2 y3 y4 y7 y8 : D) (x1 x2 : Int) (w1 w2 w3 life : Str) (place : Nat) (g1 g2 : D) (s : Sto) :
    (domc 2).map (fun q => (f_step [.tup [.int 2, y1, y2, y3, y4, .str zl, .bl order, y7, y8], mk clock (q.1 ++ []) [.int x1, .int x2] life place [g1, g2], .tup [.str "close", .str q.2, .int 2]]).at s) = mapR (fun q => .ok (.tup [mk clock (closeS zl order clock (q.1 ++ []) q.2 2) [.int x1, .int x2] life place [g1, g2], .bl (closeF zl order clock (q.1 ++ []) q.2 2).isSome]) s) (domc 2) := by
  simp only [List.mem_cons, List.not_mem_nil, or_false] at hs hc
  rcases hs with rfl | rfl | rfl <;> rcases hc with rfl | rfl <;> cases order <;> kernel_rfl
theorem lclose2_2 (zl : Str) (hs : zl ∈ (["any", "chief", "two"] : List Str)) (order : Bool) (clock : Nat) (hc : clock ∈ ([1, 2] : List Nat)) (y1 y2 y3 y4 y7 y8 : D) (x1 x2 : Int) (w1 w2 w3 life : Str) (place : Nat) (g1 g2 : D) (s : Sto) :
    (domc 2).map (fun q => (f_law_on [.tup [.int 2, y1, y2, y3, y4, .str zl, .bl order, y7, y8], mk clock (q.1 ++ []) [.int x1, .int x2] life place [g1, g2], .tup [.str "close", .str q.2, .int 2]]).at s) = mapR (fun q => .ok ((mk clock (closeS zl order clock (q.1 ++ []) q.2 2) [.int x1, .int x2] life place [g1, g2])) s) (domc 2) := by
  simp only [List.mem_cons, List.not_mem_nil, or_false] at hs hc
  rcases hs with rfl | rfl | rfl <;> rcases hc with rfl | rfl <;> cases order <;> kernel_rfl
theorem close3_1 (zl : Str) (hs : zl ∈ (["any", "chief", "two"] : List Str)) (order : Bool) (clock : Nat) (hc : clock ∈ ([1, 2, 3] : List Nat)) (y1 y2 y3 y4 y7 y8 : D) (x1 x2 x3 : Int) (w1 w2 w3 life : Str) (place : Nat) (g1 g2 g3 : D) (s : Sto) :
    (domc 1).map (fun q => (f_step [.tup [.int 3, y1, y2, y3, y4, .str zl, .bl order, y7, y8], mk clock (q.1 ++ [w2, w3]) [.int x1, .int x2, .int x3] life place [g1, g2, g3], .tup [.str "close", .str q.2, .int 1]]).at s) = mapR (fun q => .ok (.tup [mk clock (closeS zl order clock (q.1 ++ [w2, w3]) q.2 1) [.int x1, .int x2, .int x3] life place [g1, g2, g3], .bl (closeF zl order clock (q.1 ++ [w2, w3]) q.2 1).isSome]) s) (domc 1) := by
  simp only [List.mem_cons, List.not_mem_nil, or_false] at hs hc
  rcases hs with rfl | rfl | rfl <;> rcases hc with rfl | rfl | rfl <;> cases order <;> kernel_rfl
theorem lclose3_1 (zl : Str) (hs : zl ∈ (["any", "chief", "two"] : List Str)) (order : Bool) (clock : Nat) (hc : clock ∈ ([1, 2, 3] : List Nat)) (y1 y2 y3 y4 y7 y8 : D) (x1 x2 x3 : Int) (w1 w2 w3 life : Str) (place : Nat) (g1 g2 g3 : D) (s : Sto) :
    (domc 1).map (fun q => (f_law_on [.tup [.int 3, y1, y2, y3, y4, .str zl, .bl order, y7, y8], mk clock (q.1 ++ [w2, w3]) [.int x1, .int x2, .int x3] life place [g1, g2, g3], .tup [.str "close", .str q.2, .int 1]]).at s) = mapR (fun q => .ok ((mk clock (closeS zl order clock (q.1 ++ [w2, w3]) q.2 1) [.int x1, .int x2, .int x3] life place [g1, g2, g3])) s) (domc 1) := by
  simp only [List.mem_cons, List.not_mem_nil, or_false] at hs hc
  rcases hs with rfl | rfl | rfl <;> rcases hc with rfl | rfl | rfl <;> cases order <;> kernel_rfl
theorem close3_2 (zl : Str) (hs : zl ∈ (["any", "chief", "two"] : List Str)) (order : Bool) (clock : Nat) (hc : clock ∈ ([1, 2, 3] : List Nat)) (y1 y2 y3 y4 y7 y8 : D) (x1 x2 x3 : Int) (w1 w2 w3 life : Str) (place : Nat) (g1 g2 g3 : D) (s : Sto) :
    (domc 2).map (fun q => (f_step [.tup [.int 3, y1, y2, y3, y4, .str zl, .bl order, y7, y8], mk clock (q.1 ++ [w3]) [.int x1, .int x2, .int x3] life place [g1, g2, g3], .tup [.str "close", .str q.2, .int 2]]).at s) = mapR (fun q => .ok (.tup [mk clock (closeS zl order clock (q.1 ++ [w3]) q.2 2) [.int x1, .int x2, .int x3] life place [g1, g2, g3], .bl (closeF zl order clock (q.1 ++ [w3]) q.2 2).isSome]) s) (domc 2) := by
  simp only [List.mem_cons, List.not_mem_nil, or_false] at hs hc
  rcases hs with rfl | rfl | rfl <;> rcases hc with rfl | rfl | rfl <;> cases order <;> kernel_rfl
theorem lclose3_2 (zl : Str) (hs : zl ∈ (["any", "chief", "two"] : List Str)) (order : Bool) (clock : Nat) (hc : clock ∈ ([1, 2, 3] : List Nat)) (y1 y2 y3 y4 y7 y8 : D) (x1 x2 x3 : Int) (w1 w2 w3 life : Str) (place : Nat) (g1 g2 g3 : D) (s : Sto) :
    (domc 2).map (fun q => (f_law_on [.tup [.int 3, y1, y2, y3, y4, .str zl, .bl order, y7, y8], mk clock (q.1 ++ [w3]) [.int x1, .int x2, .int x3] life place [g1, g2, g3], .tup [.str "close", .str q.2, .int 2]]).at s) = mapR (fun q => .ok ((mk clock (closeS zl order clock (q.1 ++ [w3]) q.2 2) [.int x1, .int x2, .int x3] life place [g1, g2, g3])) s) (domc 2) := by
  simp only [List.mem_cons, List.not_mem_nil, or_false] at hs hc
  rcases hs with rfl | rfl | rfl <;> rcases hc with rfl | rfl | rfl <;> cases order <;> kernel_rfl
theorem close3_3 (zl : Str) (hs : zl ∈ (["any", "chief", "two"] : List Str)) (order : Bool) (clock : Nat) (hc : clock ∈ ([1, 2, 3] : List Nat)) (y1 y2 y3 y4 y7 y8 : D) (x1 x2 x3 : Int) (w1 w2 w3 life : Str) (place : Nat) (g1 g2 g3 : D) (s : Sto) :
    (domc 3).map (fun q => (f_step [.tup [.int 3, y1, y2, y3, y4, .str zl, .bl order, y7, y8], mk clock (q.1 ++ []) [.int x1, .int x2, .int x3] life place [g1, g2, g3], .tup [.str "close", .str q.2, .int 3]]).at s) = mapR (fun q => .ok (.tup [mk clock (closeS zl order clock (q.1 ++ []) q.2 3) [.int x1, .int x2, .int x3] life place [g1, g2, g3], .bl (closeF zl order clock (q.1 ++ []) q.2 3).isSome]) s) (domc 3) := by
  simp only [List.mem_cons, List.not_mem_nil, or_false] at hs hc
  rcases hs with rfl | rfl | rfl <;> rcases hc with rfl | rfl | rfl <;> cases order <;> kernel_rfl
theorem lclose3_3 (zl : Str) (hs : zl ∈ (["any", "chief", "two"] : List Str)) (order : Bool) (clock : Nat) (hc : clock ∈ ([1, 2, 3] : List Nat)) (y1 y2 y3 y4 y7 y8 : D) (x1 x2 x3 : Int) (w1 w2 w3 life : Str) (place : Nat) (g1 g2 g3 : D) (s : Sto) :
    (domc 3).map (fun q => (f_law_on [.tup [.int 3, y1, y2, y3, y4, .str zl, .bl order, y7, y8], mk clock (q.1 ++ []) [.int x1, .int x2, .int x3] life place [g1, g2, g3], .tup [.str "close", .str q.2, .int 3]]).at s) = mapR (fun q => .ok ((mk clock (closeS zl order clock (q.1 ++ []) q.2 3) [.int x1, .int x2, .int x3] life place [g1, g2, g3])) s) (domc 3) := by
  simp only [List.mem_cons, List.not_mem_nil, or_false] at hs hc
  rcases hs with rfl | rfl | rfl <;> rcases hc with rfl | rfl | rfl <;> cases order <;> kernel_rfl
end LW

set_option Elab.async false
set_option linter.all false
set_option maxRecDepth 100000
set_option maxHeartbeats 8000000
namespace LW
open PySem PD
/-! ### reports -/
def gvD (b : Bool) (i j k : Int) : D := if b then .tup [.int i, .int j, .int k] else .non
def gvw (b : Bool) : Str := if b then "given" else "now"
def bb : List Bool := [false, true]
def domg : List (Bool × (Bool × (Bool × (Str × (Bool × Bool))))) := bb.flatMap fun e => bb.flatMap fun sh => bb.flatMap fun ca => lvs.flatMap fun st => bb.flatMap fun bn => bb.map fun bm => (e, (sh, (ca, (st, (bn, bm)))))
/-- the row that is told -/
def rowF (n clock : Nat) (sums : List Int) (a1 a2 a3 c3 : Int) (q : Bool × (Bool × (Bool × (Str × (Bool × Bool))))) : D :=
  if decide (clock < n) || (!q.1 && decide (q.2.2.2.1 ≠ "shut")) then .non
  else if q.2.1 && q.2.2.2.2.1 then .tup [.int a1, .int a2, .int a3]
  else if decide (1 < n) && (q.2.2.1 && q.2.2.2.2.2) then .tup [.int c3, .int (sums.getD (n - 1) 0), .int (c3 + sums.getD (n - 1) 0)]
  else .tup [.int (sums.take (n - 1)).sum, .int (sums.getD (n - 1) 0), .int ((sums.take (n - 1)).sum + sums.getD (n - 1) 0)]
def putG (gi : List D) (n : Nat) : D → List D
  | .non => gi
  | d => gi.set (n - 1) d
theorem give2_1 (clock : Nat) (hc : clock ∈ ([1, 2] : List Nat)) (y1 y2 y5 y6 y7 : D) (x1 x2 : Int) (w1 w2 w3 life : Str) (place : Nat) (a1 a2 a3 c1 c2 c3 : Int) (g1 g2 : D) (s : Sto) :
    domg.map (fun q => (f_step [.tup [.int 2, y1, y2, .str (gvw q.2.1), .str (gvw q.2.2.1), y5, y6, y7, .bl q.1], mk clock [q.2.2.2.1, w2] [.int x1, .int x2] life place [gvD q.2.2.2.2.1 a1 a2 a3, g2], .tup [.str "give", .int 1]]).at s) = mapR (fun q => .ok (.tup [mk clock [q.2.2.2.1, w2] [.int x1, .int x2] life place (putG [gvD q.2.2.2.2.1 a1 a2 a3, g2] 1 (rowF 1 clock [x1, x2] a1 a2 a3 c3 q)), rowF 1 clock [x1, x2] a1 a2 a3 c3 q]) s) domg := by
  simp only [List.mem_cons, List.not_mem_nil, or_false] at hc
  rcases hc with rfl | rfl <;> kernel_rfl
theorem lgive2_1 (clock : Nat) (hc : clock ∈ ([1, 2] : List Nat)) (y1 y2 y5 y6 y7 : D) (x1 x2 : Int) (w1 w2 w3 life : Str) (place : Nat) (a1 a2 a3 c1 c2 c3 : Int) (g1 g2 : D) (s : Sto) :
    domg.map (fun q => (f_law_on [.tup [.int 2, y1, y2, .str (gvw q.2.1), .str (gvw q.2.2.1), y5, y6, y7, .bl q.1], mk clock [q.2.2.2.1, w2] [.int x1, .int x2] life place [gvD q.2.2.2.2.1 a1 a2 a3, g2], .tup [.str "give", .int 1]]).at s) = mapR (fun q => .ok ((mk clock [q.2.2.2.1, w2] [.int x1, .int x2] life place (putG [gvD q.2.2.2.2.1 a1 a2 a3, g2] 1 (rowF 1 clock [x1, x2] a1 a2 a3 c3 q)))) s) domg := by
  simp only [List.mem_cons, List.not_mem_nil, or_false] at hc
  rcases hc with rfl | rfl <;> kernel_rfl
theorem tgive2_1 (clock : Nat) (hc : clock ∈ ([1, 2] : List Nat)) (y1 y2 y5 y6 y7 : D) (x1 x2 : Int) (w1 w2 w3 life : Str) (place : Nat) (a1 a2 a3 c1 c2 c3 : Int) (g1 g2 : D) (s : Sto) :
    domg.map (fun q => (f_law_told [.tup [.int 2, y1, y2, .str (gvw q.2.1), .str (gvw q.2.2.1), y5, y6, y7, .bl q.1], mk clock [q.2.2.2.1, w2] [.int x1, .int x2] life place [gvD q.2.2.2.2.1 a1 a2 a3, g2], .tup [.str "give", .int 1]]).at s) = mapR (fun q => .ok ((rowF 1 clock [x1, x2] a1 a2 a3 c3 q)) s) domg := by
  simp only [List.mem_cons, List.not_mem_nil, or_false] at hc
  rcases hc with rfl | rfl <;> kernel_rfl
theorem give2_2 (clock : Nat) (hc : clock ∈ ([1, 2] : List Nat)) (y1 y2 y5 y6 y7 : D) (x1 x2 : Int) (w1 w2 w3 life : Str) (place : Nat) (a1 a2 a3 c1 c2 c3 : Int) (g1 g2 : D) (s : Sto) :
    domg.map (fun q => (f_step [.tup [.int 2, y1, y2, .str (gvw q.2.1), .str (gvw q.2.2.1), y5, y6, y7, .bl q.1], mk clock [w1, q.2.2.2.1] [.int x1, .int x2] life place [gvD q.2.2.2.2.2 c1 c2 c3, gvD q.2.2.2.2.1 a1 a2 a3], .tup [.str "give", .int 2]]).at s) = mapR (fun q => .ok (.tup [mk clock [w1, q.2.2.2.1] [.int x1, .int x2] life place (putG [gvD q.2.2.2.2.2 c1 c2 c3, gvD q.2.2.2.2.1 a1 a2 a3] 2 (rowF 2 clock [x1, x2] a1 a2 a3 c3 q)), rowF 2 clock [x1, x2] a1 a2 a3 c3 q]) s) domg := by
  simp only [List.mem_cons, List.not_mem_nil, or_false] at hc
  rcases hc with rfl | rfl <;> kernel_rfl
theorem lgive2_2 (clock : Nat) (hc : clock ∈ ([1, 2] : List Nat)) (y1 y2 y5 y6 y7 : D) (x1 x2 : Int) (w1 w2 w3 life : Str) (place : Nat) (a1 a2 a3 c1 c2 c3 : Int) (g1 g2 : D) (s : Sto) :
    domg.map (fun q => (f_law_on [.tup [.int 2, y1, y2, .str (gvw q.2.1), .str (gvw q.2.2.1), y5, y6, y7, .bl q.1], mk clock [w1, q.2.2.2.1] [.int x1, .int x2] life place [gvD q.2.2.2.2.2 c1 c2 c3, gvD q.2.2.2.2.1 a1 a2 a3], .tup [.str "give", .int 2]]).at s) = mapR (fun q => .ok ((mk clock [w1, q.2.2.2.1] [.int x1, .int x2] life place (putG [gvD q.2.2.2.2.2 c1 c2 c3, gvD q.2.2.2.2.1 a1 a2 a3] 2 (rowF 2 clock [x1, x2] a1 a2 a3 c3 q)))) s) domg := by
  simp only [List.mem_cons, List.not_mem_nil, or_false] at hc
  rcases hc with rfl | rfl <;> kernel_rfl
theorem tgive2_2 (clock : Nat) (hc : clock ∈ ([1, 2] : List Nat)) (y1 y2 y5 y6 y7 : D) (x1 x2 : Int) (w1 w2 w3 life : Str) (place : Nat) (a1 a2 a3 c1 c2 c3 : Int) (g1 g2 : D) (s : Sto) :
    domg.map (fun q => (f_law_told [.tup [.int 2, y1, y2, .str (gvw q.2.1), .str (gvw q.2.2.1), y5, y6, y7, .bl q.1], mk clock [w1, q.2.2.2.1] [.int x1, .int x2] life place [gvD q.2.2.2.2.2 c1 c2 c3, gvD q.2.2.2.2.1 a1 a2 a3], .tup [.str "give", .int 2]]).at s) = mapR (fun q => .ok ((rowF 2 clock [x1, x2] a1 a2 a3 c3 q)) s) domg := by
  simp only [List.mem_cons, List.not_mem_nil, or_false] at hc
  rcases hc with rfl | rfl <;> kernel_rfl
theorem give3_1 (clock : Nat) (hc : clock ∈ ([1, 2, 3] : List Nat)) (y1 y2 y5 y6 y7 : D) (x1 x2 x3 : Int) (w1 w2 w3 life : Str) (place : Nat) (a1 a2 a3 c1 c2 c3 : Int) (g1 g2 g3 : D) (s : Sto) :
    domg.map (fun q => (f_step [.tup [.int 3, y1, y2, .str (gvw q.2.1), .str (gvw q.2.2.1), y5, y6, y7, .bl q.1], mk clock [q.2.2.2.1, w2, w3] [.int x1, .int x2, .int x3] life place [gvD q.2.2.2.2.1 a1 a2 a3, g2, g3], .tup [.str "give", .int 1]]).at s) = mapR (fun q => .ok (.tup [mk clock [q.2.2.2.1, w2, w3] [.int x1, .int x2, .int x3] life place (putG [gvD q.2.2.2.2.1 a1 a2 a3, g2, g3] 1 (rowF 1 clock [x1, x2, x3] a1 a2 a3 c3 q)), rowF 1 clock [x1, x2, x3] a1 a2 a3 c3 q]) s) domg := by
  simp only [List.mem_cons, List.not_mem_nil, or_false] at hc
  rcases hc with rfl | rfl | rfl <;> kernel_rfl
theorem lgive3_1 (clock : Nat) (hc : clock ∈ ([1, 2, 3] : List Nat)) (y1 y2 y5 y6 y7 : D) (x1 x2 x3 : Int) (w1 w2 w3 life : Str) (place : Nat) (a1 a2 a3 c1 c2 c3 : Int) (g1 g2 g3 : D) (s : Sto) :
    domg.map (fun q => (f_law_on [.tup [.int 3, y1, y2, .str (gvw q.2.1), .str (gvw q.2.2.1), y5, y6, y7, .bl q.1], mk clock [q.2.2.2.1, w2, w3] [.int x1, .int x2, .int x3] life place [gvD q.2.2.2.2.1 a1 a2 a3, g2, g3], .tup [.str "give", .int 1]]).at s) = mapR (fun q => .ok ((mk clock [q.2.2.2.1, w2, w3] [.int x1, .int x2, .int x3] life place (putG [gvD q.2.2.2.2.1 a1 a2 a3, g2, g3] 1 (rowF 1 clock [x1, x2, x3] a1 a2 a3 c3 q)))) s) domg := by
  simp only [List.mem_cons, List.not_mem_nil, or_false] at hc
  rcases hc with rfl | rfl | rfl <;> kernel_rfl
theorem tgive3_1 (clock : Nat) (hc : clock ∈ ([1, 2, 3] : List Nat)) (y1 y2 y5 y6 y7 : D) (x1 x2 x3 : Int) (w1 w2 w3 life : Str) (place : Nat) (a1 a2 a3 c1 c2 c3 : Int) (g1 g2 g3 : D) (s : Sto) :
    domg.map (fun q => (f_law_told [.tup [.int 3, y1, y2, .str (gvw q.2.1), .str (gvw q.2.2.1), y5, y6, y7, .bl q.1], mk clock [q.2.2.2.1, w2, w3] [.int x1, .int x2, .int x3] life place [gvD q.2.2.2.2.1 a1 a2 a3, g2, g3], .tup [.str "give", .int 1]]).at s) = mapR (fun q => .ok ((rowF 1 clock [x1, x2, x3] a1 a2 a3 c3 q)) s) domg := by
  simp only [List.mem_cons, List.not_mem_nil, or_false] at hc
  rcases hc with rfl | rfl | rfl <;> kernel_rfl
theorem give3_2 (clock : Nat) (hc : clock ∈ ([1, 2, 3] : List Nat)) (y1 y2 y5 y6 y7 : D) (x1 x2 x3 : Int) (w1 w2 w3 life : Str) (place : Nat) (a1 a2 a3 c1 c2 c3 : Int) (g1 g2 g3 : D) (s : Sto) :
    domg.map (fun q => (f_step [.tup [.int 3, y1, y2, .str (gvw q.2.1), .str (gvw q.2.2.1), y5, y6, y7, .bl q.1], mk clock [w1, q.2.2.2.1, w3] [.int x1, .int x2, .int x3] life place [gvD q.2.2.2.2.2 c1 c2 c3, gvD q.2.2.2.2.1 a1 a2 a3, g3], .tup [.str "give", .int 2]]).at s) = mapR (fun q => .ok (.tup [mk clock [w1, q.2.2.2.1, w3] [.int x1, .int x2, .int x3] life place (putG [gvD q.2.2.2.2.2 c1 c2 c3, gvD q.2.2.2.2.1 a1 a2 a3, g3] 2 (rowF 2 clock [x1, x2, x3] a1 a2 a3 c3 q)), rowF 2 clock [x1, x2, x3] a1 a2 a3 c3 q]) s) domg := by
  simp only [List.mem_cons, List.not_mem_nil, or_false] at hc
  rcases hc with rfl | rfl | rfl <;> kernel_rfl
theorem lgive3_2 (clock : Nat) (hc : clock ∈ ([1, 2, 3] : List Nat)) (y1 y2 y5 y6 y7 : D) (x1 x2 x3 : Int) (w1 w2 w3 life : Str) (place : Nat) (a1 a2 a3 c1 c2 c3 : Int) (g1 g2 g3 : D) (s : Sto) :
    domg.map (fun q => (f_law_on [.tup [.int 3, y1, y2, .str (gvw q.2.1), .str (gvw q.2.2.1), y5, y6, y7, .bl q.1], mk clock [w1, q.2.2.2.1, w3] [.int x1, .int x2, .int x3] life place [gvD q.2.2.2.2.2 c1 c2 c3, gvD q.2.2.2.2.1 a1 a2 a3, g3], .tup [.str "give", .int 2]]).at s) = mapR (fun q => .ok ((mk clock [w1, q.2.2.2.1, w3] [.int x1, .int x2, .int x3] life place (putG [gvD q.2.2.2.2.2 c1 c2 c3, gvD q.2.2.2.2.1 a1 a2 a3, g3] 2 (rowF 2 clock [x1, x2, x3] a1 a2 a3 c3 q)))) s) domg := by
  simp only [List.mem_cons, List.not_mem_nil, or_false] at hc
  rcases hc with rfl | rfl | rfl <;> kernel_rfl
theorem tgive3_2 (clock : Nat) (hc : clock ∈ ([1, 2, 3] : List Nat)) (y1 y2 y5 y6 y7 : D) (x1 x2 x3 : Int) (w1 w2 w3 life : Str) (place : Nat) (a1 a2 a3 c1 c2 c3 : Int) (g1 g2 g3 : D) (s : Sto) :
    domg.map (fun q => (f_law_told [.tup [.int 3, y1, y2, .str (gvw q.2.1), .str (gvw q.2.2.1), y5, y6, y7, .bl q.1], mk clock [w1, q.2.2.2.1, w3] [.int x1, .int x2, .int x3] life place [gvD q.2.2.2.2.2 c1 c2 c3, gvD q.2.2.2.2.1 a1 a2 a3, g3], .tup [.str "give", .int 2]]).at s) = mapR (fun q => .ok ((rowF 2 clock [x1, x2, x3] a1 a2 a3 c3 q)) s) domg := by
  simp only [List.mem_cons, List.not_mem_nil, or_false] at hc
  rcases hc with rfl | rfl | rfl <;> kernel_rfl
theorem give3_3 (clock : Nat) (hc : clock ∈ ([1, 2, 3] : List Nat)) (y1 y2 y5 y6 y7 : D) (x1 x2 x3 : Int) (w1 w2 w3 life : Str) (place : Nat) (a1 a2 a3 c1 c2 c3 : Int) (g1 g2 g3 : D) (s : Sto) :
    domg.map (fun q => (f_step [.tup [.int 3, y1, y2, .str (gvw q.2.1), .str (gvw q.2.2.1), y5, y6, y7, .bl q.1], mk clock [w1, w2, q.2.2.2.1] [.int x1, .int x2, .int x3] life place [g1, gvD q.2.2.2.2.2 c1 c2 c3, gvD q.2.2.2.2.1 a1 a2 a3], .tup [.str "give", .int 3]]).at s) = mapR (fun q => .ok (.tup [mk clock [w1, w2, q.2.2.2.1] [.int x1, .int x2, .int x3] life place (putG [g1, gvD q.2.2.2.2.2 c1 c2 c3, gvD q.2.2.2.2.1 a1 a2 a3] 3 (rowF 3 clock [x1, x2, x3] a1 a2 a3 c3 q)), rowF 3 clock [x1, x2, x3] a1 a2 a3 c3 q]) s) domg := by
  simp only [List.mem_cons, List.not_mem_nil, or_false] at hc
  rcases hc with rfl | rfl | rfl <;> kernel_rfl
theorem lgive3_3 (clock : Nat) (hc : clock ∈ ([1, 2, 3] : List Nat)) (y1 y2 y5 y6 y7 : D) (x1 x2 x3 : Int) (w1 w2 w3 life : Str) (place : Nat) (a1 a2 a3 c1 c2 c3 : Int) (g1 g2 g3 : D) (s : Sto) :
    domg.map (fun q => (f_law_on [.tup [.int 3, y1, y2, .str (gvw q.2.1), .str (gvw q.2.2.1), y5, y6, y7, .bl q.1], mk clock [w1, w2, q.2.2.2.1] [.int x1, .int x2, .int x3] life place [g1, gvD q.2.2.2.2.2 c1 c2 c3, gvD q.2.2.2.2.1 a1 a2 a3], .tup [.str "give", .int 3]]).at s) = mapR (fun q => .ok ((mk clock [w1, w2, q.2.2.2.1] [.int x1, .int x2, .int x3] life place (putG [g1, gvD q.2.2.2.2.2 c1 c2 c3, gvD q.2.2.2.2.1 a1 a2 a3] 3 (rowF 3 clock [x1, x2, x3] a1 a2 a3 c3 q)))) s) domg := by
  simp only [List.mem_cons, List.not_mem_nil, or_false] at hc
  rcases hc with rfl | rfl | rfl <;> kernel_rfl
theorem tgive3_3 (clock : Nat) (hc : clock ∈ ([1, 2, 3] : List Nat)) (y1 y2 y5 y6 y7 : D) (x1 x2 x3 : Int) (w1 w2 w3 life : Str) (place : Nat) (a1 a2 a3 c1 c2 c3 : Int) (g1 g2 g3 : D) (s : Sto) :
    domg.map (fun q => (f_law_told [.tup [.int 3, y1, y2, .str (gvw q.2.1), .str (gvw q.2.2.1), y5, y6, y7, .bl q.1], mk clock [w1, w2, q.2.2.2.1] [.int x1, .int x2, .int x3] life place [g1, gvD q.2.2.2.2.2 c1 c2 c3, gvD q.2.2.2.2.1 a1 a2 a3], .tup [.str "give", .int 3]]).at s) = mapR (fun q => .ok ((rowF 3 clock [x1, x2, x3] a1 a2 a3 c3 q)) s) domg := by
  simp only [List.mem_cons, List.not_mem_nil, or_false] at hc
  rcases hc with rfl | rfl | rfl <;> kernel_rfl
end LW

set_option Elab.async false
set_option linter.all false
set_option maxRecDepth 100000
set_option maxHeartbeats 8000000
namespace LW
open PySem PD
theorem lk1 (a b c : D) : lookS "enter" ["enter", "move", "take"] [a, b, c] = some a := by kernel_rfl
theorem lk2 (a b c : D) : lookS "move" ["enter", "move", "take"] [a, b, c] = some b := by kernel_rfl
theorem lk3 (a b c : D) : lookS "take" ["enter", "move", "take"] [a, b, c] = some c := by kernel_rfl
theorem inA1 : inD (.str "new") (.tup [.str "new"]) = some true ∧ inD (.str "in") (.tup [.str "new"]) = some false ∧ inD (.str "moved") (.tup [.str "new"]) = some false ∧ inD (.str "out") (.tup [.str "new"]) = some false := ⟨by kernel_rfl, by kernel_rfl, by kernel_rfl, by kernel_rfl⟩
theorem inA2 : inD (.str "new") (.tup [.str "in"]) = some false ∧ inD (.str "in") (.tup [.str "in"]) = some true ∧ inD (.str "moved") (.tup [.str "in"]) = some false ∧ inD (.str "out") (.tup [.str "in"]) = some false := ⟨by kernel_rfl, by kernel_rfl, by kernel_rfl, by kernel_rfl⟩
theorem inA3 : inD (.str "new") (.tup [.str "in", .str "moved"]) = some false ∧ inD (.str "in") (.tup [.str "in", .str "moved"]) = some true ∧ inD (.str "moved") (.tup [.str "in", .str "moved"]) = some true ∧ inD (.str "out") (.tup [.str "in", .str "moved"]) = some false := ⟨by kernel_rfl, by kernel_rfl, by kernel_rfl, by kernel_rfl⟩
theorem inB1 : inD (.str "new") (.lst [.str "new"]) = some true ∧ inD (.str "in") (.lst [.str "new"]) = some false ∧ inD (.str "moved") (.lst [.str "new"]) = some false ∧ inD (.str "out") (.lst [.str "new"]) = some false := ⟨by kernel_rfl, by kernel_rfl, by kernel_rfl, by kernel_rfl⟩
theorem inB2 : inD (.str "new") (.lst [.str "in"]) = some false ∧ inD (.str "in") (.lst [.str "in"]) = some true ∧ inD (.str "moved") (.lst [.str "in"]) = some false ∧ inD (.str "out") (.lst [.str "in"]) = some false := ⟨by kernel_rfl, by kernel_rfl, by kernel_rfl, by kernel_rfl⟩
theorem inB3 : inD (.str "new") (.lst [.str "in", .str "moved"]) = some false ∧ inD (.str "in") (.lst [.str "in", .str "moved"]) = some true ∧ inD (.str "moved") (.lst [.str "in", .str "moved"]) = some true ∧ inD (.str "out") (.lst [.str "in", .str "moved"]) = some false := ⟨by kernel_rfl, by kernel_rfl, by kernel_rfl, by kernel_rfl⟩
/-- where the writings go, what the sums become -/
structure Wr (R c st : D) (su : List D) (li : Str) (pl gi : D) (who : Str) (date t g : Int) : Prop where
  bk : ∀ s, (f_booked [R, c, st, .str who, .int date]).at s = .ok (.int t) s
  pt : ∀ s, (f_law_put_in [R, .tup [c, st, .tup su, .str li, pl, gi], .str who, .int date]).at s = .ok (.int t) s
structure Un (R c st : D) (su : List D) (li : Str) (pl gi : D) (who : Str) (g : Int) : Prop where
  ub : ∀ s, (f_unbooked [R, c, st, .str who, pl]).at s = .ok (.int g) s
  ot : ∀ s, (f_law_put_out [R, .tup [c, st, .tup su, .str li, pl, gi], .str who]).at s = .ok (.int g) s
structure Pu (su : List D) (k d : Int) (su2 : List D) : Prop where
  len : su.length ≤ 100
  pos : 0 < k
  at_ : ∃ x, L2.atI su (k - 1) = some (.int x) ∧ (∀ s, (f_put_at [.tup su, .int k, .int (x + d)]).at s = .ok (.tup su2) s) ∧ (∀ s, (f_law_changed [.tup su, .int k, .int (x + d)]).at s = .ok (.tup su2) s)
section
variable {R c st pl gi : D} {su su1 su2 : List D} {li who : Str} {date t g : Int} {s : Sto}
theorem aw_enter (W : Wr R c st su "new" pl gi who date t g) (P : Pu su t 1 su2) : (f_after_writing [R, .tup [c, st, .tup su, .str "new", pl, gi], .tup [.str "enter", .str who, .int date]]).at s = .ok (.tup [c, st, .tup su2, .str "in", .int t, gi]) s ∧
    (f_law_written [R, .tup [c, st, .tup su, .str "new", pl, gi], .tup [.str "enter", .str who, .int date]]).at s = .ok (.tup [c, st, .tup su2, .str "in", .int t, gi]) s := by
  obtain ⟨x, h1, h2, h3⟩ := P.at_
  have ht := P.pos
  have ht0 : t ≠ 0 := by omega
  have hl : su.length ≤ 16777216 := by have := P.len; omega
  constructor
  · unfold f_after_writing
    rw [run_ap T17 3 13 c_after_writing.body [R, .tup [c, st, .tup su, .str "new", pl, gi], .tup [.str "enter", .str who, .int date]] s rfl]
    simp +decide [c_after_writing, ↓at_var, ↓at_glob, ↓at_cI, ↓at_cS, ↓at_cB, ↓at_cN, ↓at_tup, ↓at_lst, ↓at_loc, ↓at_dct, ↓at_bin, ↓at_cmp, ↓at_chain, ↓at_and, ↓at_or, ↓at_not, ↓at_ife, ↓at_idx, ↓at_slc, ↓at_neg, ↓at_isi, ↓at_call, ↓at_bif, ↓at_mth, ↓at_lc, ↓at_lc2, ↓at_rng1, ↓at_rng2, ↓at_lrng, ↓at_zip, ↓at_enum, ↓at_nil, ↓at_cons, ↓at_onone, ↓at_osome, ↓at_tnone, ↓at_tsome, ↓at_onil, ↓at_ocons, ↓at_oown, ↓at_asg, ↓at_par, ↓at_cat, ↓at_own, ↓at_frz, ↓at_app, ↓at_set, ↓at_ret, ↓at_retN, ↓at_if, ↓at_for, ↓at_whl, ↓at_exp, ↓at_pass, ↓at_brk, ↓at_cnt, ↓at_snil, ↓at_scons, ↓lcK_ap, ↓lcB_ap, bindOs, idxM_ap, newM_ap, nox_ok, put_loc, ↓noExn_ap, ↓bind_ap, pure_ap, then_ok, ↓tryS_ap, tr_ok, optM_some, chk_true, callM_some, seqK_nx, seqK_rt, endM_rt, endM_nx, ↓itemsM_ap, ↓bndM_ap, ↓mthM_ap, getV, setV, idx_lst, idx_tup, idx_loc, idx_dct, cmp_lt, cmp_le, cmp_gt, cmp_ge, cmp_eq, cmp_ne, cmp_in, cmp_notIn, cmp_isN, cmp_notN, eq_int, eq_str, eq_bl, add_int, sub_int, mul_int, fdiv_int, mod_int, pow_int, add_str, add_lst, add_tup, add_scr, asB_bl, asInt_int, bif_len_l, bif_len_t, bif_tuple_l, bif_tuple_t, bif_list_l, bif_list_t, bif_all, bif_any, bif_int_i, bif_int_b, bif_str_i, bif_str_s, slc_l, slc_t, bnd_n, bnd_i, its_l, its_t, bindT_nm, bindT_tp, isi_bool_non, isi_bool_bl, isi_bool_int, isi_bool_str, isi_bool_tup, isi_bool_lst, isi_int_non, isi_int_bl, isi_int_int, isi_int_str, isi_int_tup, isi_int_lst, isi_str_non, isi_str_bl, isi_str_int, isi_str_str, isi_str_tup, isi_str_lst, isi_tuple_non, isi_tuple_bl, isi_tuple_int, isi_tuple_str, isi_tuple_tup, isi_tuple_lst, isi_list_non, isi_list_bl, isi_list_int, isi_list_str, isi_list_tup, isi_list_lst, ↓lcM_cons, lcM_nil, forM_nil, forK_nx, forK_rt, itemsAll, asBools, bindTs, enumFrom, lstD, lookL, appM, isOwn, frzM, recvOk, at0, at1, at2, lk1, inA1, t_after_writing_booked, W.bk, ht0, t_after_writing_put_at, h1, h2, hl, line]
  · unfold f_law_written
    rw [run_ap T41 3 14 c_law_written.body [R, .tup [c, st, .tup su, .str "new", pl, gi], .tup [.str "enter", .str who, .int date]] s rfl]
    simp +decide [c_law_written, ↓at_var, ↓at_glob, ↓at_cI, ↓at_cS, ↓at_cB, ↓at_cN, ↓at_tup, ↓at_lst, ↓at_loc, ↓at_dct, ↓at_bin, ↓at_cmp, ↓at_chain, ↓at_and, ↓at_or, ↓at_not, ↓at_ife, ↓at_idx, ↓at_slc, ↓at_neg, ↓at_isi, ↓at_call, ↓at_bif, ↓at_mth, ↓at_lc, ↓at_lc2, ↓at_rng1, ↓at_rng2, ↓at_lrng, ↓at_zip, ↓at_enum, ↓at_nil, ↓at_cons, ↓at_onone, ↓at_osome, ↓at_tnone, ↓at_tsome, ↓at_onil, ↓at_ocons, ↓at_oown, ↓at_asg, ↓at_par, ↓at_cat, ↓at_own, ↓at_frz, ↓at_app, ↓at_set, ↓at_ret, ↓at_retN, ↓at_if, ↓at_for, ↓at_whl, ↓at_exp, ↓at_pass, ↓at_brk, ↓at_cnt, ↓at_snil, ↓at_scons, ↓lcK_ap, ↓lcB_ap, bindOs, idxM_ap, newM_ap, nox_ok, put_loc, ↓noExn_ap, ↓bind_ap, pure_ap, then_ok, ↓tryS_ap, tr_ok, optM_some, chk_true, callM_some, seqK_nx, seqK_rt, endM_rt, endM_nx, ↓itemsM_ap, ↓bndM_ap, ↓mthM_ap, getV, setV, idx_lst, idx_tup, idx_loc, idx_dct, cmp_lt, cmp_le, cmp_gt, cmp_ge, cmp_eq, cmp_ne, cmp_in, cmp_notIn, cmp_isN, cmp_notN, eq_int, eq_str, eq_bl, add_int, sub_int, mul_int, fdiv_int, mod_int, pow_int, add_str, add_lst, add_tup, add_scr, asB_bl, asInt_int, bif_len_l, bif_len_t, bif_tuple_l, bif_tuple_t, bif_list_l, bif_list_t, bif_all, bif_any, bif_int_i, bif_int_b, bif_str_i, bif_str_s, slc_l, slc_t, bnd_n, bnd_i, its_l, its_t, bindT_nm, bindT_tp, isi_bool_non, isi_bool_bl, isi_bool_int, isi_bool_str, isi_bool_tup, isi_bool_lst, isi_int_non, isi_int_bl, isi_int_int, isi_int_str, isi_int_tup, isi_int_lst, isi_str_non, isi_str_bl, isi_str_int, isi_str_str, isi_str_tup, isi_str_lst, isi_tuple_non, isi_tuple_bl, isi_tuple_int, isi_tuple_str, isi_tuple_tup, isi_tuple_lst, isi_list_non, isi_list_bl, isi_list_int, isi_list_str, isi_list_tup, isi_list_lst, ↓lcM_cons, lcM_nil, forM_nil, forK_nx, forK_rt, itemsAll, asBools, bindTs, enumFrom, lstD, lookL, appM, isOwn, frzM, recvOk, at0, at1, at2, lk1, inB1, t_law_written_law_put_in, W.pt, ht0, ht, t_law_written_law_changed, h1, h3, hl, line]
theorem aw_enter0 (W : Wr R c st su "new" pl gi who date 0 g) : (f_after_writing [R, .tup [c, st, .tup su, .str "new", pl, gi], .tup [.str "enter", .str who, .int date]]).at s = .ok .non s ∧
    (f_law_written [R, .tup [c, st, .tup su, .str "new", pl, gi], .tup [.str "enter", .str who, .int date]]).at s = .ok (.tup [c, st, .tup su, .str "new", pl, gi]) s := by
  constructor
  · unfold f_after_writing
    rw [run_ap T17 3 13 c_after_writing.body [R, .tup [c, st, .tup su, .str "new", pl, gi], .tup [.str "enter", .str who, .int date]] s rfl]
    simp +decide [c_after_writing, ↓at_var, ↓at_glob, ↓at_cI, ↓at_cS, ↓at_cB, ↓at_cN, ↓at_tup, ↓at_lst, ↓at_loc, ↓at_dct, ↓at_bin, ↓at_cmp, ↓at_chain, ↓at_and, ↓at_or, ↓at_not, ↓at_ife, ↓at_idx, ↓at_slc, ↓at_neg, ↓at_isi, ↓at_call, ↓at_bif, ↓at_mth, ↓at_lc, ↓at_lc2, ↓at_rng1, ↓at_rng2, ↓at_lrng, ↓at_zip, ↓at_enum, ↓at_nil, ↓at_cons, ↓at_onone, ↓at_osome, ↓at_tnone, ↓at_tsome, ↓at_onil, ↓at_ocons, ↓at_oown, ↓at_asg, ↓at_par, ↓at_cat, ↓at_own, ↓at_frz, ↓at_app, ↓at_set, ↓at_ret, ↓at_retN, ↓at_if, ↓at_for, ↓at_whl, ↓at_exp, ↓at_pass, ↓at_brk, ↓at_cnt, ↓at_snil, ↓at_scons, ↓lcK_ap, ↓lcB_ap, bindOs, idxM_ap, newM_ap, nox_ok, put_loc, ↓noExn_ap, ↓bind_ap, pure_ap, then_ok, ↓tryS_ap, tr_ok, optM_some, chk_true, callM_some, seqK_nx, seqK_rt, endM_rt, endM_nx, ↓itemsM_ap, ↓bndM_ap, ↓mthM_ap, getV, setV, idx_lst, idx_tup, idx_loc, idx_dct, cmp_lt, cmp_le, cmp_gt, cmp_ge, cmp_eq, cmp_ne, cmp_in, cmp_notIn, cmp_isN, cmp_notN, eq_int, eq_str, eq_bl, add_int, sub_int, mul_int, fdiv_int, mod_int, pow_int, add_str, add_lst, add_tup, add_scr, asB_bl, asInt_int, bif_len_l, bif_len_t, bif_tuple_l, bif_tuple_t, bif_list_l, bif_list_t, bif_all, bif_any, bif_int_i, bif_int_b, bif_str_i, bif_str_s, slc_l, slc_t, bnd_n, bnd_i, its_l, its_t, bindT_nm, bindT_tp, isi_bool_non, isi_bool_bl, isi_bool_int, isi_bool_str, isi_bool_tup, isi_bool_lst, isi_int_non, isi_int_bl, isi_int_int, isi_int_str, isi_int_tup, isi_int_lst, isi_str_non, isi_str_bl, isi_str_int, isi_str_str, isi_str_tup, isi_str_lst, isi_tuple_non, isi_tuple_bl, isi_tuple_int, isi_tuple_str, isi_tuple_tup, isi_tuple_lst, isi_list_non, isi_list_bl, isi_list_int, isi_list_str, isi_list_tup, isi_list_lst, ↓lcM_cons, lcM_nil, forM_nil, forK_nx, forK_rt, itemsAll, asBools, bindTs, enumFrom, lstD, lookL, appM, isOwn, frzM, recvOk, at0, at1, at2, lk1, inA1, t_after_writing_booked, W.bk, line]
  · unfold f_law_written
    rw [run_ap T41 3 14 c_law_written.body [R, .tup [c, st, .tup su, .str "new", pl, gi], .tup [.str "enter", .str who, .int date]] s rfl]
    simp +decide [c_law_written, ↓at_var, ↓at_glob, ↓at_cI, ↓at_cS, ↓at_cB, ↓at_cN, ↓at_tup, ↓at_lst, ↓at_loc, ↓at_dct, ↓at_bin, ↓at_cmp, ↓at_chain, ↓at_and, ↓at_or, ↓at_not, ↓at_ife, ↓at_idx, ↓at_slc, ↓at_neg, ↓at_isi, ↓at_call, ↓at_bif, ↓at_mth, ↓at_lc, ↓at_lc2, ↓at_rng1, ↓at_rng2, ↓at_lrng, ↓at_zip, ↓at_enum, ↓at_nil, ↓at_cons, ↓at_onone, ↓at_osome, ↓at_tnone, ↓at_tsome, ↓at_onil, ↓at_ocons, ↓at_oown, ↓at_asg, ↓at_par, ↓at_cat, ↓at_own, ↓at_frz, ↓at_app, ↓at_set, ↓at_ret, ↓at_retN, ↓at_if, ↓at_for, ↓at_whl, ↓at_exp, ↓at_pass, ↓at_brk, ↓at_cnt, ↓at_snil, ↓at_scons, ↓lcK_ap, ↓lcB_ap, bindOs, idxM_ap, newM_ap, nox_ok, put_loc, ↓noExn_ap, ↓bind_ap, pure_ap, then_ok, ↓tryS_ap, tr_ok, optM_some, chk_true, callM_some, seqK_nx, seqK_rt, endM_rt, endM_nx, ↓itemsM_ap, ↓bndM_ap, ↓mthM_ap, getV, setV, idx_lst, idx_tup, idx_loc, idx_dct, cmp_lt, cmp_le, cmp_gt, cmp_ge, cmp_eq, cmp_ne, cmp_in, cmp_notIn, cmp_isN, cmp_notN, eq_int, eq_str, eq_bl, add_int, sub_int, mul_int, fdiv_int, mod_int, pow_int, add_str, add_lst, add_tup, add_scr, asB_bl, asInt_int, bif_len_l, bif_len_t, bif_tuple_l, bif_tuple_t, bif_list_l, bif_list_t, bif_all, bif_any, bif_int_i, bif_int_b, bif_str_i, bif_str_s, slc_l, slc_t, bnd_n, bnd_i, its_l, its_t, bindT_nm, bindT_tp, isi_bool_non, isi_bool_bl, isi_bool_int, isi_bool_str, isi_bool_tup, isi_bool_lst, isi_int_non, isi_int_bl, isi_int_int, isi_int_str, isi_int_tup, isi_int_lst, isi_str_non, isi_str_bl, isi_str_int, isi_str_str, isi_str_tup, isi_str_lst, isi_tuple_non, isi_tuple_bl, isi_tuple_int, isi_tuple_str, isi_tuple_tup, isi_tuple_lst, isi_list_non, isi_list_bl, isi_list_int, isi_list_str, isi_list_tup, isi_list_lst, ↓lcM_cons, lcM_nil, forM_nil, forK_nx, forK_rt, itemsAll, asBools, bindTs, enumFrom, lstD, lookL, appM, isOwn, frzM, recvOk, at0, at1, at2, lk1, inB1, t_law_written_law_put_in, W.pt, line]
theorem aw_enterX (hli : li = "in" ∨ li = "moved" ∨ li = "out") (W : Wr R c st su li pl gi who date t g) : (f_after_writing [R, .tup [c, st, .tup su, .str li, pl, gi], .tup [.str "enter", .str who, .int date]]).at s = .ok .non s ∧
    (f_law_written [R, .tup [c, st, .tup su, .str li, pl, gi], .tup [.str "enter", .str who, .int date]]).at s = .ok (.tup [c, st, .tup su, .str li, pl, gi]) s := by
  have i1 : inD (.str li) (.tup [.str "new"]) = some false := by rcases hli with rfl | rfl | rfl <;> simp [inA1]
  have i2 : inD (.str li) (.lst [.str "new"]) = some false := by rcases hli with rfl | rfl | rfl <;> simp [inB1]
  constructor
  · unfold f_after_writing
    rw [run_ap T17 3 13 c_after_writing.body [R, .tup [c, st, .tup su, .str li, pl, gi], .tup [.str "enter", .str who, .int date]] s rfl]
    simp +decide [c_after_writing, ↓at_var, ↓at_glob, ↓at_cI, ↓at_cS, ↓at_cB, ↓at_cN, ↓at_tup, ↓at_lst, ↓at_loc, ↓at_dct, ↓at_bin, ↓at_cmp, ↓at_chain, ↓at_and, ↓at_or, ↓at_not, ↓at_ife, ↓at_idx, ↓at_slc, ↓at_neg, ↓at_isi, ↓at_call, ↓at_bif, ↓at_mth, ↓at_lc, ↓at_lc2, ↓at_rng1, ↓at_rng2, ↓at_lrng, ↓at_zip, ↓at_enum, ↓at_nil, ↓at_cons, ↓at_onone, ↓at_osome, ↓at_tnone, ↓at_tsome, ↓at_onil, ↓at_ocons, ↓at_oown, ↓at_asg, ↓at_par, ↓at_cat, ↓at_own, ↓at_frz, ↓at_app, ↓at_set, ↓at_ret, ↓at_retN, ↓at_if, ↓at_for, ↓at_whl, ↓at_exp, ↓at_pass, ↓at_brk, ↓at_cnt, ↓at_snil, ↓at_scons, ↓lcK_ap, ↓lcB_ap, bindOs, idxM_ap, newM_ap, nox_ok, put_loc, ↓noExn_ap, ↓bind_ap, pure_ap, then_ok, ↓tryS_ap, tr_ok, optM_some, chk_true, callM_some, seqK_nx, seqK_rt, endM_rt, endM_nx, ↓itemsM_ap, ↓bndM_ap, ↓mthM_ap, getV, setV, idx_lst, idx_tup, idx_loc, idx_dct, cmp_lt, cmp_le, cmp_gt, cmp_ge, cmp_eq, cmp_ne, cmp_in, cmp_notIn, cmp_isN, cmp_notN, eq_int, eq_str, eq_bl, add_int, sub_int, mul_int, fdiv_int, mod_int, pow_int, add_str, add_lst, add_tup, add_scr, asB_bl, asInt_int, bif_len_l, bif_len_t, bif_tuple_l, bif_tuple_t, bif_list_l, bif_list_t, bif_all, bif_any, bif_int_i, bif_int_b, bif_str_i, bif_str_s, slc_l, slc_t, bnd_n, bnd_i, its_l, its_t, bindT_nm, bindT_tp, isi_bool_non, isi_bool_bl, isi_bool_int, isi_bool_str, isi_bool_tup, isi_bool_lst, isi_int_non, isi_int_bl, isi_int_int, isi_int_str, isi_int_tup, isi_int_lst, isi_str_non, isi_str_bl, isi_str_int, isi_str_str, isi_str_tup, isi_str_lst, isi_tuple_non, isi_tuple_bl, isi_tuple_int, isi_tuple_str, isi_tuple_tup, isi_tuple_lst, isi_list_non, isi_list_bl, isi_list_int, isi_list_str, isi_list_tup, isi_list_lst, ↓lcM_cons, lcM_nil, forM_nil, forK_nx, forK_rt, itemsAll, asBools, bindTs, enumFrom, lstD, lookL, appM, isOwn, frzM, recvOk, at0, at1, at2, lk1, i1, line]
  · unfold f_law_written
    rw [run_ap T41 3 14 c_law_written.body [R, .tup [c, st, .tup su, .str li, pl, gi], .tup [.str "enter", .str who, .int date]] s rfl]
    simp +decide [c_law_written, ↓at_var, ↓at_glob, ↓at_cI, ↓at_cS, ↓at_cB, ↓at_cN, ↓at_tup, ↓at_lst, ↓at_loc, ↓at_dct, ↓at_bin, ↓at_cmp, ↓at_chain, ↓at_and, ↓at_or, ↓at_not, ↓at_ife, ↓at_idx, ↓at_slc, ↓at_neg, ↓at_isi, ↓at_call, ↓at_bif, ↓at_mth, ↓at_lc, ↓at_lc2, ↓at_rng1, ↓at_rng2, ↓at_lrng, ↓at_zip, ↓at_enum, ↓at_nil, ↓at_cons, ↓at_onone, ↓at_osome, ↓at_tnone, ↓at_tsome, ↓at_onil, ↓at_ocons, ↓at_oown, ↓at_asg, ↓at_par, ↓at_cat, ↓at_own, ↓at_frz, ↓at_app, ↓at_set, ↓at_ret, ↓at_retN, ↓at_if, ↓at_for, ↓at_whl, ↓at_exp, ↓at_pass, ↓at_brk, ↓at_cnt, ↓at_snil, ↓at_scons, ↓lcK_ap, ↓lcB_ap, bindOs, idxM_ap, newM_ap, nox_ok, put_loc, ↓noExn_ap, ↓bind_ap, pure_ap, then_ok, ↓tryS_ap, tr_ok, optM_some, chk_true, callM_some, seqK_nx, seqK_rt, endM_rt, endM_nx, ↓itemsM_ap, ↓bndM_ap, ↓mthM_ap, getV, setV, idx_lst, idx_tup, idx_loc, idx_dct, cmp_lt, cmp_le, cmp_gt, cmp_ge, cmp_eq, cmp_ne, cmp_in, cmp_notIn, cmp_isN, cmp_notN, eq_int, eq_str, eq_bl, add_int, sub_int, mul_int, fdiv_int, mod_int, pow_int, add_str, add_lst, add_tup, add_scr, asB_bl, asInt_int, bif_len_l, bif_len_t, bif_tuple_l, bif_tuple_t, bif_list_l, bif_list_t, bif_all, bif_any, bif_int_i, bif_int_b, bif_str_i, bif_str_s, slc_l, slc_t, bnd_n, bnd_i, its_l, its_t, bindT_nm, bindT_tp, isi_bool_non, isi_bool_bl, isi_bool_int, isi_bool_str, isi_bool_tup, isi_bool_lst, isi_int_non, isi_int_bl, isi_int_int, isi_int_str, isi_int_tup, isi_int_lst, isi_str_non, isi_str_bl, isi_str_int, isi_str_str, isi_str_tup, isi_str_lst, isi_tuple_non, isi_tuple_bl, isi_tuple_int, isi_tuple_str, isi_tuple_tup, isi_tuple_lst, isi_list_non, isi_list_bl, isi_list_int, isi_list_str, isi_list_tup, isi_list_lst, ↓lcM_cons, lcM_nil, forM_nil, forK_nx, forK_rt, itemsAll, asBools, bindTs, enumFrom, lstD, lookL, appM, isOwn, frzM, recvOk, at0, at1, at2, lk1, i2, t_law_written_law_put_in, W.pt, line]
theorem aw_move (W : Wr R c st su "in" pl gi who date t g) (U : Un R c st su "in" pl gi who g) (P1 : Pu su g (-1) su1) (P2 : Pu su1 t 1 su2) : (f_after_writing [R, .tup [c, st, .tup su, .str "in", pl, gi], .tup [.str "move", .str who, .int date]]).at s = .ok (.tup [c, st, .tup su2, .str "moved", .int t, gi]) s ∧
    (f_law_written [R, .tup [c, st, .tup su, .str "in", pl, gi], .tup [.str "move", .str who, .int date]]).at s = .ok (.tup [c, st, .tup su2, .str "moved", .int t, gi]) s := by
  obtain ⟨x, h1, h2, h3⟩ := P1.at_
  obtain ⟨x', h1', h2', h3'⟩ := P2.at_
  have ht := P2.pos
  have ht0 : t ≠ 0 := by omega
  have hg := P1.pos
  have hg0 : g ≠ 0 := by omega
  have hl : su.length ≤ 16777216 := by have := P1.len; omega
  have hl' : su1.length ≤ 16777216 := by have := P2.len; omega
  have em : x - 1 = x + -1 := rfl
  rw [← em] at h2 h3
  constructor
  · unfold f_after_writing
    rw [run_ap T17 3 13 c_after_writing.body [R, .tup [c, st, .tup su, .str "in", pl, gi], .tup [.str "move", .str who, .int date]] s rfl]
    simp +decide [c_after_writing, ↓at_var, ↓at_glob, ↓at_cI, ↓at_cS, ↓at_cB, ↓at_cN, ↓at_tup, ↓at_lst, ↓at_loc, ↓at_dct, ↓at_bin, ↓at_cmp, ↓at_chain, ↓at_and, ↓at_or, ↓at_not, ↓at_ife, ↓at_idx, ↓at_slc, ↓at_neg, ↓at_isi, ↓at_call, ↓at_bif, ↓at_mth, ↓at_lc, ↓at_lc2, ↓at_rng1, ↓at_rng2, ↓at_lrng, ↓at_zip, ↓at_enum, ↓at_nil, ↓at_cons, ↓at_onone, ↓at_osome, ↓at_tnone, ↓at_tsome, ↓at_onil, ↓at_ocons, ↓at_oown, ↓at_asg, ↓at_par, ↓at_cat, ↓at_own, ↓at_frz, ↓at_app, ↓at_set, ↓at_ret, ↓at_retN, ↓at_if, ↓at_for, ↓at_whl, ↓at_exp, ↓at_pass, ↓at_brk, ↓at_cnt, ↓at_snil, ↓at_scons, ↓lcK_ap, ↓lcB_ap, bindOs, idxM_ap, newM_ap, nox_ok, put_loc, ↓noExn_ap, ↓bind_ap, pure_ap, then_ok, ↓tryS_ap, tr_ok, optM_some, chk_true, callM_some, seqK_nx, seqK_rt, endM_rt, endM_nx, ↓itemsM_ap, ↓bndM_ap, ↓mthM_ap, getV, setV, idx_lst, idx_tup, idx_loc, idx_dct, cmp_lt, cmp_le, cmp_gt, cmp_ge, cmp_eq, cmp_ne, cmp_in, cmp_notIn, cmp_isN, cmp_notN, eq_int, eq_str, eq_bl, add_int, sub_int, mul_int, fdiv_int, mod_int, pow_int, add_str, add_lst, add_tup, add_scr, asB_bl, asInt_int, bif_len_l, bif_len_t, bif_tuple_l, bif_tuple_t, bif_list_l, bif_list_t, bif_all, bif_any, bif_int_i, bif_int_b, bif_str_i, bif_str_s, slc_l, slc_t, bnd_n, bnd_i, its_l, its_t, bindT_nm, bindT_tp, isi_bool_non, isi_bool_bl, isi_bool_int, isi_bool_str, isi_bool_tup, isi_bool_lst, isi_int_non, isi_int_bl, isi_int_int, isi_int_str, isi_int_tup, isi_int_lst, isi_str_non, isi_str_bl, isi_str_int, isi_str_str, isi_str_tup, isi_str_lst, isi_tuple_non, isi_tuple_bl, isi_tuple_int, isi_tuple_str, isi_tuple_tup, isi_tuple_lst, isi_list_non, isi_list_bl, isi_list_int, isi_list_str, isi_list_tup, isi_list_lst, ↓lcM_cons, lcM_nil, forM_nil, forK_nx, forK_rt, itemsAll, asBools, bindTs, enumFrom, lstD, lookL, appM, isOwn, frzM, recvOk, at0, at1, at2, lk2, inA2, t_after_writing_booked, W.bk, t_after_writing_unbooked, U.ub, ht0, hg0, t_after_writing_put_at, h1, h2, h1', h2', hl, hl', line]
  · unfold f_law_written
    rw [run_ap T41 3 14 c_law_written.body [R, .tup [c, st, .tup su, .str "in", pl, gi], .tup [.str "move", .str who, .int date]] s rfl]
    simp +decide [c_law_written, ↓at_var, ↓at_glob, ↓at_cI, ↓at_cS, ↓at_cB, ↓at_cN, ↓at_tup, ↓at_lst, ↓at_loc, ↓at_dct, ↓at_bin, ↓at_cmp, ↓at_chain, ↓at_and, ↓at_or, ↓at_not, ↓at_ife, ↓at_idx, ↓at_slc, ↓at_neg, ↓at_isi, ↓at_call, ↓at_bif, ↓at_mth, ↓at_lc, ↓at_lc2, ↓at_rng1, ↓at_rng2, ↓at_lrng, ↓at_zip, ↓at_enum, ↓at_nil, ↓at_cons, ↓at_onone, ↓at_osome, ↓at_tnone, ↓at_tsome, ↓at_onil, ↓at_ocons, ↓at_oown, ↓at_asg, ↓at_par, ↓at_cat, ↓at_own, ↓at_frz, ↓at_app, ↓at_set, ↓at_ret, ↓at_retN, ↓at_if, ↓at_for, ↓at_whl, ↓at_exp, ↓at_pass, ↓at_brk, ↓at_cnt, ↓at_snil, ↓at_scons, ↓lcK_ap, ↓lcB_ap, bindOs, idxM_ap, newM_ap, nox_ok, put_loc, ↓noExn_ap, ↓bind_ap, pure_ap, then_ok, ↓tryS_ap, tr_ok, optM_some, chk_true, callM_some, seqK_nx, seqK_rt, endM_rt, endM_nx, ↓itemsM_ap, ↓bndM_ap, ↓mthM_ap, getV, setV, idx_lst, idx_tup, idx_loc, idx_dct, cmp_lt, cmp_le, cmp_gt, cmp_ge, cmp_eq, cmp_ne, cmp_in, cmp_notIn, cmp_isN, cmp_notN, eq_int, eq_str, eq_bl, add_int, sub_int, mul_int, fdiv_int, mod_int, pow_int, add_str, add_lst, add_tup, add_scr, asB_bl, asInt_int, bif_len_l, bif_len_t, bif_tuple_l, bif_tuple_t, bif_list_l, bif_list_t, bif_all, bif_any, bif_int_i, bif_int_b, bif_str_i, bif_str_s, slc_l, slc_t, bnd_n, bnd_i, its_l, its_t, bindT_nm, bindT_tp, isi_bool_non, isi_bool_bl, isi_bool_int, isi_bool_str, isi_bool_tup, isi_bool_lst, isi_int_non, isi_int_bl, isi_int_int, isi_int_str, isi_int_tup, isi_int_lst, isi_str_non, isi_str_bl, isi_str_int, isi_str_str, isi_str_tup, isi_str_lst, isi_tuple_non, isi_tuple_bl, isi_tuple_int, isi_tuple_str, isi_tuple_tup, isi_tuple_lst, isi_list_non, isi_list_bl, isi_list_int, isi_list_str, isi_list_tup, isi_list_lst, ↓lcM_cons, lcM_nil, forM_nil, forK_nx, forK_rt, itemsAll, asBools, bindTs, enumFrom, lstD, lookL, appM, isOwn, frzM, recvOk, at0, at1, at2, lk2, inB2, t_law_written_law_put_in, W.pt, t_law_written_law_put_out, U.ot, ht0, ht, hg0, hg, t_law_written_law_changed, h1, h3, h1', h3', hl, hl', line]
theorem aw_move0 (W : Wr R c st su "in" pl gi who date t g) (U : Un R c st su "in" pl gi who g) (hz : t = 0 ∨ (t ≠ 0 ∧ g = 0)) : (f_after_writing [R, .tup [c, st, .tup su, .str "in", pl, gi], .tup [.str "move", .str who, .int date]]).at s = .ok .non s ∧
    (f_law_written [R, .tup [c, st, .tup su, .str "in", pl, gi], .tup [.str "move", .str who, .int date]]).at s = .ok (.tup [c, st, .tup su, .str "in", pl, gi]) s := by
  have w1 := W.bk
  have w2 := W.pt
  have u1 := U.ub
  have u2 := U.ot
  constructor
  · unfold f_after_writing
    rw [run_ap T17 3 13 c_after_writing.body [R, .tup [c, st, .tup su, .str "in", pl, gi], .tup [.str "move", .str who, .int date]] s rfl]
    rcases hz with rfl | ⟨h0, rfl⟩
    · simp +decide [c_after_writing, ↓at_var, ↓at_glob, ↓at_cI, ↓at_cS, ↓at_cB, ↓at_cN, ↓at_tup, ↓at_lst, ↓at_loc, ↓at_dct, ↓at_bin, ↓at_cmp, ↓at_chain, ↓at_and, ↓at_or, ↓at_not, ↓at_ife, ↓at_idx, ↓at_slc, ↓at_neg, ↓at_isi, ↓at_call, ↓at_bif, ↓at_mth, ↓at_lc, ↓at_lc2, ↓at_rng1, ↓at_rng2, ↓at_lrng, ↓at_zip, ↓at_enum, ↓at_nil, ↓at_cons, ↓at_onone, ↓at_osome, ↓at_tnone, ↓at_tsome, ↓at_onil, ↓at_ocons, ↓at_oown, ↓at_asg, ↓at_par, ↓at_cat, ↓at_own, ↓at_frz, ↓at_app, ↓at_set, ↓at_ret, ↓at_retN, ↓at_if, ↓at_for, ↓at_whl, ↓at_exp, ↓at_pass, ↓at_brk, ↓at_cnt, ↓at_snil, ↓at_scons, ↓lcK_ap, ↓lcB_ap, bindOs, idxM_ap, newM_ap, nox_ok, put_loc, ↓noExn_ap, ↓bind_ap, pure_ap, then_ok, ↓tryS_ap, tr_ok, optM_some, chk_true, callM_some, seqK_nx, seqK_rt, endM_rt, endM_nx, ↓itemsM_ap, ↓bndM_ap, ↓mthM_ap, getV, setV, idx_lst, idx_tup, idx_loc, idx_dct, cmp_lt, cmp_le, cmp_gt, cmp_ge, cmp_eq, cmp_ne, cmp_in, cmp_notIn, cmp_isN, cmp_notN, eq_int, eq_str, eq_bl, add_int, sub_int, mul_int, fdiv_int, mod_int, pow_int, add_str, add_lst, add_tup, add_scr, asB_bl, asInt_int, bif_len_l, bif_len_t, bif_tuple_l, bif_tuple_t, bif_list_l, bif_list_t, bif_all, bif_any, bif_int_i, bif_int_b, bif_str_i, bif_str_s, slc_l, slc_t, bnd_n, bnd_i, its_l, its_t, bindT_nm, bindT_tp, isi_bool_non, isi_bool_bl, isi_bool_int, isi_bool_str, isi_bool_tup, isi_bool_lst, isi_int_non, isi_int_bl, isi_int_int, isi_int_str, isi_int_tup, isi_int_lst, isi_str_non, isi_str_bl, isi_str_int, isi_str_str, isi_str_tup, isi_str_lst, isi_tuple_non, isi_tuple_bl, isi_tuple_int, isi_tuple_str, isi_tuple_tup, isi_tuple_lst, isi_list_non, isi_list_bl, isi_list_int, isi_list_str, isi_list_tup, isi_list_lst, ↓lcM_cons, lcM_nil, forM_nil, forK_nx, forK_rt, itemsAll, asBools, bindTs, enumFrom, lstD, lookL, appM, isOwn, frzM, recvOk, at0, at1, at2, lk2, inA2, t_after_writing_booked, w1, line]
    · simp +decide [c_after_writing, ↓at_var, ↓at_glob, ↓at_cI, ↓at_cS, ↓at_cB, ↓at_cN, ↓at_tup, ↓at_lst, ↓at_loc, ↓at_dct, ↓at_bin, ↓at_cmp, ↓at_chain, ↓at_and, ↓at_or, ↓at_not, ↓at_ife, ↓at_idx, ↓at_slc, ↓at_neg, ↓at_isi, ↓at_call, ↓at_bif, ↓at_mth, ↓at_lc, ↓at_lc2, ↓at_rng1, ↓at_rng2, ↓at_lrng, ↓at_zip, ↓at_enum, ↓at_nil, ↓at_cons, ↓at_onone, ↓at_osome, ↓at_tnone, ↓at_tsome, ↓at_onil, ↓at_ocons, ↓at_oown, ↓at_asg, ↓at_par, ↓at_cat, ↓at_own, ↓at_frz, ↓at_app, ↓at_set, ↓at_ret, ↓at_retN, ↓at_if, ↓at_for, ↓at_whl, ↓at_exp, ↓at_pass, ↓at_brk, ↓at_cnt, ↓at_snil, ↓at_scons, ↓lcK_ap, ↓lcB_ap, bindOs, idxM_ap, newM_ap, nox_ok, put_loc, ↓noExn_ap, ↓bind_ap, pure_ap, then_ok, ↓tryS_ap, tr_ok, optM_some, chk_true, callM_some, seqK_nx, seqK_rt, endM_rt, endM_nx, ↓itemsM_ap, ↓bndM_ap, ↓mthM_ap, getV, setV, idx_lst, idx_tup, idx_loc, idx_dct, cmp_lt, cmp_le, cmp_gt, cmp_ge, cmp_eq, cmp_ne, cmp_in, cmp_notIn, cmp_isN, cmp_notN, eq_int, eq_str, eq_bl, add_int, sub_int, mul_int, fdiv_int, mod_int, pow_int, add_str, add_lst, add_tup, add_scr, asB_bl, asInt_int, bif_len_l, bif_len_t, bif_tuple_l, bif_tuple_t, bif_list_l, bif_list_t, bif_all, bif_any, bif_int_i, bif_int_b, bif_str_i, bif_str_s, slc_l, slc_t, bnd_n, bnd_i, its_l, its_t, bindT_nm, bindT_tp, isi_bool_non, isi_bool_bl, isi_bool_int, isi_bool_str, isi_bool_tup, isi_bool_lst, isi_int_non, isi_int_bl, isi_int_int, isi_int_str, isi_int_tup, isi_int_lst, isi_str_non, isi_str_bl, isi_str_int, isi_str_str, isi_str_tup, isi_str_lst, isi_tuple_non, isi_tuple_bl, isi_tuple_int, isi_tuple_str, isi_tuple_tup, isi_tuple_lst, isi_list_non, isi_list_bl, isi_list_int, isi_list_str, isi_list_tup, isi_list_lst, ↓lcM_cons, lcM_nil, forM_nil, forK_nx, forK_rt, itemsAll, asBools, bindTs, enumFrom, lstD, lookL, appM, isOwn, frzM, recvOk, at0, at1, at2, lk2, inA2, t_after_writing_booked, w1, h0, t_after_writing_unbooked, u1, line]
  · unfold f_law_written
    rw [run_ap T41 3 14 c_law_written.body [R, .tup [c, st, .tup su, .str "in", pl, gi], .tup [.str "move", .str who, .int date]] s rfl]
    rcases hz with rfl | ⟨h0, rfl⟩
    · simp +decide [c_law_written, ↓at_var, ↓at_glob, ↓at_cI, ↓at_cS, ↓at_cB, ↓at_cN, ↓at_tup, ↓at_lst, ↓at_loc, ↓at_dct, ↓at_bin, ↓at_cmp, ↓at_chain, ↓at_and, ↓at_or, ↓at_not, ↓at_ife, ↓at_idx, ↓at_slc, ↓at_neg, ↓at_isi, ↓at_call, ↓at_bif, ↓at_mth, ↓at_lc, ↓at_lc2, ↓at_rng1, ↓at_rng2, ↓at_lrng, ↓at_zip, ↓at_enum, ↓at_nil, ↓at_cons, ↓at_onone, ↓at_osome, ↓at_tnone, ↓at_tsome, ↓at_onil, ↓at_ocons, ↓at_oown, ↓at_asg, ↓at_par, ↓at_cat, ↓at_own, ↓at_frz, ↓at_app, ↓at_set, ↓at_ret, ↓at_retN, ↓at_if, ↓at_for, ↓at_whl, ↓at_exp, ↓at_pass, ↓at_brk, ↓at_cnt, ↓at_snil, ↓at_scons, ↓lcK_ap, ↓lcB_ap, bindOs, idxM_ap, newM_ap, nox_ok, put_loc, ↓noExn_ap, ↓bind_ap, pure_ap, then_ok, ↓tryS_ap, tr_ok, optM_some, chk_true, callM_some, seqK_nx, seqK_rt, endM_rt, endM_nx, ↓itemsM_ap, ↓bndM_ap, ↓mthM_ap, getV, setV, idx_lst, idx_tup, idx_loc, idx_dct, cmp_lt, cmp_le, cmp_gt, cmp_ge, cmp_eq, cmp_ne, cmp_in, cmp_notIn, cmp_isN, cmp_notN, eq_int, eq_str, eq_bl, add_int, sub_int, mul_int, fdiv_int, mod_int, pow_int, add_str, add_lst, add_tup, add_scr, asB_bl, asInt_int, bif_len_l, bif_len_t, bif_tuple_l, bif_tuple_t, bif_list_l, bif_list_t, bif_all, bif_any, bif_int_i, bif_int_b, bif_str_i, bif_str_s, slc_l, slc_t, bnd_n, bnd_i, its_l, its_t, bindT_nm, bindT_tp, isi_bool_non, isi_bool_bl, isi_bool_int, isi_bool_str, isi_bool_tup, isi_bool_lst, isi_int_non, isi_int_bl, isi_int_int, isi_int_str, isi_int_tup, isi_int_lst, isi_str_non, isi_str_bl, isi_str_int, isi_str_str, isi_str_tup, isi_str_lst, isi_tuple_non, isi_tuple_bl, isi_tuple_int, isi_tuple_str, isi_tuple_tup, isi_tuple_lst, isi_list_non, isi_list_bl, isi_list_int, isi_list_str, isi_list_tup, isi_list_lst, ↓lcM_cons, lcM_nil, forM_nil, forK_nx, forK_rt, itemsAll, asBools, bindTs, enumFrom, lstD, lookL, appM, isOwn, frzM, recvOk, at0, at1, at2, lk2, inB2, t_law_written_law_put_in, w2, t_law_written_law_put_out, u2, line]
    · simp +decide [c_law_written, ↓at_var, ↓at_glob, ↓at_cI, ↓at_cS, ↓at_cB, ↓at_cN, ↓at_tup, ↓at_lst, ↓at_loc, ↓at_dct, ↓at_bin, ↓at_cmp, ↓at_chain, ↓at_and, ↓at_or, ↓at_not, ↓at_ife, ↓at_idx, ↓at_slc, ↓at_neg, ↓at_isi, ↓at_call, ↓at_bif, ↓at_mth, ↓at_lc, ↓at_lc2, ↓at_rng1, ↓at_rng2, ↓at_lrng, ↓at_zip, ↓at_enum, ↓at_nil, ↓at_cons, ↓at_onone, ↓at_osome, ↓at_tnone, ↓at_tsome, ↓at_onil, ↓at_ocons, ↓at_oown, ↓at_asg, ↓at_par, ↓at_cat, ↓at_own, ↓at_frz, ↓at_app, ↓at_set, ↓at_ret, ↓at_retN, ↓at_if, ↓at_for, ↓at_whl, ↓at_exp, ↓at_pass, ↓at_brk, ↓at_cnt, ↓at_snil, ↓at_scons, ↓lcK_ap, ↓lcB_ap, bindOs, idxM_ap, newM_ap, nox_ok, put_loc, ↓noExn_ap, ↓bind_ap, pure_ap, then_ok, ↓tryS_ap, tr_ok, optM_some, chk_true, callM_some, seqK_nx, seqK_rt, endM_rt, endM_nx, ↓itemsM_ap, ↓bndM_ap, ↓mthM_ap, getV, setV, idx_lst, idx_tup, idx_loc, idx_dct, cmp_lt, cmp_le, cmp_gt, cmp_ge, cmp_eq, cmp_ne, cmp_in, cmp_notIn, cmp_isN, cmp_notN, eq_int, eq_str, eq_bl, add_int, sub_int, mul_int, fdiv_int, mod_int, pow_int, add_str, add_lst, add_tup, add_scr, asB_bl, asInt_int, bif_len_l, bif_len_t, bif_tuple_l, bif_tuple_t, bif_list_l, bif_list_t, bif_all, bif_any, bif_int_i, bif_int_b, bif_str_i, bif_str_s, slc_l, slc_t, bnd_n, bnd_i, its_l, its_t, bindT_nm, bindT_tp, isi_bool_non, isi_bool_bl, isi_bool_int, isi_bool_str, isi_bool_tup, isi_bool_lst, isi_int_non, isi_int_bl, isi_int_int, isi_int_str, isi_int_tup, isi_int_lst, isi_str_non, isi_str_bl, isi_str_int, isi_str_str, isi_str_tup, isi_str_lst, isi_tuple_non, isi_tuple_bl, isi_tuple_int, isi_tuple_str, isi_tuple_tup, isi_tuple_lst, isi_list_non, isi_list_bl, isi_list_int, isi_list_str, isi_list_tup, isi_list_lst, ↓lcM_cons, lcM_nil, forM_nil, forK_nx, forK_rt, itemsAll, asBools, bindTs, enumFrom, lstD, lookL, appM, isOwn, frzM, recvOk, at0, at1, at2, lk2, inB2, t_law_written_law_put_in, w2, h0, t_law_written_law_put_out, u2, line]
theorem aw_moveX (hli : li = "new" ∨ li = "moved" ∨ li = "out") (W : Wr R c st su li pl gi who date t g) : (f_after_writing [R, .tup [c, st, .tup su, .str li, pl, gi], .tup [.str "move", .str who, .int date]]).at s = .ok .non s ∧
    (f_law_written [R, .tup [c, st, .tup su, .str li, pl, gi], .tup [.str "move", .str who, .int date]]).at s = .ok (.tup [c, st, .tup su, .str li, pl, gi]) s := by
  have i1 : inD (.str li) (.tup [.str "in"]) = some false := by rcases hli with rfl | rfl | rfl <;> simp [inA2]
  have i2 : inD (.str li) (.lst [.str "in"]) = some false := by rcases hli with rfl | rfl | rfl <;> simp [inB2]
  constructor
  · unfold f_after_writing
    rw [run_ap T17 3 13 c_after_writing.body [R, .tup [c, st, .tup su, .str li, pl, gi], .tup [.str "move", .str who, .int date]] s rfl]
    simp +decide [c_after_writing, ↓at_var, ↓at_glob, ↓at_cI, ↓at_cS, ↓at_cB, ↓at_cN, ↓at_tup, ↓at_lst, ↓at_loc, ↓at_dct, ↓at_bin, ↓at_cmp, ↓at_chain, ↓at_and, ↓at_or, ↓at_not, ↓at_ife, ↓at_idx, ↓at_slc, ↓at_neg, ↓at_isi, ↓at_call, ↓at_bif, ↓at_mth, ↓at_lc, ↓at_lc2, ↓at_rng1, ↓at_rng2, ↓at_lrng, ↓at_zip, ↓at_enum, ↓at_nil, ↓at_cons, ↓at_onone, ↓at_osome, ↓at_tnone, ↓at_tsome, ↓at_onil, ↓at_ocons, ↓at_oown, ↓at_asg, ↓at_par, ↓at_cat, ↓at_own, ↓at_frz, ↓at_app, ↓at_set, ↓at_ret, ↓at_retN, ↓at_if, ↓at_for, ↓at_whl, ↓at_exp, ↓at_pass, ↓at_brk, ↓at_cnt, ↓at_snil, ↓at_scons, ↓lcK_ap, ↓lcB_ap, bindOs, idxM_ap, newM_ap, nox_ok, put_loc, ↓noExn_ap, ↓bind_ap, pure_ap, then_ok, ↓tryS_ap, tr_ok, optM_some, chk_true, callM_some, seqK_nx, seqK_rt, endM_rt, endM_nx, ↓itemsM_ap, ↓bndM_ap, ↓mthM_ap, getV, setV, idx_lst, idx_tup, idx_loc, idx_dct, cmp_lt, cmp_le, cmp_gt, cmp_ge, cmp_eq, cmp_ne, cmp_in, cmp_notIn, cmp_isN, cmp_notN, eq_int, eq_str, eq_bl, add_int, sub_int, mul_int, fdiv_int, mod_int, pow_int, add_str, add_lst, add_tup, add_scr, asB_bl, asInt_int, bif_len_l, bif_len_t, bif_tuple_l, bif_tuple_t, bif_list_l, bif_list_t, bif_all, bif_any, bif_int_i, bif_int_b, bif_str_i, bif_str_s, slc_l, slc_t, bnd_n, bnd_i, its_l, its_t, bindT_nm, bindT_tp, isi_bool_non, isi_bool_bl, isi_bool_int, isi_bool_str, isi_bool_tup, isi_bool_lst, isi_int_non, isi_int_bl, isi_int_int, isi_int_str, isi_int_tup, isi_int_lst, isi_str_non, isi_str_bl, isi_str_int, isi_str_str, isi_str_tup, isi_str_lst, isi_tuple_non, isi_tuple_bl, isi_tuple_int, isi_tuple_str, isi_tuple_tup, isi_tuple_lst, isi_list_non, isi_list_bl, isi_list_int, isi_list_str, isi_list_tup, isi_list_lst, ↓lcM_cons, lcM_nil, forM_nil, forK_nx, forK_rt, itemsAll, asBools, bindTs, enumFrom, lstD, lookL, appM, isOwn, frzM, recvOk, at0, at1, at2, lk2, i1, line]
  · unfold f_law_written
    rw [run_ap T41 3 14 c_law_written.body [R, .tup [c, st, .tup su, .str li, pl, gi], .tup [.str "move", .str who, .int date]] s rfl]
    simp +decide [c_law_written, ↓at_var, ↓at_glob, ↓at_cI, ↓at_cS, ↓at_cB, ↓at_cN, ↓at_tup, ↓at_lst, ↓at_loc, ↓at_dct, ↓at_bin, ↓at_cmp, ↓at_chain, ↓at_and, ↓at_or, ↓at_not, ↓at_ife, ↓at_idx, ↓at_slc, ↓at_neg, ↓at_isi, ↓at_call, ↓at_bif, ↓at_mth, ↓at_lc, ↓at_lc2, ↓at_rng1, ↓at_rng2, ↓at_lrng, ↓at_zip, ↓at_enum, ↓at_nil, ↓at_cons, ↓at_onone, ↓at_osome, ↓at_tnone, ↓at_tsome, ↓at_onil, ↓at_ocons, ↓at_oown, ↓at_asg, ↓at_par, ↓at_cat, ↓at_own, ↓at_frz, ↓at_app, ↓at_set, ↓at_ret, ↓at_retN, ↓at_if, ↓at_for, ↓at_whl, ↓at_exp, ↓at_pass, ↓at_brk, ↓at_cnt, ↓at_snil, ↓at_scons, ↓lcK_ap, ↓lcB_ap, bindOs, idxM_ap, newM_ap, nox_ok, put_loc, ↓noExn_ap, ↓bind_ap, pure_ap, then_ok, ↓tryS_ap, tr_ok, optM_some, chk_true, callM_some, seqK_nx, seqK_rt, endM_rt, endM_nx, ↓itemsM_ap, ↓bndM_ap, ↓mthM_ap, getV, setV, idx_lst, idx_tup, idx_loc, idx_dct, cmp_lt, cmp_le, cmp_gt, cmp_ge, cmp_eq, cmp_ne, cmp_in, cmp_notIn, cmp_isN, cmp_notN, eq_int, eq_str, eq_bl, add_int, sub_int, mul_int, fdiv_int, mod_int, pow_int, add_str, add_lst, add_tup, add_scr, asB_bl, asInt_int, bif_len_l, bif_len_t, bif_tuple_l, bif_tuple_t, bif_list_l, bif_list_t, bif_all, bif_any, bif_int_i, bif_int_b, bif_str_i, bif_str_s, slc_l, slc_t, bnd_n, bnd_i, its_l, its_t, bindT_nm, bindT_tp, isi_bool_non, isi_bool_bl, isi_bool_int, isi_bool_str, isi_bool_tup, isi_bool_lst, isi_int_non, isi_int_bl, isi_int_int, isi_int_str, isi_int_tup, isi_int_lst, isi_str_non, isi_str_bl, isi_str_int, isi_str_str, isi_str_tup, isi_str_lst, isi_tuple_non, isi_tuple_bl, isi_tuple_int, isi_tuple_str, isi_tuple_tup, isi_tuple_lst, isi_list_non, isi_list_bl, isi_list_int, isi_list_str, isi_list_tup, isi_list_lst, ↓lcM_cons, lcM_nil, forM_nil, forK_nx, forK_rt, itemsAll, asBools, bindTs, enumFrom, lstD, lookL, appM, isOwn, frzM, recvOk, at0, at1, at2, lk2, i2, t_law_written_law_put_in, W.pt, line]
theorem aw_take (hli : li = "in" ∨ li = "moved") (U : Un R c st su li pl gi who g) (P : Pu su g (-1) su1) : (f_after_writing [R, .tup [c, st, .tup su, .str li, pl, gi], .tup [.str "take", .str who]]).at s = .ok (.tup [c, st, .tup su1, .str "out", .int 0, gi]) s ∧
    (f_law_written [R, .tup [c, st, .tup su, .str li, pl, gi], .tup [.str "take", .str who]]).at s = .ok (.tup [c, st, .tup su1, .str "out", .int 0, gi]) s := by
  obtain ⟨x, h1, h2, h3⟩ := P.at_
  have hg := P.pos
  have hg0 : g ≠ 0 := by omega
  have hl : su.length ≤ 16777216 := by have := P.len; omega
  have em : x - 1 = x + -1 := rfl
  rw [← em] at h2 h3
  have i1 : inD (.str li) (.tup [.str "in", .str "moved"]) = some true := by rcases hli with rfl | rfl <;> simp [inA3]
  have i2 : inD (.str li) (.lst [.str "in", .str "moved"]) = some true := by rcases hli with rfl | rfl <;> simp [inB3]
  constructor
  · unfold f_after_writing
    rw [run_ap T17 3 13 c_after_writing.body [R, .tup [c, st, .tup su, .str li, pl, gi], .tup [.str "take", .str who]] s rfl]
    simp +decide [c_after_writing, ↓at_var, ↓at_glob, ↓at_cI, ↓at_cS, ↓at_cB, ↓at_cN, ↓at_tup, ↓at_lst, ↓at_loc, ↓at_dct, ↓at_bin, ↓at_cmp, ↓at_chain, ↓at_and, ↓at_or, ↓at_not, ↓at_ife, ↓at_idx, ↓at_slc, ↓at_neg, ↓at_isi, ↓at_call, ↓at_bif, ↓at_mth, ↓at_lc, ↓at_lc2, ↓at_rng1, ↓at_rng2, ↓at_lrng, ↓at_zip, ↓at_enum, ↓at_nil, ↓at_cons, ↓at_onone, ↓at_osome, ↓at_tnone, ↓at_tsome, ↓at_onil, ↓at_ocons, ↓at_oown, ↓at_asg, ↓at_par, ↓at_cat, ↓at_own, ↓at_frz, ↓at_app, ↓at_set, ↓at_ret, ↓at_retN, ↓at_if, ↓at_for, ↓at_whl, ↓at_exp, ↓at_pass, ↓at_brk, ↓at_cnt, ↓at_snil, ↓at_scons, ↓lcK_ap, ↓lcB_ap, bindOs, idxM_ap, newM_ap, nox_ok, put_loc, ↓noExn_ap, ↓bind_ap, pure_ap, then_ok, ↓tryS_ap, tr_ok, optM_some, chk_true, callM_some, seqK_nx, seqK_rt, endM_rt, endM_nx, ↓itemsM_ap, ↓bndM_ap, ↓mthM_ap, getV, setV, idx_lst, idx_tup, idx_loc, idx_dct, cmp_lt, cmp_le, cmp_gt, cmp_ge, cmp_eq, cmp_ne, cmp_in, cmp_notIn, cmp_isN, cmp_notN, eq_int, eq_str, eq_bl, add_int, sub_int, mul_int, fdiv_int, mod_int, pow_int, add_str, add_lst, add_tup, add_scr, asB_bl, asInt_int, bif_len_l, bif_len_t, bif_tuple_l, bif_tuple_t, bif_list_l, bif_list_t, bif_all, bif_any, bif_int_i, bif_int_b, bif_str_i, bif_str_s, slc_l, slc_t, bnd_n, bnd_i, its_l, its_t, bindT_nm, bindT_tp, isi_bool_non, isi_bool_bl, isi_bool_int, isi_bool_str, isi_bool_tup, isi_bool_lst, isi_int_non, isi_int_bl, isi_int_int, isi_int_str, isi_int_tup, isi_int_lst, isi_str_non, isi_str_bl, isi_str_int, isi_str_str, isi_str_tup, isi_str_lst, isi_tuple_non, isi_tuple_bl, isi_tuple_int, isi_tuple_str, isi_tuple_tup, isi_tuple_lst, isi_list_non, isi_list_bl, isi_list_int, isi_list_str, isi_list_tup, isi_list_lst, ↓lcM_cons, lcM_nil, forM_nil, forK_nx, forK_rt, itemsAll, asBools, bindTs, enumFrom, lstD, lookL, appM, isOwn, frzM, recvOk, at0, at1, at2, lk3, i1, t_after_writing_unbooked, U.ub, hg0, t_after_writing_put_at, h1, h2, hl, line]
  · unfold f_law_written
    rw [run_ap T41 3 14 c_law_written.body [R, .tup [c, st, .tup su, .str li, pl, gi], .tup [.str "take", .str who]] s rfl]
    simp +decide [c_law_written, ↓at_var, ↓at_glob, ↓at_cI, ↓at_cS, ↓at_cB, ↓at_cN, ↓at_tup, ↓at_lst, ↓at_loc, ↓at_dct, ↓at_bin, ↓at_cmp, ↓at_chain, ↓at_and, ↓at_or, ↓at_not, ↓at_ife, ↓at_idx, ↓at_slc, ↓at_neg, ↓at_isi, ↓at_call, ↓at_bif, ↓at_mth, ↓at_lc, ↓at_lc2, ↓at_rng1, ↓at_rng2, ↓at_lrng, ↓at_zip, ↓at_enum, ↓at_nil, ↓at_cons, ↓at_onone, ↓at_osome, ↓at_tnone, ↓at_tsome, ↓at_onil, ↓at_ocons, ↓at_oown, ↓at_asg, ↓at_par, ↓at_cat, ↓at_own, ↓at_frz, ↓at_app, ↓at_set, ↓at_ret, ↓at_retN, ↓at_if, ↓at_for, ↓at_whl, ↓at_exp, ↓at_pass, ↓at_brk, ↓at_cnt, ↓at_snil, ↓at_scons, ↓lcK_ap, ↓lcB_ap, bindOs, idxM_ap, newM_ap, nox_ok, put_loc, ↓noExn_ap, ↓bind_ap, pure_ap, then_ok, ↓tryS_ap, tr_ok, optM_some, chk_true, callM_some, seqK_nx, seqK_rt, endM_rt, endM_nx, ↓itemsM_ap, ↓bndM_ap, ↓mthM_ap, getV, setV, idx_lst, idx_tup, idx_loc, idx_dct, cmp_lt, cmp_le, cmp_gt, cmp_ge, cmp_eq, cmp_ne, cmp_in, cmp_notIn, cmp_isN, cmp_notN, eq_int, eq_str, eq_bl, add_int, sub_int, mul_int, fdiv_int, mod_int, pow_int, add_str, add_lst, add_tup, add_scr, asB_bl, asInt_int, bif_len_l, bif_len_t, bif_tuple_l, bif_tuple_t, bif_list_l, bif_list_t, bif_all, bif_any, bif_int_i, bif_int_b, bif_str_i, bif_str_s, slc_l, slc_t, bnd_n, bnd_i, its_l, its_t, bindT_nm, bindT_tp, isi_bool_non, isi_bool_bl, isi_bool_int, isi_bool_str, isi_bool_tup, isi_bool_lst, isi_int_non, isi_int_bl, isi_int_int, isi_int_str, isi_int_tup, isi_int_lst, isi_str_non, isi_str_bl, isi_str_int, isi_str_str, isi_str_tup, isi_str_lst, isi_tuple_non, isi_tuple_bl, isi_tuple_int, isi_tuple_str, isi_tuple_tup, isi_tuple_lst, isi_list_non, isi_list_bl, isi_list_int, isi_list_str, isi_list_tup, isi_list_lst, ↓lcM_cons, lcM_nil, forM_nil, forK_nx, forK_rt, itemsAll, asBools, bindTs, enumFrom, lstD, lookL, appM, isOwn, frzM, recvOk, at0, at1, at2, lk3, i2, t_law_written_law_put_out, U.ot, hg0, hg, t_law_written_law_changed, h1, h3, hl, line]
theorem aw_take0 (hli : li = "in" ∨ li = "moved") (U : Un R c st su li pl gi who 0) : (f_after_writing [R, .tup [c, st, .tup su, .str li, pl, gi], .tup [.str "take", .str who]]).at s = .ok .non s ∧
    (f_law_written [R, .tup [c, st, .tup su, .str li, pl, gi], .tup [.str "take", .str who]]).at s = .ok (.tup [c, st, .tup su, .str li, pl, gi]) s := by
  have i1 : inD (.str li) (.tup [.str "in", .str "moved"]) = some true := by rcases hli with rfl | rfl <;> simp [inA3]
  have i2 : inD (.str li) (.lst [.str "in", .str "moved"]) = some true := by rcases hli with rfl | rfl <;> simp [inB3]
  constructor
  · unfold f_after_writing
    rw [run_ap T17 3 13 c_after_writing.body [R, .tup [c, st, .tup su, .str li, pl, gi], .tup [.str "take", .str who]] s rfl]
    simp +decide [c_after_writing, ↓at_var, ↓at_glob, ↓at_cI, ↓at_cS, ↓at_cB, ↓at_cN, ↓at_tup, ↓at_lst, ↓at_loc, ↓at_dct, ↓at_bin, ↓at_cmp, ↓at_chain, ↓at_and, ↓at_or, ↓at_not, ↓at_ife, ↓at_idx, ↓at_slc, ↓at_neg, ↓at_isi, ↓at_call, ↓at_bif, ↓at_mth, ↓at_lc, ↓at_lc2, ↓at_rng1, ↓at_rng2, ↓at_lrng, ↓at_zip, ↓at_enum, ↓at_nil, ↓at_cons, ↓at_onone, ↓at_osome, ↓at_tnone, ↓at_tsome, ↓at_onil, ↓at_ocons, ↓at_oown, ↓at_asg, ↓at_par, ↓at_cat, ↓at_own, ↓at_frz, ↓at_app, ↓at_set, ↓at_ret, ↓at_retN, ↓at_if, ↓at_for, ↓at_whl, ↓at_exp, ↓at_pass, ↓at_brk, ↓at_cnt, ↓at_snil, ↓at_scons, ↓lcK_ap, ↓lcB_ap, bindOs, idxM_ap, newM_ap, nox_ok, put_loc, ↓noExn_ap, ↓bind_ap, pure_ap, then_ok, ↓tryS_ap, tr_ok, optM_some, chk_true, callM_some, seqK_nx, seqK_rt, endM_rt, endM_nx, ↓itemsM_ap, ↓bndM_ap, ↓mthM_ap, getV, setV, idx_lst, idx_tup, idx_loc, idx_dct, cmp_lt, cmp_le, cmp_gt, cmp_ge, cmp_eq, cmp_ne, cmp_in, cmp_notIn, cmp_isN, cmp_notN, eq_int, eq_str, eq_bl, add_int, sub_int, mul_int, fdiv_int, mod_int, pow_int, add_str, add_lst, add_tup, add_scr, asB_bl, asInt_int, bif_len_l, bif_len_t, bif_tuple_l, bif_tuple_t, bif_list_l, bif_list_t, bif_all, bif_any, bif_int_i, bif_int_b, bif_str_i, bif_str_s, slc_l, slc_t, bnd_n, bnd_i, its_l, its_t, bindT_nm, bindT_tp, isi_bool_non, isi_bool_bl, isi_bool_int, isi_bool_str, isi_bool_tup, isi_bool_lst, isi_int_non, isi_int_bl, isi_int_int, isi_int_str, isi_int_tup, isi_int_lst, isi_str_non, isi_str_bl, isi_str_int, isi_str_str, isi_str_tup, isi_str_lst, isi_tuple_non, isi_tuple_bl, isi_tuple_int, isi_tuple_str, isi_tuple_tup, isi_tuple_lst, isi_list_non, isi_list_bl, isi_list_int, isi_list_str, isi_list_tup, isi_list_lst, ↓lcM_cons, lcM_nil, forM_nil, forK_nx, forK_rt, itemsAll, asBools, bindTs, enumFrom, lstD, lookL, appM, isOwn, frzM, recvOk, at0, at1, at2, lk3, i1, t_after_writing_unbooked, U.ub, line]
  · unfold f_law_written
    rw [run_ap T41 3 14 c_law_written.body [R, .tup [c, st, .tup su, .str li, pl, gi], .tup [.str "take", .str who]] s rfl]
    simp +decide [c_law_written, ↓at_var, ↓at_glob, ↓at_cI, ↓at_cS, ↓at_cB, ↓at_cN, ↓at_tup, ↓at_lst, ↓at_loc, ↓at_dct, ↓at_bin, ↓at_cmp, ↓at_chain, ↓at_and, ↓at_or, ↓at_not, ↓at_ife, ↓at_idx, ↓at_slc, ↓at_neg, ↓at_isi, ↓at_call, ↓at_bif, ↓at_mth, ↓at_lc, ↓at_lc2, ↓at_rng1, ↓at_rng2, ↓at_lrng, ↓at_zip, ↓at_enum, ↓at_nil, ↓at_cons, ↓at_onone, ↓at_osome, ↓at_tnone, ↓at_tsome, ↓at_onil, ↓at_ocons, ↓at_oown, ↓at_asg, ↓at_par, ↓at_cat, ↓at_own, ↓at_frz, ↓at_app, ↓at_set, ↓at_ret, ↓at_retN, ↓at_if, ↓at_for, ↓at_whl, ↓at_exp, ↓at_pass, ↓at_brk, ↓at_cnt, ↓at_snil, ↓at_scons, ↓lcK_ap, ↓lcB_ap, bindOs, idxM_ap, newM_ap, nox_ok, put_loc, ↓noExn_ap, ↓bind_ap, pure_ap, then_ok, ↓tryS_ap, tr_ok, optM_some, chk_true, callM_some, seqK_nx, seqK_rt, endM_rt, endM_nx, ↓itemsM_ap, ↓bndM_ap, ↓mthM_ap, getV, setV, idx_lst, idx_tup, idx_loc, idx_dct, cmp_lt, cmp_le, cmp_gt, cmp_ge, cmp_eq, cmp_ne, cmp_in, cmp_notIn, cmp_isN, cmp_notN, eq_int, eq_str, eq_bl, add_int, sub_int, mul_int, fdiv_int, mod_int, pow_int, add_str, add_lst, add_tup, add_scr, asB_bl, asInt_int, bif_len_l, bif_len_t, bif_tuple_l, bif_tuple_t, bif_list_l, bif_list_t, bif_all, bif_any, bif_int_i, bif_int_b, bif_str_i, bif_str_s, slc_l, slc_t, bnd_n, bnd_i, its_l, its_t, bindT_nm, bindT_tp, isi_bool_non, isi_bool_bl, isi_bool_int, isi_bool_str, isi_bool_tup, isi_bool_lst, isi_int_non, isi_int_bl, isi_int_int, isi_int_str, isi_int_tup, isi_int_lst, isi_str_non, isi_str_bl, isi_str_int, isi_str_str, isi_str_tup, isi_str_lst, isi_tuple_non, isi_tuple_bl, isi_tuple_int, isi_tuple_str, isi_tuple_tup, isi_tuple_lst, isi_list_non, isi_list_bl, isi_list_int, isi_list_str, isi_list_tup, isi_list_lst, ↓lcM_cons, lcM_nil, forM_nil, forK_nx, forK_rt, itemsAll, asBools, bindTs, enumFrom, lstD, lookL, appM, isOwn, frzM, recvOk, at0, at1, at2, lk3, i2, t_law_written_law_put_out, U.ot, line]
theorem aw_takeX (hli : li = "new" ∨ li = "out") : (f_after_writing [R, .tup [c, st, .tup su, .str li, pl, gi], .tup [.str "take", .str who]]).at s = .ok .non s ∧
    (f_law_written [R, .tup [c, st, .tup su, .str li, pl, gi], .tup [.str "take", .str who]]).at s = .ok (.tup [c, st, .tup su, .str li, pl, gi]) s := by
  have i1 : inD (.str li) (.tup [.str "in", .str "moved"]) = some false := by rcases hli with rfl | rfl <;> simp [inA3]
  have i2 : inD (.str li) (.lst [.str "in", .str "moved"]) = some false := by rcases hli with rfl | rfl <;> simp [inB3]
  constructor
  · unfold f_after_writing
    rw [run_ap T17 3 13 c_after_writing.body [R, .tup [c, st, .tup su, .str li, pl, gi], .tup [.str "take", .str who]] s rfl]
    simp +decide [c_after_writing, ↓at_var, ↓at_glob, ↓at_cI, ↓at_cS, ↓at_cB, ↓at_cN, ↓at_tup, ↓at_lst, ↓at_loc, ↓at_dct, ↓at_bin, ↓at_cmp, ↓at_chain, ↓at_and, ↓at_or, ↓at_not, ↓at_ife, ↓at_idx, ↓at_slc, ↓at_neg, ↓at_isi, ↓at_call, ↓at_bif, ↓at_mth, ↓at_lc, ↓at_lc2, ↓at_rng1, ↓at_rng2, ↓at_lrng, ↓at_zip, ↓at_enum, ↓at_nil, ↓at_cons, ↓at_onone, ↓at_osome, ↓at_tnone, ↓at_tsome, ↓at_onil, ↓at_ocons, ↓at_oown, ↓at_asg, ↓at_par, ↓at_cat, ↓at_own, ↓at_frz, ↓at_app, ↓at_set, ↓at_ret, ↓at_retN, ↓at_if, ↓at_for, ↓at_whl, ↓at_exp, ↓at_pass, ↓at_brk, ↓at_cnt, ↓at_snil, ↓at_scons, ↓lcK_ap, ↓lcB_ap, bindOs, idxM_ap, newM_ap, nox_ok, put_loc, ↓noExn_ap, ↓bind_ap, pure_ap, then_ok, ↓tryS_ap, tr_ok, optM_some, chk_true, callM_some, seqK_nx, seqK_rt, endM_rt, endM_nx, ↓itemsM_ap, ↓bndM_ap, ↓mthM_ap, getV, setV, idx_lst, idx_tup, idx_loc, idx_dct, cmp_lt, cmp_le, cmp_gt, cmp_ge, cmp_eq, cmp_ne, cmp_in, cmp_notIn, cmp_isN, cmp_notN, eq_int, eq_str, eq_bl, add_int, sub_int, mul_int, fdiv_int, mod_int, pow_int, add_str, add_lst, add_tup, add_scr, asB_bl, asInt_int, bif_len_l, bif_len_t, bif_tuple_l, bif_tuple_t, bif_list_l, bif_list_t, bif_all, bif_any, bif_int_i, bif_int_b, bif_str_i, bif_str_s, slc_l, slc_t, bnd_n, bnd_i, its_l, its_t, bindT_nm, bindT_tp, isi_bool_non, isi_bool_bl, isi_bool_int, isi_bool_str, isi_bool_tup, isi_bool_lst, isi_int_non, isi_int_bl, isi_int_int, isi_int_str, isi_int_tup, isi_int_lst, isi_str_non, isi_str_bl, isi_str_int, isi_str_str, isi_str_tup, isi_str_lst, isi_tuple_non, isi_tuple_bl, isi_tuple_int, isi_tuple_str, isi_tuple_tup, isi_tuple_lst, isi_list_non, isi_list_bl, isi_list_int, isi_list_str, isi_list_tup, isi_list_lst, ↓lcM_cons, lcM_nil, forM_nil, forK_nx, forK_rt, itemsAll, asBools, bindTs, enumFrom, lstD, lookL, appM, isOwn, frzM, recvOk, at0, at1, at2, lk3, i1, line]
  · unfold f_law_written
    rw [run_ap T41 3 14 c_law_written.body [R, .tup [c, st, .tup su, .str li, pl, gi], .tup [.str "take", .str who]] s rfl]
    simp +decide [c_law_written, ↓at_var, ↓at_glob, ↓at_cI, ↓at_cS, ↓at_cB, ↓at_cN, ↓at_tup, ↓at_lst, ↓at_loc, ↓at_dct, ↓at_bin, ↓at_cmp, ↓at_chain, ↓at_and, ↓at_or, ↓at_not, ↓at_ife, ↓at_idx, ↓at_slc, ↓at_neg, ↓at_isi, ↓at_call, ↓at_bif, ↓at_mth, ↓at_lc, ↓at_lc2, ↓at_rng1, ↓at_rng2, ↓at_lrng, ↓at_zip, ↓at_enum, ↓at_nil, ↓at_cons, ↓at_onone, ↓at_osome, ↓at_tnone, ↓at_tsome, ↓at_onil, ↓at_ocons, ↓at_oown, ↓at_asg, ↓at_par, ↓at_cat, ↓at_own, ↓at_frz, ↓at_app, ↓at_set, ↓at_ret, ↓at_retN, ↓at_if, ↓at_for, ↓at_whl, ↓at_exp, ↓at_pass, ↓at_brk, ↓at_cnt, ↓at_snil, ↓at_scons, ↓lcK_ap, ↓lcB_ap, bindOs, idxM_ap, newM_ap, nox_ok, put_loc, ↓noExn_ap, ↓bind_ap, pure_ap, then_ok, ↓tryS_ap, tr_ok, optM_some, chk_true, callM_some, seqK_nx, seqK_rt, endM_rt, endM_nx, ↓itemsM_ap, ↓bndM_ap, ↓mthM_ap, getV, setV, idx_lst, idx_tup, idx_loc, idx_dct, cmp_lt, cmp_le, cmp_gt, cmp_ge, cmp_eq, cmp_ne, cmp_in, cmp_notIn, cmp_isN, cmp_notN, eq_int, eq_str, eq_bl, add_int, sub_int, mul_int, fdiv_int, mod_int, pow_int, add_str, add_lst, add_tup, add_scr, asB_bl, asInt_int, bif_len_l, bif_len_t, bif_tuple_l, bif_tuple_t, bif_list_l, bif_list_t, bif_all, bif_any, bif_int_i, bif_int_b, bif_str_i, bif_str_s, slc_l, slc_t, bnd_n, bnd_i, its_l, its_t, bindT_nm, bindT_tp, isi_bool_non, isi_bool_bl, isi_bool_int, isi_bool_str, isi_bool_tup, isi_bool_lst, isi_int_non, isi_int_bl, isi_int_int, isi_int_str, isi_int_tup, isi_int_lst, isi_str_non, isi_str_bl, isi_str_int, isi_str_str, isi_str_tup, isi_str_lst, isi_tuple_non, isi_tuple_bl, isi_tuple_int, isi_tuple_str, isi_tuple_tup, isi_tuple_lst, isi_list_non, isi_list_bl, isi_list_int, isi_list_str, isi_list_tup, isi_list_lst, ↓lcM_cons, lcM_nil, forM_nil, forK_nx, forK_rt, itemsAll, asBools, bindTs, enumFrom, lstD, lookL, appM, isOwn, frzM, recvOk, at0, at1, at2, lk3, i2, line]
end
end LW

set_option Elab.async false
set_option linter.all false
set_option maxRecDepth 100000
set_option maxHeartbeats 8000000
namespace LW
open PySem PD

/-! ### a stand that can come -/
def GivOk (d : D) : Prop := d = .non ∨ ∃ a b c : Int, d = .tup [.int a, .int b, .int c]
def IntOk (d : D) : Prop := ∃ i : Int, d = .int i
structure StOk (p clock : Nat) (sts : List Str) (su : List D) (life : Str) (place : Nat) (gi : List D) : Prop where
  c1 : 1 ≤ clock
  c2 : clock ≤ p
  s1 : sts.length = p
  s2 : ∀ x ∈ sts, x ∈ lvs
  u1 : su.length = p
  u2 : ∀ x ∈ su, IntOk x
  li : life ∈ (["new", "in", "moved", "out"] : List Str)
  pl : place ≤ clock
  pl1 : life = "in" ∨ life = "moved" → 1 ≤ place
  g1 : gi.length = p
  g2 : ∀ x ∈ gi, GivOk x
def Stand (p : Nat) (x : D) : Prop := ∃ clock sts su life place gi, x = mk clock sts su life place gi ∧ StOk p clock sts su life place gi
theorem lv_ok : ∀ x ∈ lvs, PyData.strOk x = true := by decide +kernel
theorem life_ok : ∀ x ∈ (["new", "in", "moved", "out"] : List Str), PyData.strOk x = true := by decide +kernel
theorem StOk.plain {p clock : Nat} {sts : List Str} {su : List D} {life : Str} {place : Nat} {gi : List D} (hp : p ≤ 3) (h : StOk p clock sts su life place gi) : Pl 20 3 (LW.mk clock sts su life place gi) := by
  have a1 : Pl 20 2 (.tup (sts.map .str)) := ⟨by rw [List.length_map, h.s1]; omega, fun x hx => by
    obtain ⟨y, hy, rfl⟩ := List.mem_map.mp hx
    exact lv_ok y (h.s2 y hy)⟩
  have a2 : Pl 20 2 (.tup su) := ⟨by rw [h.u1]; omega, fun x hx => by
    obtain ⟨i, rfl⟩ := h.u2 x hx
    trivial⟩
  have a3 : Pl 20 2 (.tup gi) := ⟨by rw [h.g1]; omega, fun x hx => by
    rcases h.g2 x hx with rfl | ⟨a, b, c, rfl⟩
    · trivial
    · exact ⟨by simp, all_mem ⟨trivial, trivial, trivial, trivial⟩⟩⟩
  exact ⟨by simp, all_mem ⟨trivial, a1, a2, life_ok life h.li, trivial, a3, trivial⟩⟩
theorem mk_ne {c c' : Nat} {s s' : List Str} {u u' : List D} {l l' : Str} {q q' : Nat} {g g' : List D} (h : c ≠ c' ∨ s ≠ s' ∨ l ≠ l') : eqv (mk c s u l q g) (mk c' s' u' l' q' g') = false := by
  unfold mk
  rw [eqv_tup, eqvAll_cons, eqvAll_cons, eqvAll_cons, eqvAll_cons, eqv_int, eqv_tup, eqv_st]
  rcases h with h | h | h
  · rw [decide_eq_false (by omega)]
    rfl
  · rw [eqv_strs h]
    simp
  · rw [decide_eq_false h]
    simp
theorem eq_mk_ne {p : Nat} (hp : p ≤ 3) {c c' : Nat} {s s' : List Str} {u u' : List D} {l l' : Str} {q q' : Nat} {g g' : List D} (h1 : StOk p c s u l q g) (h2 : StOk p c' s' u' l' q' g') (h : c ≠ c' ∨ s ≠ s' ∨ l ≠ l') : eqD (mk c s u l q g) (mk c' s' u' l' q' g') = some false := by
  have a := (h1.plain hp).shaped (by omega)
  have b := (h2.plain hp).shaped (by omega)
  have e := mk_ne (u := u) (u' := u') (q := q) (q' := q') (g := g) (g' := g') h
  unfold mk at *
  rw [eq_tup, a, b, e]
  rfl
theorem eq_mk_self {p : Nat} (hp : p ≤ 3) {c : Nat} {s : List Str} {u : List D} {l : Str} {q : Nat} {g : List D} (h1 : StOk p c s u l q g) : eqD (mk c s u l q g) (mk c s u l q g) = some true := eq_self_t (L := 20) (n := 3) (by omega) (h1.plain hp)
def ru (p : Nat) (late back : Str) (b3 b4 : Bool) (zl : Str) (b6 : Bool) (again : Str) (b8 : Bool) : D := .tup [.int p, .str late, .str back, .str (gvw b3), .str (gvw b4), .str zl, .bl b6, .str again, .bl b8]
/-- what is told of an event -/
def FlOk (d : D) : Prop := (∃ b : Bool, d = .bl b) ∨ GivOk d
structure Turn (p : Nat) (R x ev x' fl : D) : Prop where
  st : Stand p x'
  fl_ : FlOk fl
  step : ∀ s, (f_step [R, x, ev]).at s = .ok (.tup [x', fl]) s
  on : ∀ s, (f_law_on [R, x, ev]).at s = .ok x' s
  told : ∀ s, (f_law_told [R, x, ev]).at s = .ok fl s
theorem told_ok {R x x' : D} {w : Str} {r : List D} (hw : w ≠ "give") (hr : r.length ≤ 2) (h : ∀ s, (f_law_on [R, x, .tup (.str w :: r)]).at s = .ok x' s) {b : Bool} (he : eqD x' x = some b) (s : Sto) : (f_law_told [R, x, .tup (.str w :: r)]).at s = .ok (.bl !b) s := by
  unfold f_law_told
  rw [run_ap T44 3 3 c_law_told.body [R, x, .tup (.str w :: r)] s rfl]
  have hl : r.length + 1 ≤ 16777216 := by omega
  simp +decide [c_law_told, ↓at_var, ↓at_glob, ↓at_cI, ↓at_cS, ↓at_cB, ↓at_cN, ↓at_tup, ↓at_lst, ↓at_loc, ↓at_dct, ↓at_bin, ↓at_cmp, ↓at_chain, ↓at_and, ↓at_or, ↓at_not, ↓at_ife, ↓at_idx, ↓at_slc, ↓at_neg, ↓at_isi, ↓at_call, ↓at_bif, ↓at_mth, ↓at_lc, ↓at_lc2, ↓at_rng1, ↓at_rng2, ↓at_lrng, ↓at_zip, ↓at_enum, ↓at_nil, ↓at_cons, ↓at_onone, ↓at_osome, ↓at_tnone, ↓at_tsome, ↓at_onil, ↓at_ocons, ↓at_oown, ↓at_asg, ↓at_par, ↓at_cat, ↓at_own, ↓at_frz, ↓at_app, ↓at_set, ↓at_ret, ↓at_retN, ↓at_if, ↓at_for, ↓at_whl, ↓at_exp, ↓at_pass, ↓at_brk, ↓at_cnt, ↓at_snil, ↓at_scons, ↓lcK_ap, ↓lcB_ap, bindOs, idxM_ap, newM_ap, nox_ok, put_loc, ↓noExn_ap, ↓bind_ap, pure_ap, then_ok, ↓tryS_ap, tr_ok, optM_some, chk_true, callM_some, seqK_nx, seqK_rt, endM_rt, endM_nx, ↓itemsM_ap, ↓bndM_ap, ↓mthM_ap, getV, setV, idx_lst, idx_tup, idx_loc, idx_dct, cmp_lt, cmp_le, cmp_gt, cmp_ge, cmp_eq, cmp_ne, cmp_in, cmp_notIn, cmp_isN, cmp_notN, eq_int, eq_str, eq_bl, add_int, sub_int, mul_int, fdiv_int, mod_int, pow_int, add_str, add_lst, add_tup, add_scr, asB_bl, asInt_int, bif_len_l, bif_len_t, bif_tuple_l, bif_tuple_t, bif_list_l, bif_list_t, bif_all, bif_any, bif_int_i, bif_int_b, bif_str_i, bif_str_s, slc_l, slc_t, bnd_n, bnd_i, its_l, its_t, bindT_nm, bindT_tp, isi_bool_non, isi_bool_bl, isi_bool_int, isi_bool_str, isi_bool_tup, isi_bool_lst, isi_int_non, isi_int_bl, isi_int_int, isi_int_str, isi_int_tup, isi_int_lst, isi_str_non, isi_str_bl, isi_str_int, isi_str_str, isi_str_tup, isi_str_lst, isi_tuple_non, isi_tuple_bl, isi_tuple_int, isi_tuple_str, isi_tuple_tup, isi_tuple_lst, isi_list_non, isi_list_bl, isi_list_int, isi_list_str, isi_list_tup, isi_list_lst, ↓lcM_cons, lcM_nil, forM_nil, forK_nx, forK_rt, itemsAll, asBools, bindTs, enumFrom, lstD, lookL, appM, isOwn, frzM, recvOk, at0, at1, at2, hw, t_law_told_law_on, h s, he, hl, line]
theorem inCO : inD (.str "enter") (.tup [.str "close", .str "open"]) = some false ∧ inD (.str "move") (.tup [.str "close", .str "open"]) = some false ∧ inD (.str "take") (.tup [.str "close", .str "open"]) = some false := ⟨by kernel_rfl, by kernel_rfl, by kernel_rfl⟩
section
variable {R c st su pl gi : D} {li w who : Str} {r : List D}
theorem step_no (hw : w = "enter" ∨ w = "move" ∨ w = "take") (hr : r.length ≤ 2) (h : ∀ s, (f_after_writing [R, .tup [c, st, su, .str li, pl, gi], .tup (.str w :: r)]).at s = .ok .non s ∧ (f_law_written [R, .tup [c, st, su, .str li, pl, gi], .tup (.str w :: r)]).at s = .ok (.tup [c, st, su, .str li, pl, gi]) s) (s : Sto) :
    (f_step [R, .tup [c, st, su, .str li, pl, gi], .tup (.str w :: r)]).at s = .ok (.tup [.tup [c, st, su, .str li, pl, gi], .bl false]) s ∧ (f_law_on [R, .tup [c, st, su, .str li, pl, gi], .tup (.str w :: r)]).at s = .ok (.tup [c, st, su, .str li, pl, gi]) s := by
  have hl : r.length + 1 ≤ 16777216 := by omega
  obtain ⟨h1, h2⟩ := h s
  constructor
  · unfold f_step
    rw [run_ap T23 3 14 c_step.body [R, .tup [c, st, su, .str li, pl, gi], .tup (.str w :: r)] s rfl]
    rcases hw with rfl | rfl | rfl <;> simp +decide [c_step, ↓at_var, ↓at_glob, ↓at_cI, ↓at_cS, ↓at_cB, ↓at_cN, ↓at_tup, ↓at_lst, ↓at_loc, ↓at_dct, ↓at_bin, ↓at_cmp, ↓at_chain, ↓at_and, ↓at_or, ↓at_not, ↓at_ife, ↓at_idx, ↓at_slc, ↓at_neg, ↓at_isi, ↓at_call, ↓at_bif, ↓at_mth, ↓at_lc, ↓at_lc2, ↓at_rng1, ↓at_rng2, ↓at_lrng, ↓at_zip, ↓at_enum, ↓at_nil, ↓at_cons, ↓at_onone, ↓at_osome, ↓at_tnone, ↓at_tsome, ↓at_onil, ↓at_ocons, ↓at_oown, ↓at_asg, ↓at_par, ↓at_cat, ↓at_own, ↓at_frz, ↓at_app, ↓at_set, ↓at_ret, ↓at_retN, ↓at_if, ↓at_for, ↓at_whl, ↓at_exp, ↓at_pass, ↓at_brk, ↓at_cnt, ↓at_snil, ↓at_scons, ↓lcK_ap, ↓lcB_ap, bindOs, idxM_ap, newM_ap, nox_ok, put_loc, ↓noExn_ap, ↓bind_ap, pure_ap, then_ok, ↓tryS_ap, tr_ok, optM_some, chk_true, callM_some, seqK_nx, seqK_rt, endM_rt, endM_nx, ↓itemsM_ap, ↓bndM_ap, ↓mthM_ap, getV, setV, idx_lst, idx_tup, idx_loc, idx_dct, cmp_lt, cmp_le, cmp_gt, cmp_ge, cmp_eq, cmp_ne, cmp_in, cmp_notIn, cmp_isN, cmp_notN, eq_int, eq_str, eq_bl, add_int, sub_int, mul_int, fdiv_int, mod_int, pow_int, add_str, add_lst, add_tup, add_scr, asB_bl, asInt_int, bif_len_l, bif_len_t, bif_tuple_l, bif_tuple_t, bif_list_l, bif_list_t, bif_all, bif_any, bif_int_i, bif_int_b, bif_str_i, bif_str_s, slc_l, slc_t, bnd_n, bnd_i, its_l, its_t, bindT_nm, bindT_tp, isi_bool_non, isi_bool_bl, isi_bool_int, isi_bool_str, isi_bool_tup, isi_bool_lst, isi_int_non, isi_int_bl, isi_int_int, isi_int_str, isi_int_tup, isi_int_lst, isi_str_non, isi_str_bl, isi_str_int, isi_str_str, isi_str_tup, isi_str_lst, isi_tuple_non, isi_tuple_bl, isi_tuple_int, isi_tuple_str, isi_tuple_tup, isi_tuple_lst, isi_list_non, isi_list_bl, isi_list_int, isi_list_str, isi_list_tup, isi_list_lst, ↓lcM_cons, lcM_nil, forM_nil, forK_nx, forK_rt, itemsAll, asBools, bindTs, enumFrom, lstD, lookL, appM, isOwn, frzM, recvOk, at0, at1, at2, t_step_after_writing, h1, hl, line, isNonD]
  · unfold f_law_on
    rw [run_ap T42 3 4 c_law_on.body [R, .tup [c, st, su, .str li, pl, gi], .tup (.str w :: r)] s rfl]
    rcases hw with rfl | rfl | rfl <;> simp +decide [c_law_on, ↓at_var, ↓at_glob, ↓at_cI, ↓at_cS, ↓at_cB, ↓at_cN, ↓at_tup, ↓at_lst, ↓at_loc, ↓at_dct, ↓at_bin, ↓at_cmp, ↓at_chain, ↓at_and, ↓at_or, ↓at_not, ↓at_ife, ↓at_idx, ↓at_slc, ↓at_neg, ↓at_isi, ↓at_call, ↓at_bif, ↓at_mth, ↓at_lc, ↓at_lc2, ↓at_rng1, ↓at_rng2, ↓at_lrng, ↓at_zip, ↓at_enum, ↓at_nil, ↓at_cons, ↓at_onone, ↓at_osome, ↓at_tnone, ↓at_tsome, ↓at_onil, ↓at_ocons, ↓at_oown, ↓at_asg, ↓at_par, ↓at_cat, ↓at_own, ↓at_frz, ↓at_app, ↓at_set, ↓at_ret, ↓at_retN, ↓at_if, ↓at_for, ↓at_whl, ↓at_exp, ↓at_pass, ↓at_brk, ↓at_cnt, ↓at_snil, ↓at_scons, ↓lcK_ap, ↓lcB_ap, bindOs, idxM_ap, newM_ap, nox_ok, put_loc, ↓noExn_ap, ↓bind_ap, pure_ap, then_ok, ↓tryS_ap, tr_ok, optM_some, chk_true, callM_some, seqK_nx, seqK_rt, endM_rt, endM_nx, ↓itemsM_ap, ↓bndM_ap, ↓mthM_ap, getV, setV, idx_lst, idx_tup, idx_loc, idx_dct, cmp_lt, cmp_le, cmp_gt, cmp_ge, cmp_eq, cmp_ne, cmp_in, cmp_notIn, cmp_isN, cmp_notN, eq_int, eq_str, eq_bl, add_int, sub_int, mul_int, fdiv_int, mod_int, pow_int, add_str, add_lst, add_tup, add_scr, asB_bl, asInt_int, bif_len_l, bif_len_t, bif_tuple_l, bif_tuple_t, bif_list_l, bif_list_t, bif_all, bif_any, bif_int_i, bif_int_b, bif_str_i, bif_str_s, slc_l, slc_t, bnd_n, bnd_i, its_l, its_t, bindT_nm, bindT_tp, isi_bool_non, isi_bool_bl, isi_bool_int, isi_bool_str, isi_bool_tup, isi_bool_lst, isi_int_non, isi_int_bl, isi_int_int, isi_int_str, isi_int_tup, isi_int_lst, isi_str_non, isi_str_bl, isi_str_int, isi_str_str, isi_str_tup, isi_str_lst, isi_tuple_non, isi_tuple_bl, isi_tuple_int, isi_tuple_str, isi_tuple_tup, isi_tuple_lst, isi_list_non, isi_list_bl, isi_list_int, isi_list_str, isi_list_tup, isi_list_lst, ↓lcM_cons, lcM_nil, forM_nil, forK_nx, forK_rt, itemsAll, asBools, bindTs, enumFrom, lstD, lookL, appM, isOwn, frzM, recvOk, at0, at1, at2, t_law_on_law_written, h2, hl, line, inCO]
theorem step_yes {ys : List D} (hw : w = "enter" ∨ w = "move" ∨ w = "take") (hr : r.length ≤ 2) (h : ∀ s, (f_after_writing [R, .tup [c, st, su, .str li, pl, gi], .tup (.str w :: r)]).at s = .ok (.tup ys) s ∧ (f_law_written [R, .tup [c, st, su, .str li, pl, gi], .tup (.str w :: r)]).at s = .ok (.tup ys) s) (s : Sto) :
    (f_step [R, .tup [c, st, su, .str li, pl, gi], .tup (.str w :: r)]).at s = .ok (.tup [.tup ys, .bl true]) s ∧ (f_law_on [R, .tup [c, st, su, .str li, pl, gi], .tup (.str w :: r)]).at s = .ok (.tup ys) s := by
  have hl : r.length + 1 ≤ 16777216 := by omega
  obtain ⟨h1, h2⟩ := h s
  constructor
  · unfold f_step
    rw [run_ap T23 3 14 c_step.body [R, .tup [c, st, su, .str li, pl, gi], .tup (.str w :: r)] s rfl]
    rcases hw with rfl | rfl | rfl <;> simp +decide [c_step, ↓at_var, ↓at_glob, ↓at_cI, ↓at_cS, ↓at_cB, ↓at_cN, ↓at_tup, ↓at_lst, ↓at_loc, ↓at_dct, ↓at_bin, ↓at_cmp, ↓at_chain, ↓at_and, ↓at_or, ↓at_not, ↓at_ife, ↓at_idx, ↓at_slc, ↓at_neg, ↓at_isi, ↓at_call, ↓at_bif, ↓at_mth, ↓at_lc, ↓at_lc2, ↓at_rng1, ↓at_rng2, ↓at_lrng, ↓at_zip, ↓at_enum, ↓at_nil, ↓at_cons, ↓at_onone, ↓at_osome, ↓at_tnone, ↓at_tsome, ↓at_onil, ↓at_ocons, ↓at_oown, ↓at_asg, ↓at_par, ↓at_cat, ↓at_own, ↓at_frz, ↓at_app, ↓at_set, ↓at_ret, ↓at_retN, ↓at_if, ↓at_for, ↓at_whl, ↓at_exp, ↓at_pass, ↓at_brk, ↓at_cnt, ↓at_snil, ↓at_scons, ↓lcK_ap, ↓lcB_ap, bindOs, idxM_ap, newM_ap, nox_ok, put_loc, ↓noExn_ap, ↓bind_ap, pure_ap, then_ok, ↓tryS_ap, tr_ok, optM_some, chk_true, callM_some, seqK_nx, seqK_rt, endM_rt, endM_nx, ↓itemsM_ap, ↓bndM_ap, ↓mthM_ap, getV, setV, idx_lst, idx_tup, idx_loc, idx_dct, cmp_lt, cmp_le, cmp_gt, cmp_ge, cmp_eq, cmp_ne, cmp_in, cmp_notIn, cmp_isN, cmp_notN, eq_int, eq_str, eq_bl, add_int, sub_int, mul_int, fdiv_int, mod_int, pow_int, add_str, add_lst, add_tup, add_scr, asB_bl, asInt_int, bif_len_l, bif_len_t, bif_tuple_l, bif_tuple_t, bif_list_l, bif_list_t, bif_all, bif_any, bif_int_i, bif_int_b, bif_str_i, bif_str_s, slc_l, slc_t, bnd_n, bnd_i, its_l, its_t, bindT_nm, bindT_tp, isi_bool_non, isi_bool_bl, isi_bool_int, isi_bool_str, isi_bool_tup, isi_bool_lst, isi_int_non, isi_int_bl, isi_int_int, isi_int_str, isi_int_tup, isi_int_lst, isi_str_non, isi_str_bl, isi_str_int, isi_str_str, isi_str_tup, isi_str_lst, isi_tuple_non, isi_tuple_bl, isi_tuple_int, isi_tuple_str, isi_tuple_tup, isi_tuple_lst, isi_list_non, isi_list_bl, isi_list_int, isi_list_str, isi_list_tup, isi_list_lst, ↓lcM_cons, lcM_nil, forM_nil, forK_nx, forK_rt, itemsAll, asBools, bindTs, enumFrom, lstD, lookL, appM, isOwn, frzM, recvOk, at0, at1, at2, t_step_after_writing, h1, hl, line, isNonD]
  · unfold f_law_on
    rw [run_ap T42 3 4 c_law_on.body [R, .tup [c, st, su, .str li, pl, gi], .tup (.str w :: r)] s rfl]
    rcases hw with rfl | rfl | rfl <;> simp +decide [c_law_on, ↓at_var, ↓at_glob, ↓at_cI, ↓at_cS, ↓at_cB, ↓at_cN, ↓at_tup, ↓at_lst, ↓at_loc, ↓at_dct, ↓at_bin, ↓at_cmp, ↓at_chain, ↓at_and, ↓at_or, ↓at_not, ↓at_ife, ↓at_idx, ↓at_slc, ↓at_neg, ↓at_isi, ↓at_call, ↓at_bif, ↓at_mth, ↓at_lc, ↓at_lc2, ↓at_rng1, ↓at_rng2, ↓at_lrng, ↓at_zip, ↓at_enum, ↓at_nil, ↓at_cons, ↓at_onone, ↓at_osome, ↓at_tnone, ↓at_tsome, ↓at_onil, ↓at_ocons, ↓at_oown, ↓at_asg, ↓at_par, ↓at_cat, ↓at_own, ↓at_frz, ↓at_app, ↓at_set, ↓at_ret, ↓at_retN, ↓at_if, ↓at_for, ↓at_whl, ↓at_exp, ↓at_pass, ↓at_brk, ↓at_cnt, ↓at_snil, ↓at_scons, ↓lcK_ap, ↓lcB_ap, bindOs, idxM_ap, newM_ap, nox_ok, put_loc, ↓noExn_ap, ↓bind_ap, pure_ap, then_ok, ↓tryS_ap, tr_ok, optM_some, chk_true, callM_some, seqK_nx, seqK_rt, endM_rt, endM_nx, ↓itemsM_ap, ↓bndM_ap, ↓mthM_ap, getV, setV, idx_lst, idx_tup, idx_loc, idx_dct, cmp_lt, cmp_le, cmp_gt, cmp_ge, cmp_eq, cmp_ne, cmp_in, cmp_notIn, cmp_isN, cmp_notN, eq_int, eq_str, eq_bl, add_int, sub_int, mul_int, fdiv_int, mod_int, pow_int, add_str, add_lst, add_tup, add_scr, asB_bl, asInt_int, bif_len_l, bif_len_t, bif_tuple_l, bif_tuple_t, bif_list_l, bif_list_t, bif_all, bif_any, bif_int_i, bif_int_b, bif_str_i, bif_str_s, slc_l, slc_t, bnd_n, bnd_i, its_l, its_t, bindT_nm, bindT_tp, isi_bool_non, isi_bool_bl, isi_bool_int, isi_bool_str, isi_bool_tup, isi_bool_lst, isi_int_non, isi_int_bl, isi_int_int, isi_int_str, isi_int_tup, isi_int_lst, isi_str_non, isi_str_bl, isi_str_int, isi_str_str, isi_str_tup, isi_str_lst, isi_tuple_non, isi_tuple_bl, isi_tuple_int, isi_tuple_str, isi_tuple_tup, isi_tuple_lst, isi_list_non, isi_list_bl, isi_list_int, isi_list_str, isi_list_tup, isi_list_lst, ↓lcM_cons, lcM_nil, forM_nil, forK_nx, forK_rt, itemsAll, asBools, bindTs, enumFrom, lstD, lookL, appM, isOwn, frzM, recvOk, at0, at1, at2, t_law_on_law_written, h2, hl, line, inCO]
end
end LW

set_option Elab.async false
set_option linter.all false
set_option maxRecDepth 100000
set_option maxHeartbeats 8000000
namespace LW
open PySem PD
/-! ### where the writings go -/
theorem mem_stsL : ∀ {n : Nat} {sts : List Str}, sts.length = n → (∀ x ∈ sts, x ∈ lvs) → sts ∈ stsL n
  | 0, [], _, _ => by simp [stsL]
  | n + 1, x :: xs, h, hx => List.mem_flatMap.mpr ⟨x, hx x List.mem_cons_self, List.mem_map.mpr ⟨xs, mem_stsL (by simpa using h) fun y hy => hx y (List.mem_cons_of_mem _ hy), rfl⟩⟩
theorem who_mem {w : Str} (h : w = "chief" ∨ w = "clerk") : w ∈ (["chief", "clerk"] : List Str) := by
  rcases h with rfl | rfl <;> simp
theorem mem_dom2 {p : Nat} {sts : List Str} {w : Str} {n : Nat} (h1 : sts.length = p) (h2 : ∀ x ∈ sts, x ∈ lvs) (hw : w = "chief" ∨ w = "clerk") (h3 : 1 ≤ n) (h4 : n ≤ p) : (sts, (w, n)) ∈ dom2 p :=
  List.mem_flatMap.mpr ⟨sts, mem_stsL h1 h2, List.mem_flatMap.mpr ⟨w, who_mem hw, List.mem_map.mpr ⟨n - 1, List.mem_range.mpr (by omega), by rw [Nat.sub_add_cancel h3]⟩⟩⟩
theorem mem_dom2c {p c : Nat} {sts : List Str} {w : Str} {n : Nat} (h1 : sts.length = p) (h2 : ∀ x ∈ sts, x ∈ lvs) (hw : w = "chief" ∨ w = "clerk") (h3 : 1 ≤ n) (h4 : n ≤ c) : (sts, (w, n)) ∈ dom2c p c :=
  List.mem_flatMap.mpr ⟨sts, mem_stsL h1 h2, List.mem_flatMap.mpr ⟨w, who_mem hw, List.mem_map.mpr ⟨n - 1, List.mem_range.mpr (by omega), by rw [Nat.sub_add_cancel h3]⟩⟩⟩
theorem next_le (sts : List Str) (clock : Nat) (who : Str) (n : Nat) : nextF sts clock who n ≤ clock := by
  unfold nextF
  split
  · rename_i l r e
    have h : l ∈ ((List.range clock).map (· + 1)).filter (fun l => decide (n < l) && writB (stAt sts l) who) := by rw [e]; exact List.mem_cons_self
    obtain ⟨k, hk, rfl⟩ := List.mem_map.mp (List.mem_filter.mp h).1
    have := List.mem_range.mp hk
    omega
  · omega
theorem book_le (late : Str) (clock : Nat) (sts : List Str) (who : Str) (date : Nat) : bookF late clock sts who date ≤ clock := by
  unfold bookF
  have := next_le sts clock who date
  split
  · omega
  · split
    · omega
    · split <;> omega
theorem unbook_le (back : Str) (clock : Nat) (sts : List Str) (who : Str) (place : Nat) (h : place ≤ clock) : unbookF back clock sts who place ≤ clock := by
  unfold unbookF
  have := next_le sts clock who place
  split
  · omega
  · split <;> omega
theorem clk2 {c : Nat} (h1 : 1 ≤ c) (h2 : c ≤ 2) : c ∈ ([1, 2] : List Nat) := by
  have : c = 1 ∨ c = 2 := by omega
  rcases this with rfl | rfl <;> simp
theorem ints2 {su : List D} (h1 : su.length = 2) (h2 : ∀ x ∈ su, IntOk x) : ∃ x1 x2 : Int, su = [.int x1, .int x2] := by
  match su, h1 with
  | [a1, a2], _ =>
    obtain ⟨x1, rfl⟩ := h2 a1 (by simp)
    obtain ⟨x2, rfl⟩ := h2 a2 (by simp)
    exact ⟨x1, x2, rfl⟩
theorem pu2 {su : List D} (h1 : su.length = 2) (h2 : ∀ x ∈ su, IntOk x) (k : Nat) (k1 : 1 ≤ k) (k2 : k ≤ 2) (d : Int) : ∃ su2, Pu su k d su2 ∧ su2.length = 2 ∧ ∀ x ∈ su2, IntOk x := by
  obtain ⟨x1, x2, rfl⟩ := ints2 h1 h2
  have : k = 1 ∨ k = 2 := by omega
  rcases this with rfl | rfl
  · exact ⟨[.int (x1 + d), .int x2], ⟨by simp, by decide, x1, by kernel_rfl, fun s => by kernel_rfl, fun s => by kernel_rfl⟩, rfl, all_mem ⟨⟨_, rfl⟩, ⟨_, rfl⟩, trivial⟩⟩
  · exact ⟨[.int x1, .int (x2 + d)], ⟨by simp, by decide, x2, by kernel_rfl, fun s => by kernel_rfl, fun s => by kernel_rfl⟩, rfl, all_mem ⟨⟨_, rfl⟩, ⟨_, rfl⟩, trivial⟩⟩
theorem clk3 {c : Nat} (h1 : 1 ≤ c) (h2 : c ≤ 3) : c ∈ ([1, 2, 3] : List Nat) := by
  have : c = 1 ∨ c = 2 ∨ c = 3 := by omega
  rcases this with rfl | rfl | rfl <;> simp
theorem ints3 {su : List D} (h1 : su.length = 3) (h2 : ∀ x ∈ su, IntOk x) : ∃ x1 x2 x3 : Int, su = [.int x1, .int x2, .int x3] := by
  match su, h1 with
  | [a1, a2, a3], _ =>
    obtain ⟨x1, rfl⟩ := h2 a1 (by simp)
    obtain ⟨x2, rfl⟩ := h2 a2 (by simp)
    obtain ⟨x3, rfl⟩ := h2 a3 (by simp)
    exact ⟨x1, x2, x3, rfl⟩
theorem pu3 {su : List D} (h1 : su.length = 3) (h2 : ∀ x ∈ su, IntOk x) (k : Nat) (k1 : 1 ≤ k) (k2 : k ≤ 3) (d : Int) : ∃ su2, Pu su k d su2 ∧ su2.length = 3 ∧ ∀ x ∈ su2, IntOk x := by
  obtain ⟨x1, x2, x3, rfl⟩ := ints3 h1 h2
  have : k = 1 ∨ k = 2 ∨ k = 3 := by omega
  rcases this with rfl | rfl | rfl
  · exact ⟨[.int (x1 + d), .int x2, .int x3], ⟨by simp, by decide, x1, by kernel_rfl, fun s => by kernel_rfl, fun s => by kernel_rfl⟩, rfl, all_mem ⟨⟨_, rfl⟩, ⟨_, rfl⟩, ⟨_, rfl⟩, trivial⟩⟩
  · exact ⟨[.int x1, .int (x2 + d), .int x3], ⟨by simp, by decide, x2, by kernel_rfl, fun s => by kernel_rfl, fun s => by kernel_rfl⟩, rfl, all_mem ⟨⟨_, rfl⟩, ⟨_, rfl⟩, ⟨_, rfl⟩, trivial⟩⟩
  · exact ⟨[.int x1, .int x2, .int (x3 + d)], ⟨by simp, by decide, x3, by kernel_rfl, fun s => by kernel_rfl, fun s => by kernel_rfl⟩, rfl, all_mem ⟨⟨_, rfl⟩, ⟨_, rfl⟩, ⟨_, rfl⟩, trivial⟩⟩
theorem pu {p : Nat} (hp : p = 2 ∨ p = 3) {su : List D} (h1 : su.length = p) (h2 : ∀ x ∈ su, IntOk x) (k : Nat) (k1 : 1 ≤ k) (k2 : k ≤ p) (d : Int) : ∃ su2, Pu su k d su2 ∧ su2.length = p ∧ ∀ x ∈ su2, IntOk x := by
  rcases hp with rfl | rfl
  · exact pu2 h1 h2 k k1 k2 d
  · exact pu3 h1 h2 k k1 k2 d
end LW

set_option Elab.async false
set_option linter.all false
set_option maxRecDepth 100000
set_option maxHeartbeats 8000000
namespace LW
open PySem PD
/-- the rule's words -/
structure RuOk (p : Nat) (late back zl again : Str) : Prop where
  hp : p = 2 ∨ p = 3
  la : late ∈ (["next", "own", "refuse"] : List Str)
  ba : back ∈ (["counter", "refuse", "strike"] : List Str)
  zl_ : zl ∈ (["any", "chief", "two"] : List Str)
  ag : again ∈ (["chief", "never", "void"] : List Str)
section
variable {p : Nat} {late back zl again : Str} {b3 b4 b6 b8 : Bool} {clock : Nat} {sts : List Str} {su : List D} {life : Str} {place : Nat} {gi : List D}
theorem wr (K : RuOk p late back zl again) (S : StOk p clock sts su life place gi) {who : Str} (hw : who = "chief" ∨ who = "clerk") {date : Nat} (d1 : 1 ≤ date) (d2 : date ≤ p) (g : Int) :
    Wr (ru p late back b3 b4 zl b6 again b8) (.int clock) (.tup (sts.map .str)) su life (.int place) (.tup gi) who date (bookF late clock sts who date : Nat) g := by
  rcases K.hp with rfl | rfl
  · unfold ru
    refine ⟨fun s => ?_, fun s => ?_⟩
    · have h := of_mapR (book2 late K.la clock (clk2 S.c1 S.c2) (.str back) (.str (gvw b3)) (.str (gvw b4)) (.str zl) (.bl b6) (.str again) (.bl b8) s) (sts, (who, date)) (mem_dom2 S.s1 S.s2 hw d1 d2)
      simp only [tS'] at h
      exact h
    · have h := of_mapR (put2 late K.la clock (clk2 S.c1 S.c2) (.str back) (.str (gvw b3)) (.str (gvw b4)) (.str zl) (.bl b6) (.str again) (.bl b8) (.tup su) (.str life) (.int place) (.tup gi) s) (sts, (who, date)) (mem_dom2 S.s1 S.s2 hw d1 d2)
      simp only [tS'] at h
      exact h
  · unfold ru
    refine ⟨fun s => ?_, fun s => ?_⟩
    · have h := of_mapR (book3 late K.la clock (clk3 S.c1 S.c2) (.str back) (.str (gvw b3)) (.str (gvw b4)) (.str zl) (.bl b6) (.str again) (.bl b8) s) (sts, (who, date)) (mem_dom2 S.s1 S.s2 hw d1 d2)
      simp only [tS'] at h
      exact h
    · have h := of_mapR (put3 late K.la clock (clk3 S.c1 S.c2) (.str back) (.str (gvw b3)) (.str (gvw b4)) (.str zl) (.bl b6) (.str again) (.bl b8) (.tup su) (.str life) (.int place) (.tup gi) s) (sts, (who, date)) (mem_dom2 S.s1 S.s2 hw d1 d2)
      simp only [tS'] at h
      exact h
theorem un (K : RuOk p late back zl again) (S : StOk p clock sts su life place gi) {who : Str} (hw : who = "chief" ∨ who = "clerk") (h1 : 1 ≤ place) :
    Un (ru p late back b3 b4 zl b6 again b8) (.int clock) (.tup (sts.map .str)) su life (.int place) (.tup gi) who (unbookF back clock sts who place : Nat) := by
  rcases K.hp with rfl | rfl
  · unfold ru
    refine ⟨fun s => ?_, fun s => ?_⟩
    · have h := of_mapR (unbook2 back K.ba clock (clk2 S.c1 S.c2) (.str late) (.str (gvw b3)) (.str (gvw b4)) (.str zl) (.bl b6) (.str again) (.bl b8) s) (sts, (who, place)) (mem_dom2c S.s1 S.s2 hw h1 S.pl)
      simp only [tS'] at h
      exact h
    · have h := of_mapR (out2 back K.ba clock (clk2 S.c1 S.c2) (.str late) (.str (gvw b3)) (.str (gvw b4)) (.str zl) (.bl b6) (.str again) (.bl b8) (.tup su) (.str life) (.tup gi) s) (sts, (who, place)) (mem_dom2c S.s1 S.s2 hw h1 S.pl)
      simp only [tS'] at h
      exact h
  · unfold ru
    refine ⟨fun s => ?_, fun s => ?_⟩
    · have h := of_mapR (unbook3 back K.ba clock (clk3 S.c1 S.c2) (.str late) (.str (gvw b3)) (.str (gvw b4)) (.str zl) (.bl b6) (.str again) (.bl b8) s) (sts, (who, place)) (mem_dom2c S.s1 S.s2 hw h1 S.pl)
      simp only [tS'] at h
      exact h
    · have h := of_mapR (out3 back K.ba clock (clk3 S.c1 S.c2) (.str late) (.str (gvw b3)) (.str (gvw b4)) (.str zl) (.bl b6) (.str again) (.bl b8) (.tup su) (.str life) (.tup gi) s) (sts, (who, place)) (mem_dom2c S.s1 S.s2 hw h1 S.pl)
      simp only [tS'] at h
      exact h
end
end LW

set_option Elab.async false
set_option linter.all false
set_option maxRecDepth 100000
set_option maxHeartbeats 8000000
namespace LW
open PySem PD
section
variable {p : Nat} {late back zl again : Str} {b3 b4 b6 b8 : Bool} {clock : Nat} {sts : List Str} {su : List D} {life : Str} {place : Nat} {gi : List D}
theorem wne {w : Str} (hw : w = "enter" ∨ w = "move" ∨ w = "take") : w ≠ "give" := by
  rcases hw with rfl | rfl | rfl <;> decide +kernel
theorem turn_no (S : StOk p clock sts su life place gi) (hp : p ≤ 3) {R : D} {w : Str} {r : List D} (hw : w = "enter" ∨ w = "move" ∨ w = "take") (hr : r.length ≤ 2) (h : ∀ s, (f_after_writing [R, mk clock sts su life place gi, .tup (.str w :: r)]).at s = .ok .non s ∧ (f_law_written [R, mk clock sts su life place gi, .tup (.str w :: r)]).at s = .ok (mk clock sts su life place gi) s) :
    ∃ x' fl, Turn p R (mk clock sts su life place gi) (.tup (.str w :: r)) x' fl := by
  have k := step_no (c := .int clock) (st := .tup (sts.map .str)) (su := .tup su) (li := life) (pl := .int place) (gi := .tup gi) hw hr h
  refine ⟨_, _, ⟨⟨clock, sts, su, life, place, gi, rfl, S⟩, .inl ⟨false, rfl⟩, fun s => (k s).1, fun s => (k s).2, fun s => told_ok (b := true) (wne hw) hr (fun s => (k s).2) (eq_mk_self hp S) s⟩⟩
theorem turn_yes (S : StOk p clock sts su life place gi) (hp : p ≤ 3) {R : D} {w : Str} {r : List D} {su2 : List D} {life2 : Str} {place2 : Nat} (S2 : StOk p clock sts su2 life2 place2 gi) (hne : life2 ≠ life) (hw : w = "enter" ∨ w = "move" ∨ w = "take") (hr : r.length ≤ 2)
    (h : ∀ s, (f_after_writing [R, mk clock sts su life place gi, .tup (.str w :: r)]).at s = .ok (mk clock sts su2 life2 place2 gi) s ∧ (f_law_written [R, mk clock sts su life place gi, .tup (.str w :: r)]).at s = .ok (mk clock sts su2 life2 place2 gi) s) :
    ∃ x' fl, Turn p R (mk clock sts su life place gi) (.tup (.str w :: r)) x' fl := by
  have k := step_yes (c := .int clock) (st := .tup (sts.map .str)) (su := .tup su) (li := life) (pl := .int place) (gi := .tup gi) hw hr h
  refine ⟨_, _, ⟨⟨clock, sts, su2, life2, place2, gi, rfl, S2⟩, .inl ⟨true, rfl⟩, fun s => (k s).1, fun s => (k s).2, fun s => told_ok (b := false) (wne hw) hr (fun s => (k s).2) (eq_mk_ne hp S2 S (.inr (.inr hne))) s⟩⟩
theorem StOk.wrote (S : StOk p clock sts su life place gi) {su2 : List D} {life2 : Str} {place2 : Nat} (u1 : su2.length = p) (u2 : ∀ x ∈ su2, IntOk x) (hl : life2 ∈ (["new", "in", "moved", "out"] : List Str)) (h1 : place2 ≤ clock) (h2 : life2 = "in" ∨ life2 = "moved" → 1 ≤ place2) : StOk p clock sts su2 life2 place2 gi :=
  ⟨S.c1, S.c2, S.s1, S.s2, u1, u2, hl, h1, h2, S.g1, S.g2⟩
end
end LW

set_option Elab.async false
set_option linter.all false
set_option maxRecDepth 100000
set_option maxHeartbeats 8000000
namespace LW
open PySem PD
section
variable {p : Nat} {late back zl again : Str} {b3 b4 b6 b8 : Bool} {clock : Nat} {sts : List Str} {su : List D} {life : Str} {place : Nat} {gi : List D}
theorem tEnter (K : RuOk p late back zl again) (S : StOk p clock sts su life place gi) {who : Str} (hw : who = "chief" ∨ who = "clerk") {date : Nat} (d1 : 1 ≤ date) (d2 : date ≤ p) :
    ∃ x' fl, Turn p (ru p late back b3 b4 zl b6 again b8) (mk clock sts su life place gi) (.tup [.str "enter", .str who, .int date]) x' fl := by
  have hp : p ≤ 3 := by rcases K.hp with h | h <;> omega
  have W := wr (b3 := b3) (b4 := b4) (b6 := b6) (b8 := b8) K S hw d1 d2 0
  have le := book_le late clock sts who date
  have hl := S.li
  simp only [List.mem_cons, List.not_mem_nil, or_false] at hl
  rcases hl with rfl | hl
  · by_cases h0 : bookF late clock sts who date = 0
    · rw [h0] at W
      exact turn_no S hp (.inl rfl) (by simp) fun s => aw_enter0 W
    · obtain ⟨su2, P, q1, q2⟩ := pu K.hp S.u1 S.u2 (bookF late clock sts who date) (by omega) (by have := S.c2; omega) 1
      exact turn_yes S hp (S.wrote q1 q2 (by simp) le fun _ => by omega) (by decide +kernel) (.inl rfl) (by simp) fun s => aw_enter W P
  · exact turn_no S hp (.inl rfl) (by simp) fun s => aw_enterX hl W
theorem tMove (K : RuOk p late back zl again) (S : StOk p clock sts su life place gi) {who : Str} (hw : who = "chief" ∨ who = "clerk") {date : Nat} (d1 : 1 ≤ date) (d2 : date ≤ p) :
    ∃ x' fl, Turn p (ru p late back b3 b4 zl b6 again b8) (mk clock sts su life place gi) (.tup [.str "move", .str who, .int date]) x' fl := by
  have hp : p ≤ 3 := by rcases K.hp with h | h <;> omega
  have le := book_le late clock sts who date
  have hl := S.li
  simp only [List.mem_cons, List.not_mem_nil, or_false] at hl
  by_cases hin : life = "in"
  · subst hin
    have U := un (b3 := b3) (b4 := b4) (b6 := b6) (b8 := b8) K S hw (S.pl1 (.inl rfl))
    have W := wr (b3 := b3) (b4 := b4) (b6 := b6) (b8 := b8) K S hw d1 d2 (unbookF back clock sts who place : Nat)
    have le2 := unbook_le back clock sts who place S.pl
    by_cases h0 : bookF late clock sts who date = 0
    · exact turn_no S hp (.inr (.inl rfl)) (by simp) fun s => aw_move0 W U (.inl (by omega))
    · by_cases h1 : unbookF back clock sts who place = 0
      · exact turn_no S hp (.inr (.inl rfl)) (by simp) fun s => aw_move0 W U (.inr ⟨by omega, by omega⟩)
      · obtain ⟨su1, P1, q1, q2⟩ := pu K.hp S.u1 S.u2 (unbookF back clock sts who place) (by omega) (by have := S.c2; omega) (-1)
        obtain ⟨su2, P2, q3, q4⟩ := pu K.hp q1 q2 (bookF late clock sts who date) (by omega) (by have := S.c2; omega) 1
        exact turn_yes S hp (S.wrote q3 q4 (by simp) le fun _ => by omega) (by decide +kernel) (.inr (.inl rfl)) (by simp) fun s => aw_move W U P1 P2
  · have W := wr (b3 := b3) (b4 := b4) (b6 := b6) (b8 := b8) K S hw d1 d2 0
    have hx : life = "new" ∨ life = "moved" ∨ life = "out" := by
      rcases hl with h | h | h | h
      · exact .inl h
      · exact absurd h hin
      · exact .inr (.inl h)
      · exact .inr (.inr h)
    exact turn_no S hp (.inr (.inl rfl)) (by simp) fun s => aw_moveX hx W
theorem tTake (K : RuOk p late back zl again) (S : StOk p clock sts su life place gi) {who : Str} (hw : who = "chief" ∨ who = "clerk") :
    ∃ x' fl, Turn p (ru p late back b3 b4 zl b6 again b8) (mk clock sts su life place gi) (.tup [.str "take", .str who]) x' fl := by
  have hp : p ≤ 3 := by rcases K.hp with h | h <;> omega
  have hl := S.li
  simp only [List.mem_cons, List.not_mem_nil, or_false] at hl
  by_cases hin : life = "in" ∨ life = "moved"
  · have U := un (b3 := b3) (b4 := b4) (b6 := b6) (b8 := b8) K S hw (S.pl1 hin)
    have le2 := unbook_le back clock sts who place S.pl
    by_cases h1 : unbookF back clock sts who place = 0
    · rw [h1] at U
      exact turn_no S hp (.inr (.inr rfl)) (by simp) fun s => aw_take0 hin U
    · obtain ⟨su1, P1, q1, q2⟩ := pu K.hp S.u1 S.u2 (unbookF back clock sts who place) (by omega) (by have := S.c2; omega) (-1)
      exact turn_yes S hp (place2 := 0) (S.wrote q1 q2 (by simp) (by omega) fun h => by rcases h with h | h <;> exact absurd h (by decide +kernel)) (by rcases hin with h | h <;> rw [h] <;> decide +kernel) (.inr (.inr rfl)) (by simp) fun s => aw_take hin U P1
  · have hx : life = "new" ∨ life = "out" := by
      rcases hl with h | h | h | h
      · exact .inl h
      · exact absurd (.inl h) hin
      · exact absurd (.inr h) hin
      · exact .inr h
    exact turn_no S hp (.inr (.inr rfl)) (by simp) fun s => aw_takeX hx
end
end LW

set_option Elab.async false
set_option linter.all false
set_option maxRecDepth 100000
set_option maxHeartbeats 8000000
namespace LW
open PySem PD
section
variable {p : Nat} {late back zl again : Str} {b3 b4 b6 b8 : Bool} {clock : Nat} {sts : List Str} {su : List D} {life : Str} {place : Nat} {gi : List D}
theorem three2 {α : Type} : ∀ {l : List α}, l.length = 2 → ∃ w1 w2, l = [w1, w2]
  | [w1, w2], _ => ⟨w1, w2, rfl⟩
theorem three3 {α : Type} : ∀ {l : List α}, l.length = 3 → ∃ w1 w2 w3, l = [w1, w2, w3]
  | [w1, w2, w3], _ => ⟨w1, w2, w3, rfl⟩
theorem tOn (K : RuOk p late back zl again) (S : StOk p clock sts su life place gi) : ∃ x' fl, Turn p (ru p late back b3 b4 zl b6 again b8) (mk clock sts su life place gi) (.tup [.str "on"]) x' fl := by
  have hp : p ≤ 3 := by rcases K.hp with h | h <;> omega
  have c1 := S.c1
  have c2 := S.c2
  have pl := S.pl
  have S2 : StOk p (min (clock + 1) p) sts su life place gi := ⟨by omega, by omega, S.s1, S.s2, S.u1, S.u2, S.li, by omega, S.pl1, S.g1, S.g2⟩
  have h : ∀ s, (f_step [ru p late back b3 b4 zl b6 again b8, mk clock sts su life place gi, .tup [.str "on"]]).at s = .ok (.tup [mk (min (clock + 1) p) sts su life place gi, .bl (decide (clock < p))]) s ∧ (f_law_on [ru p late back b3 b4 zl b6 again b8, mk clock sts su life place gi, .tup [.str "on"]]).at s = .ok (mk (min (clock + 1) p) sts su life place gi) s := by
    intro s
    rcases K.hp with rfl | rfl
    · exact on2 clock (clk2 S.c1 S.c2) (.str late) (.str back) (.str (gvw b3)) (.str (gvw b4)) (.str zl) (.bl b6) (.str again) (.bl b8) .non sts su life place gi s
    · exact on3 clock (clk3 S.c1 S.c2) (.str late) (.str back) (.str (gvw b3)) (.str (gvw b4)) (.str zl) (.bl b6) (.str again) (.bl b8) .non sts su life place gi s
  have e : eqD (mk (min (clock + 1) p) sts su life place gi) (mk clock sts su life place gi) = some (!decide (clock < p)) := by
    by_cases hc : clock < p
    · rw [decide_eq_true hc]
      exact eq_mk_ne hp S2 S (.inl (by omega))
    · rw [decide_eq_false hc, show min (clock + 1) p = clock from by omega]
      exact eq_mk_self hp S
  refine ⟨_, _, ⟨⟨_, _, _, _, _, _, rfl, S2⟩, .inl ⟨_, rfl⟩, fun s => (h s).1, fun s => (h s).2, fun s => ?_⟩⟩
  have t := told_ok (w := "on") (r := []) (by decide +kernel) (by simp) (fun s => (h s).2) e s
  rw [Bool.not_not] at t
  exact t
end
end LW

set_option Elab.async false
set_option linter.all false
set_option maxRecDepth 100000
set_option maxHeartbeats 8000000
namespace LW
open PySem PD
section
variable {p : Nat} {late back zl again : Str} {b3 b4 b6 b8 : Bool} {clock : Nat} {sts : List Str} {su : List D} {life : Str} {place : Nat} {gi : List D}
theorem open_st {sts : List Str} {who : Str} {n : Nat} (h : ∀ x ∈ sts, x ∈ lvs) : ∀ x ∈ openS again sts who n, x ∈ lvs := fun x hx => by
  unfold openS at hx
  split at hx
  · rcases List.mem_or_eq_of_mem_set hx with h1 | h1
    · exact h x h1
    · rw [h1]
      unfold lvs
      simp
  · exact h x hx
theorem open_gi {sts : List Str} {who : Str} {n : Nat} {gi : List D} (h : ∀ x ∈ gi, GivOk x) : ∀ x ∈ openG again p sts who n gi, GivOk x := fun x hx => by
  unfold openG at hx
  split at hx
  · rcases List.mem_append.mp hx with h1 | h1
    · exact h x (List.mem_of_mem_take h1)
    · rw [List.eq_of_mem_replicate h1]
      exact .inl rfl
  · exact h x hx
theorem set_ne {l : List Str} {n : Nat} {a : Str} (h1 : 1 ≤ n) (h2 : n ≤ l.length) (h : a ≠ stAt l n) : l.set (n - 1) a ≠ l := fun e => by
  have h3 : n - 1 < l.length := by omega
  have e2 : (l.set (n - 1) a)[n - 1]? = l[n - 1]? := by rw [e]
  rw [List.getElem?_set_self h3] at e2
  unfold stAt at h
  rw [List.getD_eq_getElem?_getD, ← e2] at h
  exact h rfl
end
end LW

set_option Elab.async false
set_option linter.all false
set_option maxRecDepth 100000
set_option maxHeartbeats 8000000
namespace LW
open PySem PD
section
variable {p : Nat} {late back zl again : Str} {b3 b4 b6 b8 : Bool} {clock : Nat} {sts : List Str} {su : List D} {life : Str} {place : Nat} {gi : List D}
theorem tOpen (K : RuOk p late back zl again) (S : StOk p clock sts su life place gi) {who : Str} (hw : who = "chief" ∨ who = "clerk") {n : Nat} (d1 : 1 ≤ n) (d2 : n ≤ p) : ∃ x' fl, Turn p (ru p late back b3 b4 zl b6 again b8) (mk clock sts su life place gi) (.tup [.str "open", .str who, .int n]) x' fl := by
  have hp : p ≤ 3 := by rcases K.hp with h | h <;> omega
  have S2 : StOk p clock (openS again sts who n) su life place (openG again p sts who n gi) := by
    refine ⟨S.c1, S.c2, ?_, open_st S.s2, S.u1, S.u2, S.li, S.pl, S.pl1, ?_, open_gi S.g2⟩
    · unfold openS
      split
      · rw [List.length_set, S.s1]
      · exact S.s1
    · unfold openG
      split
      · rw [List.length_append, List.length_take, List.length_replicate, S.g1]
        omega
      · exact S.g1
  have h : ∀ s, (f_step [ru p late back b3 b4 zl b6 again b8, mk clock sts su life place gi, .tup [.str "open", .str who, .int n]]).at s = .ok (.tup [mk clock (openS again sts who n) su life place (openG again p sts who n gi), .bl (openB again (stAt sts n) who)]) s ∧ (f_law_on [ru p late back b3 b4 zl b6 again b8, mk clock sts su life place gi, .tup [.str "open", .str who, .int n]]).at s = .ok (mk clock (openS again sts who n) su life place (openG again p sts who n gi)) s := by
    intro s
    have s1 := S.s1
    have s2 := S.s2
    have u1 := S.u1
    have u2 := S.u2
    have lg := S.g1
    rcases K.hp with rfl | rfl
    · obtain ⟨x1, x2, rfl⟩ := ints2 u1 u2
      obtain ⟨g1, g2, rfl⟩ := three2 lg
      unfold ru
      have h1 := of_mapR (open2 again K.ag clock (.str late) (.str back) (.str (gvw b3)) (.str (gvw b4)) (.str zl) (.bl b6) (.bl b8) x1 x2 life place g1 g2 s) (sts, (who, n)) (mem_dom2 s1 s2 hw d1 d2)
      have h2 := of_mapR (lopen2 again K.ag clock (.str late) (.str back) (.str (gvw b3)) (.str (gvw b4)) (.str zl) (.bl b6) (.bl b8) x1 x2 life place g1 g2 s) (sts, (who, n)) (mem_dom2 s1 s2 hw d1 d2)
      simp only at h1 h2
      exact ⟨h1, h2⟩
    · obtain ⟨x1, x2, x3, rfl⟩ := ints3 u1 u2
      obtain ⟨g1, g2, g3, rfl⟩ := three3 lg
      unfold ru
      have h1 := of_mapR (open3 again K.ag clock (.str late) (.str back) (.str (gvw b3)) (.str (gvw b4)) (.str zl) (.bl b6) (.bl b8) x1 x2 x3 life place g1 g2 g3 s) (sts, (who, n)) (mem_dom2 s1 s2 hw d1 d2)
      have h2 := of_mapR (lopen3 again K.ag clock (.str late) (.str back) (.str (gvw b3)) (.str (gvw b4)) (.str zl) (.bl b6) (.bl b8) x1 x2 x3 life place g1 g2 g3 s) (sts, (who, n)) (mem_dom2 s1 s2 hw d1 d2)
      simp only at h1 h2
      exact ⟨h1, h2⟩
  have e : eqD (mk clock (openS again sts who n) su life place (openG again p sts who n gi)) (mk clock sts su life place gi) = some (!openB again (stAt sts n) who) := by
    cases hb : openB again (stAt sts n) who with
    | true =>
      refine eq_mk_ne hp S2 S (.inr (.inl ?_))
      unfold openS
      rw [if_pos hb]
      refine set_ne d1 (by rw [S.s1]; exact d2) fun q => ?_
      unfold openB at hb
      rw [← q] at hb
      simp at hb
    | false =>
      have e1 : openS again sts who n = sts := by
        unfold openS
        rw [hb]
        rfl
      have e2 : openG again p sts who n gi = gi := by
        unfold openG
        rw [hb]
        rfl
      rw [e1, e2]
      exact eq_mk_self hp S
  refine ⟨_, _, ⟨⟨_, _, _, _, _, _, rfl, S2⟩, .inl ⟨_, rfl⟩, fun s => (h s).1, fun s => (h s).2, fun s => ?_⟩⟩
  have t := told_ok (w := "open") (r := [.str who, .int n]) (by decide +kernel) (by simp) (fun s => (h s).2) e s
  rw [Bool.not_not] at t
  exact t
end
end LW

set_option Elab.async false
set_option linter.all false
set_option maxRecDepth 100000
set_option maxHeartbeats 8000000
namespace LW
open PySem PD
section
variable {p : Nat} {late back zl again : Str} {b3 b4 b6 b8 : Bool} {clock : Nat} {sts : List Str} {su : List D} {life : Str} {place : Nat} {gi : List D}
/-! ### close -/
theorem close_ne {zl : Str} {o : Bool} {c : Nat} {sts : List Str} {who : Str} {n : Nat} {a : Str} (h : closeF zl o c sts who n = some a) : a ≠ stAt sts n ∧ a ∈ lvs := by
  unfold closeF at h
  split at h
  · cases h
  · rename_i h1
    have hs : stAt sts n ≠ "shut" := fun q => h1 (by rw [q]; simp)
    split at h
    · cases h
      exact ⟨fun q => hs q.symm, by unfold lvs; simp⟩
    · split at h
      · rename_i h3
        cases h
        have ho : stAt sts n = "open" := of_decide_eq_true (Bool.and_eq_true_iff.mp h3).2
        refine ⟨?_, by unfold lvs; simp⟩
        rw [ho]
        decide +kernel
      · cases h
theorem mem_domc {sts : List Str} {n : Nat} {w : Str} (h1 : sts.length = n) (h2 : ∀ x ∈ sts, x ∈ lvs) (hw : w = "chief" ∨ w = "clerk") : (sts, w) ∈ domc n :=
  List.mem_flatMap.mpr ⟨sts, mem_stsL h1 h2, List.mem_map.mpr ⟨w, who_mem hw, rfl⟩⟩
theorem tClose (K : RuOk p late back zl again) (S : StOk p clock sts su life place gi) {who : Str} (hw : who = "chief" ∨ who = "clerk") {n : Nat} (d1 : 1 ≤ n) (d2 : n ≤ p) : ∃ x' fl, Turn p (ru p late back b3 b4 zl b6 again b8) (mk clock sts su life place gi) (.tup [.str "close", .str who, .int n]) x' fl := by
  have hp : p ≤ 3 := by rcases K.hp with h | h <;> omega
  have h : ∀ s, (f_step [ru p late back b3 b4 zl b6 again b8, mk clock sts su life place gi, .tup [.str "close", .str who, .int n]]).at s = .ok (.tup [mk clock (closeS zl b6 clock sts who n) su life place gi, .bl (closeF zl b6 clock sts who n).isSome]) s ∧ (f_law_on [ru p late back b3 b4 zl b6 again b8, mk clock sts su life place gi, .tup [.str "close", .str who, .int n]]).at s = .ok (mk clock (closeS zl b6 clock sts who n) su life place gi) s := by
    intro s
    have s1 := S.s1
    have s2 := S.s2
    have u1 := S.u1
    have u2 := S.u2
    have lg := S.g1
    rcases K.hp with rfl | rfl
    · obtain ⟨x1, x2, rfl⟩ := ints2 u1 u2
      obtain ⟨g1, g2, rfl⟩ := three2 lg
      obtain ⟨w1, w2, rfl⟩ := three2 s1
      unfold ru
      have hn : n = 1 ∨ n = 2 := by omega
      rcases hn with rfl | rfl
      · have m : ([w1], who) ∈ domc 1 := mem_domc rfl (fun x hx => s2 x (List.mem_append_left [w2] hx)) hw
        have h1 := of_mapR (close2_1 zl K.zl_ b6 clock (clk2 S.c1 S.c2) (.str late) (.str back) (.str (gvw b3)) (.str (gvw b4)) (.str again) (.bl b8) x1 x2 w1 w2 "" life place g1 g2 s) _ m
        have h2 := of_mapR (lclose2_1 zl K.zl_ b6 clock (clk2 S.c1 S.c2) (.str late) (.str back) (.str (gvw b3)) (.str (gvw b4)) (.str again) (.bl b8) x1 x2 w1 w2 "" life place g1 g2 s) _ m
        simp only [List.cons_append, List.nil_append] at h1 h2
        exact ⟨h1, h2⟩
      · have m : ([w1, w2], who) ∈ domc 2 := mem_domc rfl (fun x hx => s2 x (List.mem_append_left [] hx)) hw
        have h1 := of_mapR (close2_2 zl K.zl_ b6 clock (clk2 S.c1 S.c2) (.str late) (.str back) (.str (gvw b3)) (.str (gvw b4)) (.str again) (.bl b8) x1 x2 w1 w2 "" life place g1 g2 s) _ m
        have h2 := of_mapR (lclose2_2 zl K.zl_ b6 clock (clk2 S.c1 S.c2) (.str late) (.str back) (.str (gvw b3)) (.str (gvw b4)) (.str again) (.bl b8) x1 x2 w1 w2 "" life place g1 g2 s) _ m
        simp only [List.cons_append, List.nil_append] at h1 h2
        exact ⟨h1, h2⟩
    · obtain ⟨x1, x2, x3, rfl⟩ := ints3 u1 u2
      obtain ⟨g1, g2, g3, rfl⟩ := three3 lg
      obtain ⟨w1, w2, w3, rfl⟩ := three3 s1
      unfold ru
      have hn : n = 1 ∨ n = 2 ∨ n = 3 := by omega
      rcases hn with rfl | rfl | rfl
      · have m : ([w1], who) ∈ domc 1 := mem_domc rfl (fun x hx => s2 x (List.mem_append_left [w2, w3] hx)) hw
        have h1 := of_mapR (close3_1 zl K.zl_ b6 clock (clk3 S.c1 S.c2) (.str late) (.str back) (.str (gvw b3)) (.str (gvw b4)) (.str again) (.bl b8) x1 x2 x3 w1 w2 w3 life place g1 g2 g3 s) _ m
        have h2 := of_mapR (lclose3_1 zl K.zl_ b6 clock (clk3 S.c1 S.c2) (.str late) (.str back) (.str (gvw b3)) (.str (gvw b4)) (.str again) (.bl b8) x1 x2 x3 w1 w2 w3 life place g1 g2 g3 s) _ m
        simp only [List.cons_append, List.nil_append] at h1 h2
        exact ⟨h1, h2⟩
      · have m : ([w1, w2], who) ∈ domc 2 := mem_domc rfl (fun x hx => s2 x (List.mem_append_left [w3] hx)) hw
        have h1 := of_mapR (close3_2 zl K.zl_ b6 clock (clk3 S.c1 S.c2) (.str late) (.str back) (.str (gvw b3)) (.str (gvw b4)) (.str again) (.bl b8) x1 x2 x3 w1 w2 w3 life place g1 g2 g3 s) _ m
        have h2 := of_mapR (lclose3_2 zl K.zl_ b6 clock (clk3 S.c1 S.c2) (.str late) (.str back) (.str (gvw b3)) (.str (gvw b4)) (.str again) (.bl b8) x1 x2 x3 w1 w2 w3 life place g1 g2 g3 s) _ m
        simp only [List.cons_append, List.nil_append] at h1 h2
        exact ⟨h1, h2⟩
      · have m : ([w1, w2, w3], who) ∈ domc 3 := mem_domc rfl (fun x hx => s2 x (List.mem_append_left [] hx)) hw
        have h1 := of_mapR (close3_3 zl K.zl_ b6 clock (clk3 S.c1 S.c2) (.str late) (.str back) (.str (gvw b3)) (.str (gvw b4)) (.str again) (.bl b8) x1 x2 x3 w1 w2 w3 life place g1 g2 g3 s) _ m
        have h2 := of_mapR (lclose3_3 zl K.zl_ b6 clock (clk3 S.c1 S.c2) (.str late) (.str back) (.str (gvw b3)) (.str (gvw b4)) (.str again) (.bl b8) x1 x2 x3 w1 w2 w3 life place g1 g2 g3 s) _ m
        simp only [List.cons_append, List.nil_append] at h1 h2
        exact ⟨h1, h2⟩
  cases hc : closeF zl b6 clock sts who n with
  | none =>
    have e1 : closeS zl b6 clock sts who n = sts := by
      unfold closeS
      rw [hc]
    simp only [e1, hc] at h
    refine ⟨_, _, ⟨⟨_, _, _, _, _, _, rfl, S⟩, .inl ⟨_, rfl⟩, fun s => (h s).1, fun s => (h s).2, fun s => ?_⟩⟩
    exact told_ok (w := "close") (r := [.str who, .int n]) (by decide +kernel) (by simp) (fun s => (h s).2) (eq_mk_self hp S) s
  | some a =>
    obtain ⟨hne, ha⟩ := close_ne hc
    have e1 : closeS zl b6 clock sts who n = sts.set (n - 1) a := by
      unfold closeS
      rw [hc]
    simp only [e1, hc] at h
    have S2 : StOk p clock (sts.set (n - 1) a) su life place gi := ⟨S.c1, S.c2, by rw [List.length_set, S.s1], fun x hx => by
      rcases List.mem_or_eq_of_mem_set hx with h1 | h1
      · exact S.s2 x h1
      · rw [h1]; exact ha, S.u1, S.u2, S.li, S.pl, S.pl1, S.g1, S.g2⟩
    refine ⟨_, _, ⟨⟨_, _, _, _, _, _, rfl, S2⟩, .inl ⟨_, rfl⟩, fun s => (h s).1, fun s => (h s).2, fun s => ?_⟩⟩
    exact told_ok (w := "close") (r := [.str who, .int n]) (by decide +kernel) (by simp) (fun s => (h s).2) (eq_mk_ne hp S2 S (.inr (.inl (set_ne d1 (by rw [S.s1]; exact d2) hne)))) s
end
end LW

set_option Elab.async false
set_option linter.all false
set_option maxRecDepth 100000
set_option maxHeartbeats 8000000
namespace LW
open PySem PD
section
variable {p : Nat} {late back zl again : Str} {b3 b4 b6 b8 : Bool} {clock : Nat} {sts : List Str} {su : List D} {life : Str} {place : Nat} {gi : List D}
theorem giv_of {d : D} (h : GivOk d) : ∃ b i j k, d = gvD b i j k := by
  rcases h with rfl | ⟨i, j, k, rfl⟩
  · exact ⟨false, 0, 0, 0, rfl⟩
  · exact ⟨true, i, j, k, rfl⟩
theorem bb_mem (b : Bool) : b ∈ bb := by cases b <;> simp [bb]
theorem mem_domg {e sh ca : Bool} {st : Str} {bn bm : Bool} (h : st ∈ lvs) : (e, (sh, (ca, (st, (bn, bm))))) ∈ domg :=
  List.mem_flatMap.mpr ⟨e, bb_mem e, List.mem_flatMap.mpr ⟨sh, bb_mem sh, List.mem_flatMap.mpr ⟨ca, bb_mem ca, List.mem_flatMap.mpr ⟨st, h, List.mem_flatMap.mpr ⟨bn, bb_mem bn, List.mem_map.mpr ⟨bm, bb_mem bm, rfl⟩⟩⟩⟩⟩⟩
theorem row_ok {n clock : Nat} {sums : List Int} {a1 a2 a3 c3 : Int} {q : Bool × (Bool × (Bool × (Str × (Bool × Bool))))} : GivOk (rowF n clock sums a1 a2 a3 c3 q) := by
  unfold rowF
  split
  · exact .inl rfl
  · split
    · exact .inr ⟨_, _, _, rfl⟩
    · split
      · exact .inr ⟨_, _, _, rfl⟩
      · exact .inr ⟨_, _, _, rfl⟩
theorem putG_len {gi : List D} {n : Nat} {d : D} : (putG gi n d).length = gi.length := by
  unfold putG
  split
  · rfl
  · exact List.length_set
theorem putG_ok {gi : List D} {n : Nat} {d : D} (hd : GivOk d) (h : ∀ x ∈ gi, GivOk x) : ∀ x ∈ putG gi n d, GivOk x := fun x hx => by
  unfold putG at hx
  split at hx
  · exact h x hx
  · rcases List.mem_or_eq_of_mem_set hx with h1 | h1
    · exact h x h1
    · rw [h1]; exact hd
theorem StOk.gave (S : StOk p clock sts su life place gi) {n : Nat} {d : D} (hd : GivOk d) : StOk p clock sts su life place (putG gi n d) := ⟨S.c1, S.c2, S.s1, S.s2, S.u1, S.u2, S.li, S.pl, S.pl1, by rw [putG_len]; exact S.g1, putG_ok hd S.g2⟩
theorem tGive (K : RuOk p late back zl again) (S : StOk p clock sts su life place gi) {n : Nat} (d1 : 1 ≤ n) (d2 : n ≤ p) : ∃ x' fl, Turn p (ru p late back b3 b4 zl b6 again b8) (mk clock sts su life place gi) (.tup [.str "give", .int n]) x' fl := by
  have ls := S.s1
  have s2 := S.s2
  have u1 := S.u1
  have u2 := S.u2
  have lg := S.g1
  have g2' := S.g2
  rcases K.hp with rfl | rfl
  · obtain ⟨x1, x2, rfl⟩ := ints2 u1 u2
    obtain ⟨g1, g2, rfl⟩ := three2 lg
    obtain ⟨w1, w2, rfl⟩ := three2 ls
    have hn : n = 1 ∨ n = 2 := by omega
    rcases hn with rfl | rfl
    · obtain ⟨bn, a1, a2, a3, rfl⟩ := giv_of (g2' g1 (by simp))
      have m : (b8, (b3, (b4, (w1, (bn, false))))) ∈ domg := mem_domg (s2 w1 (by simp))
      have h1 := fun s => of_mapR (give2_1 clock (clk2 S.c1 S.c2) (.str late) (.str back) (.str zl) (.bl b6) (.str again) x1 x2 w1 w2 "" life place a1 a2 a3 0 0 0 .non g2 s) _ m
      have h2 := fun s => of_mapR (lgive2_1 clock (clk2 S.c1 S.c2) (.str late) (.str back) (.str zl) (.bl b6) (.str again) x1 x2 w1 w2 "" life place a1 a2 a3 0 0 0 .non g2 s) _ m
      have h3 := fun s => of_mapR (tgive2_1 clock (clk2 S.c1 S.c2) (.str late) (.str back) (.str zl) (.bl b6) (.str again) x1 x2 w1 w2 "" life place a1 a2 a3 0 0 0 .non g2 s) _ m
      simp only at h1 h2 h3
      exact ⟨_, _, ⟨⟨_, _, _, _, _, _, rfl, S.gave (n := 1) row_ok⟩, .inr row_ok, h1, h2, h3⟩⟩
    · obtain ⟨bn, a1, a2, a3, rfl⟩ := giv_of (g2' g2 (by simp))
      obtain ⟨bm, c1, c2, c3, rfl⟩ := giv_of (g2' g1 (by simp))
      have m : (b8, (b3, (b4, (w2, (bn, bm))))) ∈ domg := mem_domg (s2 w2 (by simp))
      have h1 := fun s => of_mapR (give2_2 clock (clk2 S.c1 S.c2) (.str late) (.str back) (.str zl) (.bl b6) (.str again) x1 x2 w1 w2 "" life place a1 a2 a3 c1 c2 c3 .non .non s) _ m
      have h2 := fun s => of_mapR (lgive2_2 clock (clk2 S.c1 S.c2) (.str late) (.str back) (.str zl) (.bl b6) (.str again) x1 x2 w1 w2 "" life place a1 a2 a3 c1 c2 c3 .non .non s) _ m
      have h3 := fun s => of_mapR (tgive2_2 clock (clk2 S.c1 S.c2) (.str late) (.str back) (.str zl) (.bl b6) (.str again) x1 x2 w1 w2 "" life place a1 a2 a3 c1 c2 c3 .non .non s) _ m
      simp only at h1 h2 h3
      exact ⟨_, _, ⟨⟨_, _, _, _, _, _, rfl, S.gave (n := 2) row_ok⟩, .inr row_ok, h1, h2, h3⟩⟩
  · obtain ⟨x1, x2, x3, rfl⟩ := ints3 u1 u2
    obtain ⟨g1, g2, g3, rfl⟩ := three3 lg
    obtain ⟨w1, w2, w3, rfl⟩ := three3 ls
    have hn : n = 1 ∨ n = 2 ∨ n = 3 := by omega
    rcases hn with rfl | rfl | rfl
    · obtain ⟨bn, a1, a2, a3, rfl⟩ := giv_of (g2' g1 (by simp))
      have m : (b8, (b3, (b4, (w1, (bn, false))))) ∈ domg := mem_domg (s2 w1 (by simp))
      have h1 := fun s => of_mapR (give3_1 clock (clk3 S.c1 S.c2) (.str late) (.str back) (.str zl) (.bl b6) (.str again) x1 x2 x3 w1 w2 w3 life place a1 a2 a3 0 0 0 .non g2 g3 s) _ m
      have h2 := fun s => of_mapR (lgive3_1 clock (clk3 S.c1 S.c2) (.str late) (.str back) (.str zl) (.bl b6) (.str again) x1 x2 x3 w1 w2 w3 life place a1 a2 a3 0 0 0 .non g2 g3 s) _ m
      have h3 := fun s => of_mapR (tgive3_1 clock (clk3 S.c1 S.c2) (.str late) (.str back) (.str zl) (.bl b6) (.str again) x1 x2 x3 w1 w2 w3 life place a1 a2 a3 0 0 0 .non g2 g3 s) _ m
      simp only at h1 h2 h3
      exact ⟨_, _, ⟨⟨_, _, _, _, _, _, rfl, S.gave (n := 1) row_ok⟩, .inr row_ok, h1, h2, h3⟩⟩
    · obtain ⟨bn, a1, a2, a3, rfl⟩ := giv_of (g2' g2 (by simp))
      obtain ⟨bm, c1, c2, c3, rfl⟩ := giv_of (g2' g1 (by simp))
      have m : (b8, (b3, (b4, (w2, (bn, bm))))) ∈ domg := mem_domg (s2 w2 (by simp))
      have h1 := fun s => of_mapR (give3_2 clock (clk3 S.c1 S.c2) (.str late) (.str back) (.str zl) (.bl b6) (.str again) x1 x2 x3 w1 w2 w3 life place a1 a2 a3 c1 c2 c3 .non .non g3 s) _ m
      have h2 := fun s => of_mapR (lgive3_2 clock (clk3 S.c1 S.c2) (.str late) (.str back) (.str zl) (.bl b6) (.str again) x1 x2 x3 w1 w2 w3 life place a1 a2 a3 c1 c2 c3 .non .non g3 s) _ m
      have h3 := fun s => of_mapR (tgive3_2 clock (clk3 S.c1 S.c2) (.str late) (.str back) (.str zl) (.bl b6) (.str again) x1 x2 x3 w1 w2 w3 life place a1 a2 a3 c1 c2 c3 .non .non g3 s) _ m
      simp only at h1 h2 h3
      exact ⟨_, _, ⟨⟨_, _, _, _, _, _, rfl, S.gave (n := 2) row_ok⟩, .inr row_ok, h1, h2, h3⟩⟩
    · obtain ⟨bn, a1, a2, a3, rfl⟩ := giv_of (g2' g3 (by simp))
      obtain ⟨bm, c1, c2, c3, rfl⟩ := giv_of (g2' g2 (by simp))
      have m : (b8, (b3, (b4, (w3, (bn, bm))))) ∈ domg := mem_domg (s2 w3 (by simp))
      have h1 := fun s => of_mapR (give3_3 clock (clk3 S.c1 S.c2) (.str late) (.str back) (.str zl) (.bl b6) (.str again) x1 x2 x3 w1 w2 w3 life place a1 a2 a3 c1 c2 c3 g1 .non .non s) _ m
      have h2 := fun s => of_mapR (lgive3_3 clock (clk3 S.c1 S.c2) (.str late) (.str back) (.str zl) (.bl b6) (.str again) x1 x2 x3 w1 w2 w3 life place a1 a2 a3 c1 c2 c3 g1 .non .non s) _ m
      have h3 := fun s => of_mapR (tgive3_3 clock (clk3 S.c1 S.c2) (.str late) (.str back) (.str zl) (.bl b6) (.str again) x1 x2 x3 w1 w2 w3 life place a1 a2 a3 c1 c2 c3 g1 .non .non s) _ m
      simp only at h1 h2 h3
      exact ⟨_, _, ⟨⟨_, _, _, _, _, _, rfl, S.gave (n := 3) row_ok⟩, .inr row_ok, h1, h2, h3⟩⟩
/-- every event: both say the same -/
theorem turn (K : RuOk p late back zl again) {x : D} (X : Stand p x) {ev : D} (h : evsL p ev) : ∃ x' fl, Turn p (ru p late back b3 b4 zl b6 again b8) x ev x' fl := by
  obtain ⟨clock, sts, su, life, place, gi, rfl, S⟩ := X
  rcases h with rfl | ⟨k, k1, k2, rfl⟩ | ⟨w, hw, rfl⟩ | ⟨a, w, k, ha, hw, k1, k2, rfl⟩
  · exact tOn K S
  · obtain ⟨n, rfl⟩ : ∃ n : Nat, k = (n : Int) := ⟨k.toNat, by omega⟩
    exact tGive K S (by omega) (by omega)
  · exact tTake K S hw
  · obtain ⟨n, rfl⟩ : ∃ n : Nat, k = (n : Int) := ⟨k.toNat, by omega⟩
    rcases ha with rfl | rfl | rfl | rfl
    · exact tClose K S hw (by omega) (by omega)
    · exact tEnter K S hw (by omega) (by omega)
    · exact tMove K S hw (by omega) (by omega)
    · exact tOpen K S hw (by omega) (by omega)
end
end LW

set_option Elab.async false
set_option linter.all false
set_option maxRecDepth 100000
set_option maxHeartbeats 8000000
namespace LW
open PySem PD
def pv : List (Str × List D) := [("periods", [.int 2, .int 3]), ("late", [.str "next", .str "own", .str "refuse"]), ("back", [.str "counter", .str "refuse", .str "strike"]), ("show", [.str "given", .str "now"]), ("carry", [.str "given", .str "now"]), ("seal", [.str "any", .str "chief", .str "two"]), ("order", [.bl false, .bl true]), ("again", [.str "chief", .str "never", .str "void"]), ("early", [.bl false, .bl true])]
theorem pv_all {P : Str → D → Prop} (h : ∀ q ∈ pv.flatMap (fun q => q.2.map fun y => (q.1, y)), P q.1 q.2) : ∀ q ∈ pv, ∀ y ∈ q.2, P q.1 y := fun q hq y hy => h (q.1, y) (List.mem_flatMap.mpr ⟨q, hq, List.mem_map.mpr ⟨y, hy, rfl⟩⟩)
theorem value_ok : ∀ q ∈ pv, ∀ y ∈ q.2, ∀ s : Sto, (f_is_value [.str q.1, y]).at s = .ok (.bl true) s := by
  refine pv_all (P := fun p y => ∀ s : Sto, (f_is_value [.str p, y]).at s = .ok (.bl true) s) (all_mem ?_)
  refine ⟨?_, ?_, ?_, ?_, ?_, ?_, ?_, ?_, ?_, ?_, ?_, ?_, ?_, ?_, ?_, ?_, ?_, ?_, ?_, ?_, ?_, ?_, trivial⟩ <;> (intro s; kernel_rfl)
def ev3 : List D := [.tup [.str "on"], .tup [.str "give", .int 1], .tup [.str "give", .int 2], .tup [.str "give", .int 3], .tup [.str "take", .str "chief"], .tup [.str "take", .str "clerk"], .tup [.str "close", .str "chief", .int 1], .tup [.str "close", .str "chief", .int 2], .tup [.str "close", .str "chief", .int 3], .tup [.str "close", .str "clerk", .int 1], .tup [.str "close", .str "clerk", .int 2], .tup [.str "close", .str "clerk", .int 3], .tup [.str "enter", .str "chief", .int 1], .tup [.str "enter", .str "chief", .int 2], .tup [.str "enter", .str "chief", .int 3], .tup [.str "enter", .str "clerk", .int 1], .tup [.str "enter", .str "clerk", .int 2], .tup [.str "enter", .str "clerk", .int 3], .tup [.str "move", .str "chief", .int 1], .tup [.str "move", .str "chief", .int 2], .tup [.str "move", .str "chief", .int 3], .tup [.str "move", .str "clerk", .int 1], .tup [.str "move", .str "clerk", .int 2], .tup [.str "move", .str "clerk", .int 3], .tup [.str "open", .str "chief", .int 1], .tup [.str "open", .str "chief", .int 2], .tup [.str "open", .str "chief", .int 3], .tup [.str "open", .str "clerk", .int 1], .tup [.str "open", .str "clerk", .int 2], .tup [.str "open", .str "clerk", .int 3]]
theorem ev_mem {p : Int} {d : D} (hp : p ≤ 3) (h : evsL p d) : d ∈ ev3 := by
  have num : ∀ k : Int, 1 ≤ k → k ≤ p → k = 1 ∨ k = 2 ∨ k = 3 := fun k h1 h2 => by omega
  rcases h with rfl | ⟨k, h1, h2, rfl⟩ | ⟨w, hw, rfl⟩ | ⟨a, w, k, ha, hw, h1, h2, rfl⟩
  · simp [ev3]
  · rcases num k h1 h2 with rfl | rfl | rfl <;> simp [ev3]
  · rcases hw with rfl | rfl <;> simp [ev3]
  · rcases num k h1 h2 with rfl | rfl | rfl <;> rcases hw with rfl | rfl <;> rcases ha with rfl | rfl | rfl | rfl <;> simp [ev3]
theorem isev3_ok : ∀ d ∈ ev3, ∀ s : Sto, (f_is_event [.int 3, d]).at s = .ok (.bl true) s := by
  refine all_mem (P := fun d => ∀ s : Sto, (f_is_event [.int 3, d]).at s = .ok (.bl true) s) ?_
  refine ⟨?_, ?_, ?_, ?_, ?_, ?_, ?_, ?_, ?_, ?_, ?_, ?_, ?_, ?_, ?_, ?_, ?_, ?_, ?_, ?_, ?_, ?_, ?_, ?_, ?_, ?_, ?_, ?_, ?_, ?_, trivial⟩ <;> (intro s; kernel_rfl)
def ev2 : List D := [.tup [.str "on"], .tup [.str "give", .int 1], .tup [.str "give", .int 2], .tup [.str "take", .str "chief"], .tup [.str "take", .str "clerk"], .tup [.str "close", .str "chief", .int 1], .tup [.str "close", .str "chief", .int 2], .tup [.str "close", .str "clerk", .int 1], .tup [.str "close", .str "clerk", .int 2], .tup [.str "enter", .str "chief", .int 1], .tup [.str "enter", .str "chief", .int 2], .tup [.str "enter", .str "clerk", .int 1], .tup [.str "enter", .str "clerk", .int 2], .tup [.str "move", .str "chief", .int 1], .tup [.str "move", .str "chief", .int 2], .tup [.str "move", .str "clerk", .int 1], .tup [.str "move", .str "clerk", .int 2], .tup [.str "open", .str "chief", .int 1], .tup [.str "open", .str "chief", .int 2], .tup [.str "open", .str "clerk", .int 1], .tup [.str "open", .str "clerk", .int 2]]
theorem ev_mem2 {d : D} (h : evsL 2 d) : d ∈ ev2 := by
  have num : ∀ k : Int, 1 ≤ k → k ≤ 2 → k = 1 ∨ k = 2 := fun k h1 h2 => by omega
  rcases h with rfl | ⟨k, h1, h2, rfl⟩ | ⟨w, hw, rfl⟩ | ⟨a, w, k, ha, hw, h1, h2, rfl⟩
  · simp [ev2]
  · rcases num k h1 h2 with rfl | rfl <;> simp [ev2]
  · rcases hw with rfl | rfl <;> simp [ev2]
  · rcases num k h1 h2 with rfl | rfl <;> rcases hw with rfl | rfl <;> rcases ha with rfl | rfl | rfl | rfl <;> simp [ev2]
theorem isev2_ok : ∀ d ∈ ev2, ∀ s : Sto, (f_is_event [.int 2, d]).at s = .ok (.bl true) s := by
  refine all_mem (P := fun d => ∀ s : Sto, (f_is_event [.int 2, d]).at s = .ok (.bl true) s) ?_
  refine ⟨?_, ?_, ?_, ?_, ?_, ?_, ?_, ?_, ?_, ?_, ?_, ?_, ?_, ?_, ?_, ?_, ?_, ?_, ?_, ?_, ?_, trivial⟩ <;> (intro s; kernel_rfl)
theorem isev_ok {p : Int} (hp : p = 2 ∨ p = 3) {d : D} (h : evsL p d) (s : Sto) : (f_is_event [.int p, d]).at s = .ok (.bl true) s := by
  rcases hp with rfl | rfl
  · exact isev2_ok d (ev_mem2 h) s
  · exact isev3_ok d (ev_mem (by decide) h) s
theorem trues : ∀ ds : List D, asBools (ds.map fun _ => D.bl true) = some (ds.map fun _ => true)
  | [] => rfl
  | d :: ds => by
    show (asBools (ds.map fun _ => D.bl true)).map (true :: ·) = _
    rw [trues ds]
    rfl

structure His (p : Int) (ds : List D) : Prop where
  hp : p = 2 ∨ p = 3
  ev : ∀ d ∈ ds, evsL p d
  len : (ds.length : Int) ≤ 60
theorem are_ok {p : Int} {ds : List D} (h : His p ds) (s : Sto) : (f_are_events [.int p, .tup ds]).at s = .ok (.bl true) s := by
  have key := lcM_mapS (f := lcB T9 (.nm 2) none (.call "is_event" [.var 0, .var 2]) [some (.val (.int p)), some (.val (.tup ds)), none]) (g := fun _ => .bl true) (s := s) (xs := ds) (fun d hd => by
    have e := isev_ok h.hp (h.ev d hd) s
    simp [↓at_var, ↓at_glob, ↓at_cI, ↓at_cS, ↓at_cB, ↓at_cN, ↓at_tup, ↓at_lst, ↓at_loc, ↓at_dct, ↓at_bin, ↓at_cmp, ↓at_chain, ↓at_and, ↓at_or, ↓at_not, ↓at_ife, ↓at_idx, ↓at_slc, ↓at_neg, ↓at_isi, ↓at_call, ↓at_bif, ↓at_mth, ↓at_lc, ↓at_lc2, ↓at_rng1, ↓at_rng2, ↓at_lrng, ↓at_zip, ↓at_enum, ↓at_nil, ↓at_cons, ↓at_onone, ↓at_osome, ↓at_tnone, ↓at_tsome, ↓at_onil, ↓at_ocons, ↓at_oown, ↓at_asg, ↓at_par, ↓at_cat, ↓at_own, ↓at_frz, ↓at_app, ↓at_set, ↓at_ret, ↓at_retN, ↓at_if, ↓at_for, ↓at_whl, ↓at_exp, ↓at_pass, ↓at_brk, ↓at_cnt, ↓at_snil, ↓at_scons, ↓lcK_ap, ↓lcB_ap, ↓forB_ap, bindOs, idxM_ap, newM_ap, nox_ok, put_loc, ↓noExn_ap, ↓bind_ap, pure_ap, then_ok, ↓tryS_ap, tr_ok, optM_some, chk_true, callM_some, seqK_nx, seqK_rt, endM_rt, endM_nx, ↓itemsM_ap, ↓bndM_ap, ↓mthM_ap, getV, setV, idx_lst, idx_tup, idx_loc, idx_dct, cmp_lt, cmp_le, cmp_gt, cmp_ge, cmp_eq, cmp_ne, cmp_in, cmp_notIn, cmp_isN, cmp_notN, eq_int, eq_str, eq_bl, eq_lst, eq_tup, add_int, sub_int, mul_int, fdiv_int, mod_int, pow_int, add_str, add_lst, add_tup, add_scr, asB_bl, asInt_int, bif_len_l, bif_len_t, bif_tuple_l, bif_tuple_t, bif_list_l, bif_list_t, bif_all, bif_any, bif_int_i, bif_int_b, bif_str_i, bif_str_s, slc_l, slc_t, bnd_n, bnd_i, its_l, its_t, bindT_nm, bindT_tp, isi_bool_non, isi_bool_bl, isi_bool_int, isi_bool_str, isi_bool_tup, isi_bool_lst, isi_int_non, isi_int_bl, isi_int_int, isi_int_str, isi_int_tup, isi_int_lst, isi_str_non, isi_str_bl, isi_str_int, isi_str_str, isi_str_tup, isi_str_lst, isi_tuple_non, isi_tuple_bl, isi_tuple_int, isi_tuple_str, isi_tuple_tup, isi_tuple_lst, isi_list_non, isi_list_bl, isi_list_int, isi_list_str, isi_list_tup, isi_list_lst, ↓lcM_cons, lcM_nil, ↓forM_cons, forM_nil, forK_nx, forK_rt, itemsAll, zipD, asBools, bindTs, enumFrom, lstD, lookL, appM, isOwn, frzM, recvOk, mthD, asStrs, L2.atI, L2.ixN, t_are_events_is_event, e])
  have hl := h.len
  have h60 : ¬ (60 : Int) < (ds.length : Int) := by omega
  have hl2 : ds.length ≤ 16777216 := by omega
  unfold f_are_events
  rw [run_ap T9 2 3 c_are_events.body [.int p, .tup ds] s rfl]
  simp [c_are_events, ↓at_var, ↓at_glob, ↓at_cI, ↓at_cS, ↓at_cB, ↓at_cN, ↓at_tup, ↓at_lst, ↓at_loc, ↓at_dct, ↓at_bin, ↓at_cmp, ↓at_chain, ↓at_and, ↓at_or, ↓at_not, ↓at_ife, ↓at_idx, ↓at_slc, ↓at_neg, ↓at_isi, ↓at_call, ↓at_bif, ↓at_mth, ↓at_lc, ↓at_lc2, ↓at_rng1, ↓at_rng2, ↓at_lrng, ↓at_zip, ↓at_enum, ↓at_nil, ↓at_cons, ↓at_onone, ↓at_osome, ↓at_tnone, ↓at_tsome, ↓at_onil, ↓at_ocons, ↓at_oown, ↓at_asg, ↓at_par, ↓at_cat, ↓at_own, ↓at_frz, ↓at_app, ↓at_set, ↓at_ret, ↓at_retN, ↓at_if, ↓at_for, ↓at_whl, ↓at_exp, ↓at_pass, ↓at_brk, ↓at_cnt, ↓at_snil, ↓at_scons, ↓lcK_ap, ↓lcB_ap, ↓forB_ap, bindOs, idxM_ap, newM_ap, nox_ok, put_loc, ↓noExn_ap, ↓bind_ap, pure_ap, then_ok, ↓tryS_ap, tr_ok, optM_some, chk_true, callM_some, seqK_nx, seqK_rt, endM_rt, endM_nx, ↓itemsM_ap, ↓bndM_ap, ↓mthM_ap, getV, setV, idx_lst, idx_tup, idx_loc, idx_dct, cmp_lt, cmp_le, cmp_gt, cmp_ge, cmp_eq, cmp_ne, cmp_in, cmp_notIn, cmp_isN, cmp_notN, eq_int, eq_str, eq_bl, eq_lst, eq_tup, add_int, sub_int, mul_int, fdiv_int, mod_int, pow_int, add_str, add_lst, add_tup, add_scr, asB_bl, asInt_int, bif_len_l, bif_len_t, bif_tuple_l, bif_tuple_t, bif_list_l, bif_list_t, bif_all, bif_any, bif_int_i, bif_int_b, bif_str_i, bif_str_s, slc_l, slc_t, bnd_n, bnd_i, its_l, its_t, bindT_nm, bindT_tp, isi_bool_non, isi_bool_bl, isi_bool_int, isi_bool_str, isi_bool_tup, isi_bool_lst, isi_int_non, isi_int_bl, isi_int_int, isi_int_str, isi_int_tup, isi_int_lst, isi_str_non, isi_str_bl, isi_str_int, isi_str_str, isi_str_tup, isi_str_lst, isi_tuple_non, isi_tuple_bl, isi_tuple_int, isi_tuple_str, isi_tuple_tup, isi_tuple_lst, isi_list_non, isi_list_bl, isi_list_int, isi_list_str, isi_list_tup, isi_list_lst, ↓lcM_cons, lcM_nil, ↓forM_cons, forM_nil, forK_nx, forK_rt, itemsAll, zipD, asBools, bindTs, enumFrom, lstD, lookL, appM, isOwn, frzM, recvOk, L2.atI, L2.ixN, t_are_events_MOST_EVENTS, key, h60, hl2, trues, line]
theorem needH_ok {p : Int} {ds ys : List D} (h : His p ds) (hy : ys.length = 8) (s : Sto) : (f_need_history [.tup (.int p :: ys), .tup ds]).at s = .ok .non s := by
  unfold f_need_history
  rw [run_ap T10 2 2 c_need_history.body [.tup (.int p :: ys), .tup ds] s rfl]
  simp +decide [c_need_history, ↓at_var, ↓at_glob, ↓at_cI, ↓at_cS, ↓at_cB, ↓at_cN, ↓at_tup, ↓at_lst, ↓at_loc, ↓at_dct, ↓at_bin, ↓at_cmp, ↓at_chain, ↓at_and, ↓at_or, ↓at_not, ↓at_ife, ↓at_idx, ↓at_slc, ↓at_neg, ↓at_isi, ↓at_call, ↓at_bif, ↓at_mth, ↓at_lc, ↓at_lc2, ↓at_rng1, ↓at_rng2, ↓at_lrng, ↓at_zip, ↓at_enum, ↓at_nil, ↓at_cons, ↓at_onone, ↓at_osome, ↓at_tnone, ↓at_tsome, ↓at_onil, ↓at_ocons, ↓at_oown, ↓at_asg, ↓at_par, ↓at_cat, ↓at_own, ↓at_frz, ↓at_app, ↓at_set, ↓at_ret, ↓at_retN, ↓at_if, ↓at_for, ↓at_whl, ↓at_exp, ↓at_pass, ↓at_brk, ↓at_cnt, ↓at_snil, ↓at_scons, ↓lcK_ap, ↓lcB_ap, bindOs, idxM_ap, newM_ap, nox_ok, put_loc, ↓noExn_ap, ↓bind_ap, pure_ap, then_ok, ↓tryS_ap, tr_ok, optM_some, chk_true, callM_some, seqK_nx, seqK_rt, endM_rt, endM_nx, ↓itemsM_ap, ↓bndM_ap, ↓mthM_ap, getV, setV, idx_lst, idx_tup, idx_loc, idx_dct, cmp_lt, cmp_le, cmp_gt, cmp_ge, cmp_eq, cmp_ne, cmp_in, cmp_notIn, cmp_isN, cmp_notN, eq_int, eq_str, eq_bl, add_int, sub_int, mul_int, fdiv_int, mod_int, pow_int, add_str, add_lst, add_tup, add_scr, asB_bl, asInt_int, bif_len_l, bif_len_t, bif_tuple_l, bif_tuple_t, bif_list_l, bif_list_t, bif_all, bif_any, bif_int_i, bif_int_b, bif_str_i, bif_str_s, slc_l, slc_t, bnd_n, bnd_i, its_l, its_t, bindT_nm, bindT_tp, isi_bool_non, isi_bool_bl, isi_bool_int, isi_bool_str, isi_bool_tup, isi_bool_lst, isi_int_non, isi_int_bl, isi_int_int, isi_int_str, isi_int_tup, isi_int_lst, isi_str_non, isi_str_bl, isi_str_int, isi_str_str, isi_str_tup, isi_str_lst, isi_tuple_non, isi_tuple_bl, isi_tuple_int, isi_tuple_str, isi_tuple_tup, isi_tuple_lst, isi_list_non, isi_list_bl, isi_list_int, isi_list_str, isi_list_tup, isi_list_lst, ↓lcM_cons, lcM_nil, forM_nil, forK_nx, forK_rt, itemsAll, asBools, bindTs, enumFrom, lstD, lookL, appM, isOwn, frzM, recvOk, at0, at1, at2, t_need_history_are_events, are_ok h, hy, line]
section
variable {y0 y1 y2 y3 y4 y5 y6 y7 y8 : D}
theorem isRule_ok (m0 : y0 ∈ (([.int 2, .int 3]) : List D)) (m1 : y1 ∈ (([.str "next", .str "own", .str "refuse"]) : List D)) (m2 : y2 ∈ (([.str "counter", .str "refuse", .str "strike"]) : List D)) (m3 : y3 ∈ (([.str "given", .str "now"]) : List D)) (m4 : y4 ∈ (([.str "given", .str "now"]) : List D))
    (m5 : y5 ∈ (([.str "any", .str "chief", .str "two"]) : List D)) (m6 : y6 ∈ (([.bl false, .bl true]) : List D)) (m7 : y7 ∈ (([.str "chief", .str "never", .str "void"]) : List D)) (m8 : y8 ∈ (([.bl false, .bl true]) : List D)) (s : Sto) : (f_is_rule [.tup [y0, y1, y2, y3, y4, y5, y6, y7, y8]]).at s = .ok (.bl true) s := by
  have e0 := value_ok ("periods", [.int 2, .int 3]) (by unfold pv; simp) y0 m0
  have e1 := value_ok ("late", [.str "next", .str "own", .str "refuse"]) (by unfold pv; simp) y1 m1
  have e2 := value_ok ("back", [.str "counter", .str "refuse", .str "strike"]) (by unfold pv; simp) y2 m2
  have e3 := value_ok ("show", [.str "given", .str "now"]) (by unfold pv; simp) y3 m3
  have e4 := value_ok ("carry", [.str "given", .str "now"]) (by unfold pv; simp) y4 m4
  have e5 := value_ok ("seal", [.str "any", .str "chief", .str "two"]) (by unfold pv; simp) y5 m5
  have e6 := value_ok ("order", [.bl false, .bl true]) (by unfold pv; simp) y6 m6
  have e7 := value_ok ("again", [.str "chief", .str "never", .str "void"]) (by unfold pv; simp) y7 m7
  have e8 := value_ok ("early", [.bl false, .bl true]) (by unfold pv; simp) y8 m8
  simp only at e0 e1 e2 e3 e4 e5 e6 e7 e8
  unfold f_is_rule
  rw [run_ap T4 1 3 c_is_rule.body [.tup [y0, y1, y2, y3, y4, y5, y6, y7, y8]] s rfl]
  simp +decide [c_is_rule, ↓at_var, ↓at_glob, ↓at_cI, ↓at_cS, ↓at_cB, ↓at_cN, ↓at_tup, ↓at_lst, ↓at_loc, ↓at_dct, ↓at_bin, ↓at_cmp, ↓at_chain, ↓at_and, ↓at_or, ↓at_not, ↓at_ife, ↓at_idx, ↓at_slc, ↓at_neg, ↓at_isi, ↓at_call, ↓at_bif, ↓at_mth, ↓at_lc, ↓at_lc2, ↓at_rng1, ↓at_rng2, ↓at_lrng, ↓at_zip, ↓at_enum, ↓at_nil, ↓at_cons, ↓at_onone, ↓at_osome, ↓at_tnone, ↓at_tsome, ↓at_onil, ↓at_ocons, ↓at_oown, ↓at_asg, ↓at_par, ↓at_cat, ↓at_own, ↓at_frz, ↓at_app, ↓at_set, ↓at_ret, ↓at_retN, ↓at_if, ↓at_for, ↓at_whl, ↓at_exp, ↓at_pass, ↓at_brk, ↓at_cnt, ↓at_snil, ↓at_scons, ↓lcK_ap, ↓lcB_ap, ↓forB_ap, bindOs, idxM_ap, newM_ap, nox_ok, put_loc, ↓noExn_ap, ↓bind_ap, pure_ap, then_ok, ↓tryS_ap, tr_ok, optM_some, chk_true, callM_some, seqK_nx, seqK_rt, endM_rt, endM_nx, ↓itemsM_ap, ↓bndM_ap, ↓mthM_ap, getV, setV, idx_lst, idx_tup, idx_loc, idx_dct, cmp_lt, cmp_le, cmp_gt, cmp_ge, cmp_eq, cmp_ne, cmp_in, cmp_notIn, cmp_isN, cmp_notN, eq_int, eq_str, eq_bl, eq_lst, eq_tup, add_int, sub_int, mul_int, fdiv_int, mod_int, pow_int, add_str, add_lst, add_tup, add_scr, asB_bl, asInt_int, bif_len_l, bif_len_t, bif_tuple_l, bif_tuple_t, bif_list_l, bif_list_t, bif_all, bif_any, bif_int_i, bif_int_b, bif_str_i, bif_str_s, slc_l, slc_t, bnd_n, bnd_i, its_l, its_t, bindT_nm, bindT_tp, isi_bool_non, isi_bool_bl, isi_bool_int, isi_bool_str, isi_bool_tup, isi_bool_lst, isi_int_non, isi_int_bl, isi_int_int, isi_int_str, isi_int_tup, isi_int_lst, isi_str_non, isi_str_bl, isi_str_int, isi_str_str, isi_str_tup, isi_str_lst, isi_tuple_non, isi_tuple_bl, isi_tuple_int, isi_tuple_str, isi_tuple_tup, isi_tuple_lst, isi_list_non, isi_list_bl, isi_list_int, isi_list_str, isi_list_tup, isi_list_lst, ↓lcM_cons, lcM_nil, ↓forM_cons, forM_nil, forK_nx, forK_rt, itemsAll, zipD, asBools, bindTs, enumFrom, lstD, lookL, appM, isOwn, frzM, recvOk, mthD, asStrs, L2.atI, L2.ixN, t_is_rule_PART_NAMES, t_is_rule_is_value, e0, e1, e2, e3, e4, e5, e6, e7, e8]
end
theorem need_of {d : D} {s : Sto} (h : (f_is_rule [d]).at s = .ok (.bl true) s) : (f_need_rule [d]).at s = .ok .non s := by
  unfold f_need_rule
  rw [run_ap T5 1 1 c_need_rule.body [d] s rfl]
  simp +decide [c_need_rule, ↓at_var, ↓at_glob, ↓at_cI, ↓at_cS, ↓at_cB, ↓at_cN, ↓at_tup, ↓at_lst, ↓at_loc, ↓at_dct, ↓at_bin, ↓at_cmp, ↓at_chain, ↓at_and, ↓at_or, ↓at_not, ↓at_ife, ↓at_idx, ↓at_slc, ↓at_neg, ↓at_isi, ↓at_call, ↓at_bif, ↓at_mth, ↓at_lc, ↓at_lc2, ↓at_rng1, ↓at_rng2, ↓at_lrng, ↓at_zip, ↓at_enum, ↓at_nil, ↓at_cons, ↓at_onone, ↓at_osome, ↓at_tnone, ↓at_tsome, ↓at_onil, ↓at_ocons, ↓at_oown, ↓at_asg, ↓at_par, ↓at_cat, ↓at_own, ↓at_frz, ↓at_app, ↓at_set, ↓at_ret, ↓at_retN, ↓at_if, ↓at_for, ↓at_whl, ↓at_exp, ↓at_pass, ↓at_brk, ↓at_cnt, ↓at_snil, ↓at_scons, ↓lcK_ap, ↓lcB_ap, ↓forB_ap, bindOs, idxM_ap, newM_ap, nox_ok, put_loc, ↓noExn_ap, ↓bind_ap, pure_ap, then_ok, ↓tryS_ap, tr_ok, optM_some, chk_true, callM_some, seqK_nx, seqK_rt, endM_rt, endM_nx, ↓itemsM_ap, ↓bndM_ap, ↓mthM_ap, getV, setV, idx_lst, idx_tup, idx_loc, idx_dct, cmp_lt, cmp_le, cmp_gt, cmp_ge, cmp_eq, cmp_ne, cmp_in, cmp_notIn, cmp_isN, cmp_notN, eq_int, eq_str, eq_bl, eq_lst, eq_tup, add_int, sub_int, mul_int, fdiv_int, mod_int, pow_int, add_str, add_lst, add_tup, add_scr, asB_bl, asInt_int, bif_len_l, bif_len_t, bif_tuple_l, bif_tuple_t, bif_list_l, bif_list_t, bif_all, bif_any, bif_int_i, bif_int_b, bif_str_i, bif_str_s, slc_l, slc_t, bnd_n, bnd_i, its_l, its_t, bindT_nm, bindT_tp, isi_bool_non, isi_bool_bl, isi_bool_int, isi_bool_str, isi_bool_tup, isi_bool_lst, isi_int_non, isi_int_bl, isi_int_int, isi_int_str, isi_int_tup, isi_int_lst, isi_str_non, isi_str_bl, isi_str_int, isi_str_str, isi_str_tup, isi_str_lst, isi_tuple_non, isi_tuple_bl, isi_tuple_int, isi_tuple_str, isi_tuple_tup, isi_tuple_lst, isi_list_non, isi_list_bl, isi_list_int, isi_list_str, isi_list_tup, isi_list_lst, ↓lcM_cons, lcM_nil, ↓forM_cons, forM_nil, forK_nx, forK_rt, itemsAll, zipD, asBools, bindTs, enumFrom, lstD, lookL, appM, isOwn, frzM, recvOk, mthD, asStrs, L2.atI, L2.ixN, t_need_rule_is_rule, h]
theorem str_of {y : D} {l : List Str} (h : y ∈ l.map D.str) : ∃ t ∈ l, y = .str t := by
  obtain ⟨t, ht, rfl⟩ := List.mem_map.mp h
  exact ⟨t, ht, rfl⟩
theorem gvw_of {y : D} (h : y ∈ (([.str "given", .str "now"]) : List D)) : ∃ b, y = .str (gvw b) := by
  simp only [List.mem_cons, List.not_mem_nil, or_false] at h
  rcases h with rfl | rfl
  · exact ⟨true, rfl⟩
  · exact ⟨false, rfl⟩
theorem bl_of' {y : D} (h : y ∈ (([.bl false, .bl true]) : List D)) : ∃ b, y = .bl b := by
  simp only [List.mem_cons, List.not_mem_nil, or_false] at h
  rcases h with rfl | rfl
  · exact ⟨false, rfl⟩
  · exact ⟨true, rfl⟩
/-- a drawn rule -/
theorem ru_of {p : Nat} (hp : p = 2 ∨ p = 3) {d : D} (h : IsRule p d) : ∃ late back b3 b4 zl b6 again b8, d = ru p late back b3 b4 zl b6 again b8 ∧ RuOk p late back zl again ∧ ∀ s, (f_need_rule [d]).at s = .ok .non s := by
  obtain ⟨ys, rfl, a⟩ := h
  unfold valsL at a
  cases a with
  | cons m1 a => cases a with
    | cons m2 a => cases a with
      | cons m3 a => cases a with
        | cons m4 a => cases a with
          | cons m5 a => cases a with
            | cons m6 a => cases a with
              | cons m7 a => cases a with
                | cons m8 a =>
                  cases a
                  have m0 : (D.int (p : Int)) ∈ (([.int 2, .int 3]) : List D) := by rcases hp with rfl | rfl <;> simp
                  have key := isRule_ok m0 m1 m2 m3 m4 m5 m6 m7 m8
                  obtain ⟨late, l1, rfl⟩ := str_of (l := ["next", "own", "refuse"]) m1
                  obtain ⟨back, l2, rfl⟩ := str_of (l := ["counter", "refuse", "strike"]) m2
                  obtain ⟨b3, rfl⟩ := gvw_of m3
                  obtain ⟨b4, rfl⟩ := gvw_of m4
                  obtain ⟨zl, l5, rfl⟩ := str_of (l := ["any", "chief", "two"]) m5
                  obtain ⟨b6, rfl⟩ := bl_of' m6
                  obtain ⟨again, l7, rfl⟩ := str_of (l := ["chief", "never", "void"]) m7
                  obtain ⟨b8, rfl⟩ := bl_of' m8
                  exact ⟨late, back, b3, b4, zl, b6, again, b8, rfl, ⟨hp, l1, l2, l5, l7⟩, fun s => need_of (key s)⟩
/-! ### the stand at first -/
def st0 (p : Nat) : D := mk 1 (List.replicate p "open") (List.replicate p (.int 0)) "new" 0 (List.replicate p .non)
theorem st0_ok {p : Nat} (hp : p = 2 ∨ p = 3) : Stand p (st0 p) := by
  refine ⟨_, _, _, _, _, _, rfl, ⟨by omega, by omega, by simp, fun x hx => ?_, by simp, fun x hx => ?_, by simp, by omega, fun h => ?_, by simp, fun x hx => ?_⟩⟩
  · rw [List.eq_of_mem_replicate hx]
    unfold lvs
    simp
  · rw [List.eq_of_mem_replicate hx]
    exact ⟨0, rfl⟩
  · rcases h with h | h <;> exact absurd h (by decide +kernel)
  · rw [List.eq_of_mem_replicate hx]
    exact .inl rfl
theorem begin_ok {p : Nat} (hp : p = 2 ∨ p = 3) (late back : Str) (b3 b4 : Bool) (zl : Str) (b6 : Bool) (again : Str) (b8 : Bool) (s : Sto) : (f_begin [ru p late back b3 b4 zl b6 again b8]).at s = .ok (st0 p) s ∧ (f_law_new [ru p late back b3 b4 zl b6 again b8]).at s = .ok (st0 p) s := by
  rcases hp with rfl | rfl
  · exact ⟨by kernel_rfl, by kernel_rfl⟩
  · exact ⟨by kernel_rfl, by kernel_rfl⟩
end LW

set_option Elab.async false
set_option linter.all false
set_option maxRecDepth 100000
set_option maxHeartbeats 8000000
namespace LW
open PySem PD
theorem urn_app {s : Sto} {n : Nat} (t : Sto) (u : UrnS s n) : UrnS (s ++ t) n := by
  obtain ⟨a, b, h⟩ := u
  refine ⟨a, b, ⟨?_, h.a0, h.b0, h.b1⟩⟩
  rw [List.getElem?_append_left (List.getElem?_eq_some_iff.mp h.at_).1]
  exact h.at_
theorem urn_set {s : Sto} {n m : Nat} (c : Cell) (hm : m ≠ n) (u : UrnS s n) : UrnS (s.set m c) n := by
  obtain ⟨a, b, h⟩ := u
  refine ⟨a, b, ⟨?_, h.a0, h.b0, h.b1⟩⟩
  rw [List.getElem?_set_ne hm]
  exact h.at_
theorem urn_lt {s : Sto} {n : Nat} (u : UrnS s n) : n < s.length := by
  obtain ⟨a, b, h⟩ := u
  exact (List.getElem?_eq_some_iff.mp h.at_).1
theorem at_end (s : Sto) (c : Cell) : (s ++ [c])[s.length]? = some c := by simp
theorem set_end (s : Sto) (c d : Cell) : (s ++ [c]).set s.length d = s ++ [d] := by simp
/-- what the program's steps say of a history -/
inductive GoS (R : D) : D → List D → List D → D → Prop where
  | nil {x : D} : GoS R x [] [] x
  | cons {x x1 x2 ev fl : D} {evs fls : List D} (h : ∀ s, (f_step [R, x, ev]).at s = .ok (.tup [x1, fl]) s) (r : GoS R x1 evs fls x2) : GoS R x (ev :: evs) (fl :: fls) x2
/-- .. and the law's -/
inductive Go (p : Nat) (R : D) : D → List D → List D → D → Prop where
  | nil {x : D} : Go p R x [] [] x
  | cons {x x1 x2 ev fl : D} {evs fls : List D} (h : Turn p R x ev x1 fl) (r : Go p R x1 evs fls x2) : Go p R x (ev :: evs) (fl :: fls) x2
theorem Go.toS {p : Nat} {R : D} : ∀ {x x2 : D} {evs fls : List D}, Go p R x evs fls x2 → GoS R x evs fls x2
  | _, _, _, _, .nil => .nil
  | _, _, _, _, .cons h r => .cons h.step r.toS
theorem go_of {p : Nat} {late back zl again : Str} {b3 b4 b6 b8 : Bool} (K : RuOk p late back zl again) : ∀ (ds : List D) {x : D}, Stand p x → (∀ d ∈ ds, evsL p d) → ∃ fls x2, Go p (ru p late back b3 b4 zl b6 again b8) x ds fls x2 ∧ Stand p x2 ∧ (∀ f ∈ fls, FlOk f) ∧ fls.length = ds.length
  | [], x, X, _ => ⟨[], x, .nil, X, fun f hf => (by cases hf), rfl⟩
  | d :: ds, x, X, h => by
    obtain ⟨x1, fl, t⟩ := turn (b3 := b3) (b4 := b4) (b6 := b6) (b8 := b8) K X (h d List.mem_cons_self)
    obtain ⟨fls, x2, g, X2, hf, hl⟩ := go_of K ds t.st fun e he => h e (List.mem_cons_of_mem _ he)
    refine ⟨fl :: fls, x2, .cons t g, X2, fun f hm => ?_, by rw [List.length_cons, List.length_cons, hl]⟩
    rcases List.mem_cons.mp hm with rfl | hm
    · exact t.fl_
    · exact hf f hm
def lbody : List Sd := [.asg (.tp [2, 5]) (.call "step" [.var 0, .var 2, .var 4]), .appL 3 (.var 5)]
theorem appLM_ok (ρ : Env') (s : Sto) (xs : List D) (x : D) (h : xs.length ≤ 1000) : (appLM ρ (some (.loc s.length)) x).at (s ++ [.lst xs]) = .ok (.nx, ρ) (s ++ [.lst (xs ++ [x])]) := by
  have e : (appLM ρ (some (.loc s.length)) x).at (s ++ [.lst xs]) = (match (s ++ [Cell.lst xs])[s.length]? with
    | some (.lst ys) => if ys.length < line then .ok (.nx, ρ) ((s ++ [Cell.lst xs]).set s.length (.lst (ys ++ [x]))) else .bad
    | none => .bad) := rfl
  rw [e, at_end]
  show (if xs.length < line then _ else _) = _
  rw [if_pos (by unfold line; omega), set_end]
theorem led_loop {R h : D} : ∀ {x x2 : D} {ds fls : List D}, GoS R x ds fls x2 → ∀ (s : Sto) (xs : List D) (a4 a5 : Option Ov), xs.length + ds.length ≤ 1000 → ∃ b4 b5, (forM' (forB T24 (.nm 4) lbody) ds [some (.val R), some (.val h), some (.val x), some (.val (.loc s.length)), a4, a5]).at (s ++ [.lst xs]) = .ok (.nx, [some (.val R), some (.val h), some (.val x2), some (.val (.loc s.length)), b4, b5]) (s ++ [.lst (xs ++ fls)])
  | _, _, _, _, .nil, s, xs, a4, a5, hl => ⟨a4, a5, by rw [List.append_nil]; rfl⟩
  | x, x2, _, _, .cons (x1 := x1) (ev := ev) (fl := fl) (evs := evs) (fls := fls) hs r, s, xs, a4, a5, hl => by
    rw [List.length_cons] at hl
    have e1 := hs (s ++ [.lst xs])
    have step : (forB T24 (.nm 4) lbody ev [some (.val R), some (.val h), some (.val x), some (.val (.loc s.length)), a4, a5]).at (s ++ [.lst xs]) = .ok (.nx, [some (.val R), some (.val h), some (.val x1), some (.val (.loc s.length)), some (.val ev), some (.val fl)]) (s ++ [.lst (xs ++ [fl])]) := by
      have ha := appLM_ok [some (.val R), some (.val h), some (.val x1), some (.val (.loc s.length)), some (.val ev), some (.val fl)] s xs fl (by omega)
      rw [forB_ap]
      simp +decide [lbody, ↓at_var, ↓at_glob, ↓at_cI, ↓at_cS, ↓at_cB, ↓at_cN, ↓at_tup, ↓at_lst, ↓at_loc, ↓at_dct, ↓at_bin, ↓at_cmp, ↓at_chain, ↓at_and, ↓at_or, ↓at_not, ↓at_ife, ↓at_idx, ↓at_slc, ↓at_neg, ↓at_isi, ↓at_call, ↓at_bif, ↓at_mth, ↓at_lc, ↓at_lc2, ↓at_rng1, ↓at_rng2, ↓at_lrng, ↓at_zip, ↓at_enum, ↓at_nil, ↓at_cons, ↓at_onone, ↓at_osome, ↓at_tnone, ↓at_tsome, ↓at_onil, ↓at_ocons, ↓at_oown, ↓at_asg, ↓at_par, ↓at_cat, ↓at_own, ↓at_frz, ↓at_app, ↓at_set, ↓at_ret, ↓at_retN, ↓at_if, ↓at_for, ↓at_whl, ↓at_exp, ↓at_pass, ↓at_brk, ↓at_cnt, ↓at_snil, ↓at_scons, ↓lcK_ap, ↓lcB_ap, bindOs, idxM_ap, newM_ap, nox_ok, put_loc, ↓noExn_ap, ↓bind_ap, pure_ap, then_ok, ↓tryS_ap, tr_ok, optM_some, chk_true, callM_some, seqK_nx, seqK_rt, endM_rt, endM_nx, ↓itemsM_ap, ↓bndM_ap, ↓mthM_ap, getV, setV, idx_lst, idx_tup, idx_loc, idx_dct, cmp_lt, cmp_le, cmp_gt, cmp_ge, cmp_eq, cmp_ne, cmp_in, cmp_notIn, cmp_isN, cmp_notN, eq_int, eq_str, eq_bl, add_int, sub_int, mul_int, fdiv_int, mod_int, pow_int, add_str, add_lst, add_tup, add_scr, asB_bl, asInt_int, bif_len_l, bif_len_t, bif_tuple_l, bif_tuple_t, bif_list_l, bif_list_t, bif_all, bif_any, bif_int_i, bif_int_b, bif_str_i, bif_str_s, slc_l, slc_t, bnd_n, bnd_i, its_l, its_t, bindT_nm, bindT_tp, isi_bool_non, isi_bool_bl, isi_bool_int, isi_bool_str, isi_bool_tup, isi_bool_lst, isi_int_non, isi_int_bl, isi_int_int, isi_int_str, isi_int_tup, isi_int_lst, isi_str_non, isi_str_bl, isi_str_int, isi_str_str, isi_str_tup, isi_str_lst, isi_tuple_non, isi_tuple_bl, isi_tuple_int, isi_tuple_str, isi_tuple_tup, isi_tuple_lst, isi_list_non, isi_list_bl, isi_list_int, isi_list_str, isi_list_tup, isi_list_lst, ↓lcM_cons, lcM_nil, forM_nil, forK_nx, forK_rt, itemsAll, asBools, bindTs, enumFrom, lstD, lookL, appM, isOwn, frzM, recvOk, at0, at1, at2, t_led_step, e1, ↓at_appL, isLocO, ha]
    obtain ⟨b4, b5, e2⟩ := led_loop r s (xs ++ [fl]) (some (.val ev)) (some (.val fl)) (by rw [List.length_append, List.length_cons, List.length_nil]; omega)
    refine ⟨b4, b5, ?_⟩
    rw [List.append_assoc] at e2
    exact forM_step step e2
theorem led_ok {R x0 x2 : D} {ds fls : List D} (hb : ∀ s, (f_begin [R]).at s = .ok x0 s) (g : GoS R x0 ds fls x2) (hl : ds.length ≤ 100) (s : Sto) : (f_led [R, .tup ds]).at s = .ok (.tup [x2, .loc s.length]) (s ++ [.lst fls]) := by
  obtain ⟨b4, b5, e⟩ := led_loop (h := .tup ds) g s [] none none (by simp; omega)
  rw [List.nil_append] at e
  unfold f_led
  rw [run_ap T24 2 6 c_led.body [R, .tup ds] s rfl]
  unfold lbody at e
  simp [c_led, ↓at_var, ↓at_glob, ↓at_cI, ↓at_cS, ↓at_cB, ↓at_cN, ↓at_tup, ↓at_lst, ↓at_loc, ↓at_dct, ↓at_bin, ↓at_cmp, ↓at_chain, ↓at_and, ↓at_or, ↓at_not, ↓at_ife, ↓at_idx, ↓at_slc, ↓at_neg, ↓at_isi, ↓at_call, ↓at_bif, ↓at_mth, ↓at_lc, ↓at_lc2, ↓at_rng1, ↓at_rng2, ↓at_lrng, ↓at_zip, ↓at_enum, ↓at_nil, ↓at_cons, ↓at_onone, ↓at_osome, ↓at_tnone, ↓at_tsome, ↓at_onil, ↓at_ocons, ↓at_oown, ↓at_asg, ↓at_par, ↓at_cat, ↓at_own, ↓at_frz, ↓at_app, ↓at_set, ↓at_ret, ↓at_retN, ↓at_if, ↓at_for, ↓at_whl, ↓at_exp, ↓at_pass, ↓at_brk, ↓at_cnt, ↓at_snil, ↓at_scons, ↓lcK_ap, ↓lcB_ap, bindOs, idxM_ap, newM_ap, nox_ok, put_loc, ↓noExn_ap, ↓bind_ap, pure_ap, then_ok, ↓tryS_ap, tr_ok, optM_some, chk_true, callM_some, seqK_nx, seqK_rt, endM_rt, endM_nx, ↓itemsM_ap, ↓bndM_ap, ↓mthM_ap, getV, setV, idx_lst, idx_tup, idx_loc, idx_dct, cmp_lt, cmp_le, cmp_gt, cmp_ge, cmp_eq, cmp_ne, cmp_in, cmp_notIn, cmp_isN, cmp_notN, eq_int, eq_str, eq_bl, add_int, sub_int, mul_int, fdiv_int, mod_int, pow_int, add_str, add_lst, add_tup, add_scr, asB_bl, asInt_int, bif_len_l, bif_len_t, bif_tuple_l, bif_tuple_t, bif_list_l, bif_list_t, bif_all, bif_any, bif_int_i, bif_int_b, bif_str_i, bif_str_s, slc_l, slc_t, bnd_n, bnd_i, its_l, its_t, bindT_nm, bindT_tp, isi_bool_non, isi_bool_bl, isi_bool_int, isi_bool_str, isi_bool_tup, isi_bool_lst, isi_int_non, isi_int_bl, isi_int_int, isi_int_str, isi_int_tup, isi_int_lst, isi_str_non, isi_str_bl, isi_str_int, isi_str_str, isi_str_tup, isi_str_lst, isi_tuple_non, isi_tuple_bl, isi_tuple_int, isi_tuple_str, isi_tuple_tup, isi_tuple_lst, isi_list_non, isi_list_bl, isi_list_int, isi_list_str, isi_list_tup, isi_list_lst, ↓lcM_cons, lcM_nil, forM_nil, forK_nx, forK_rt, itemsAll, zipD, asBools, bindTs, enumFrom, lstD, lookL, appM, isOwn, frzM, recvOk, L2.atI, L2.ixN, t_led_begin, hb, e]
theorem told_run {R x0 x2 : D} {ds fls : List D} (hr : ∀ s, (f_need_rule [R]).at s = .ok .non s) (hh : ∀ s, (f_need_history [R, .tup ds]).at s = .ok .non s) (hb : ∀ s, (f_begin [R]).at s = .ok x0 s) (g : GoS R x0 ds fls x2) (hl : ds.length ≤ 100) (s : Sto) :
    (f_told [R, .tup ds]).at s = .ok (.loc s.length) (s ++ [.lst fls]) ∧ (f_stand_behind [R, .tup ds]).at s = .ok x2 (s ++ [.lst fls]) := by
  have e := led_ok hb g hl s
  constructor
  · unfold f_told
    rw [run_ap T25 2 2 c_told.body [R, .tup ds] s rfl]
    simp +decide [c_told, ↓at_var, ↓at_glob, ↓at_cI, ↓at_cS, ↓at_cB, ↓at_cN, ↓at_tup, ↓at_lst, ↓at_loc, ↓at_dct, ↓at_bin, ↓at_cmp, ↓at_chain, ↓at_and, ↓at_or, ↓at_not, ↓at_ife, ↓at_idx, ↓at_slc, ↓at_neg, ↓at_isi, ↓at_call, ↓at_bif, ↓at_mth, ↓at_lc, ↓at_lc2, ↓at_rng1, ↓at_rng2, ↓at_lrng, ↓at_zip, ↓at_enum, ↓at_nil, ↓at_cons, ↓at_onone, ↓at_osome, ↓at_tnone, ↓at_tsome, ↓at_onil, ↓at_ocons, ↓at_oown, ↓at_asg, ↓at_par, ↓at_cat, ↓at_own, ↓at_frz, ↓at_app, ↓at_set, ↓at_ret, ↓at_retN, ↓at_if, ↓at_for, ↓at_whl, ↓at_exp, ↓at_pass, ↓at_brk, ↓at_cnt, ↓at_snil, ↓at_scons, ↓lcK_ap, ↓lcB_ap, bindOs, idxM_ap, newM_ap, nox_ok, put_loc, ↓noExn_ap, ↓bind_ap, pure_ap, then_ok, ↓tryS_ap, tr_ok, optM_some, chk_true, callM_some, seqK_nx, seqK_rt, endM_rt, endM_nx, ↓itemsM_ap, ↓bndM_ap, ↓mthM_ap, getV, setV, idx_lst, idx_tup, idx_loc, idx_dct, cmp_lt, cmp_le, cmp_gt, cmp_ge, cmp_eq, cmp_ne, cmp_in, cmp_notIn, cmp_isN, cmp_notN, eq_int, eq_str, eq_bl, add_int, sub_int, mul_int, fdiv_int, mod_int, pow_int, add_str, add_lst, add_tup, add_scr, asB_bl, asInt_int, bif_len_l, bif_len_t, bif_tuple_l, bif_tuple_t, bif_list_l, bif_list_t, bif_all, bif_any, bif_int_i, bif_int_b, bif_str_i, bif_str_s, slc_l, slc_t, bnd_n, bnd_i, its_l, its_t, bindT_nm, bindT_tp, isi_bool_non, isi_bool_bl, isi_bool_int, isi_bool_str, isi_bool_tup, isi_bool_lst, isi_int_non, isi_int_bl, isi_int_int, isi_int_str, isi_int_tup, isi_int_lst, isi_str_non, isi_str_bl, isi_str_int, isi_str_str, isi_str_tup, isi_str_lst, isi_tuple_non, isi_tuple_bl, isi_tuple_int, isi_tuple_str, isi_tuple_tup, isi_tuple_lst, isi_list_non, isi_list_bl, isi_list_int, isi_list_str, isi_list_tup, isi_list_lst, ↓lcM_cons, lcM_nil, forM_nil, forK_nx, forK_rt, itemsAll, asBools, bindTs, enumFrom, lstD, lookL, appM, isOwn, frzM, recvOk, at0, at1, at2, t_told_need_rule, hr, t_told_need_history, hh, t_told_led, e, line]
  · unfold f_stand_behind
    rw [run_ap T26 2 2 c_stand_behind.body [R, .tup ds] s rfl]
    simp +decide [c_stand_behind, ↓at_var, ↓at_glob, ↓at_cI, ↓at_cS, ↓at_cB, ↓at_cN, ↓at_tup, ↓at_lst, ↓at_loc, ↓at_dct, ↓at_bin, ↓at_cmp, ↓at_chain, ↓at_and, ↓at_or, ↓at_not, ↓at_ife, ↓at_idx, ↓at_slc, ↓at_neg, ↓at_isi, ↓at_call, ↓at_bif, ↓at_mth, ↓at_lc, ↓at_lc2, ↓at_rng1, ↓at_rng2, ↓at_lrng, ↓at_zip, ↓at_enum, ↓at_nil, ↓at_cons, ↓at_onone, ↓at_osome, ↓at_tnone, ↓at_tsome, ↓at_onil, ↓at_ocons, ↓at_oown, ↓at_asg, ↓at_par, ↓at_cat, ↓at_own, ↓at_frz, ↓at_app, ↓at_set, ↓at_ret, ↓at_retN, ↓at_if, ↓at_for, ↓at_whl, ↓at_exp, ↓at_pass, ↓at_brk, ↓at_cnt, ↓at_snil, ↓at_scons, ↓lcK_ap, ↓lcB_ap, bindOs, idxM_ap, newM_ap, nox_ok, put_loc, ↓noExn_ap, ↓bind_ap, pure_ap, then_ok, ↓tryS_ap, tr_ok, optM_some, chk_true, callM_some, seqK_nx, seqK_rt, endM_rt, endM_nx, ↓itemsM_ap, ↓bndM_ap, ↓mthM_ap, getV, setV, idx_lst, idx_tup, idx_loc, idx_dct, cmp_lt, cmp_le, cmp_gt, cmp_ge, cmp_eq, cmp_ne, cmp_in, cmp_notIn, cmp_isN, cmp_notN, eq_int, eq_str, eq_bl, add_int, sub_int, mul_int, fdiv_int, mod_int, pow_int, add_str, add_lst, add_tup, add_scr, asB_bl, asInt_int, bif_len_l, bif_len_t, bif_tuple_l, bif_tuple_t, bif_list_l, bif_list_t, bif_all, bif_any, bif_int_i, bif_int_b, bif_str_i, bif_str_s, slc_l, slc_t, bnd_n, bnd_i, its_l, its_t, bindT_nm, bindT_tp, isi_bool_non, isi_bool_bl, isi_bool_int, isi_bool_str, isi_bool_tup, isi_bool_lst, isi_int_non, isi_int_bl, isi_int_int, isi_int_str, isi_int_tup, isi_int_lst, isi_str_non, isi_str_bl, isi_str_int, isi_str_str, isi_str_tup, isi_str_lst, isi_tuple_non, isi_tuple_bl, isi_tuple_int, isi_tuple_str, isi_tuple_tup, isi_tuple_lst, isi_list_non, isi_list_bl, isi_list_int, isi_list_str, isi_list_tup, isi_list_lst, ↓lcM_cons, lcM_nil, forM_nil, forK_nx, forK_rt, itemsAll, asBools, bindTs, enumFrom, lstD, lookL, appM, isOwn, frzM, recvOk, at0, at1, at2, t_stand_behind_need_rule, hr, t_stand_behind_need_history, hh, t_stand_behind_led, e, line]
/-! ### the law's own walk -/
def wbody : List Sd := [.app 7 (.call "_law_told" [.var 4, .var 6, .var 8]), .asg (.nm 6) (.call "_law_on" [.var 4, .var 6, .var 8])]
theorem law_walk {p : Nat} {R : D} (a0 a1 a2 a3 a5 a9 a10 a11 : Option Ov) : ∀ {x x2 : D} {ds fls : List D}, Go p R x ds fls x2 → ∀ (s : Sto) (xs : List D) (a8 : Option Ov), xs.length + ds.length ≤ 1000 → ∃ b8, (forM' (forB T45 (.nm 8) wbody) ds [a0, a1, a2, a3, some (.val R), a5, some (.val x), some (.own xs), a8, a9, a10, a11]).at s = .ok (.nx, [a0, a1, a2, a3, some (.val R), a5, some (.val x2), some (.own (xs ++ fls)), b8, a9, a10, a11]) s
  | _, _, _, _, .nil, s, xs, a8, hl => ⟨a8, by rw [List.append_nil]; rfl⟩
  | x, x2, _, _, .cons (x1 := x1) (ev := ev) (fl := fl) (evs := evs) (fls := fls) t r, s, xs, a8, hl => by
    rw [List.length_cons] at hl
    have h1 := t.told s
    have h2 := t.on s
    have hx : xs.length < 16777216 := by omega
    have step : (forB T45 (.nm 8) wbody ev [a0, a1, a2, a3, some (.val R), a5, some (.val x), some (.own xs), a8, a9, a10, a11]).at s = .ok (.nx, [a0, a1, a2, a3, some (.val R), a5, some (.val x1), some (.own (xs ++ [fl])), some (.val ev), a9, a10, a11]) s := by
      rw [forB_ap]
      simp +decide [wbody, ↓at_var, ↓at_glob, ↓at_cI, ↓at_cS, ↓at_cB, ↓at_cN, ↓at_tup, ↓at_lst, ↓at_loc, ↓at_dct, ↓at_bin, ↓at_cmp, ↓at_chain, ↓at_and, ↓at_or, ↓at_not, ↓at_ife, ↓at_idx, ↓at_slc, ↓at_neg, ↓at_isi, ↓at_call, ↓at_bif, ↓at_mth, ↓at_lc, ↓at_lc2, ↓at_rng1, ↓at_rng2, ↓at_lrng, ↓at_zip, ↓at_enum, ↓at_nil, ↓at_cons, ↓at_onone, ↓at_osome, ↓at_tnone, ↓at_tsome, ↓at_onil, ↓at_ocons, ↓at_oown, ↓at_asg, ↓at_par, ↓at_cat, ↓at_own, ↓at_frz, ↓at_app, ↓at_set, ↓at_ret, ↓at_retN, ↓at_if, ↓at_for, ↓at_whl, ↓at_exp, ↓at_pass, ↓at_brk, ↓at_cnt, ↓at_snil, ↓at_scons, ↓lcK_ap, ↓lcB_ap, bindOs, idxM_ap, newM_ap, nox_ok, put_loc, ↓noExn_ap, ↓bind_ap, pure_ap, then_ok, ↓tryS_ap, tr_ok, optM_some, chk_true, callM_some, seqK_nx, seqK_rt, endM_rt, endM_nx, ↓itemsM_ap, ↓bndM_ap, ↓mthM_ap, getV, setV, idx_lst, idx_tup, idx_loc, idx_dct, cmp_lt, cmp_le, cmp_gt, cmp_ge, cmp_eq, cmp_ne, cmp_in, cmp_notIn, cmp_isN, cmp_notN, eq_int, eq_str, eq_bl, add_int, sub_int, mul_int, fdiv_int, mod_int, pow_int, add_str, add_lst, add_tup, add_scr, asB_bl, asInt_int, bif_len_l, bif_len_t, bif_tuple_l, bif_tuple_t, bif_list_l, bif_list_t, bif_all, bif_any, bif_int_i, bif_int_b, bif_str_i, bif_str_s, slc_l, slc_t, bnd_n, bnd_i, its_l, its_t, bindT_nm, bindT_tp, isi_bool_non, isi_bool_bl, isi_bool_int, isi_bool_str, isi_bool_tup, isi_bool_lst, isi_int_non, isi_int_bl, isi_int_int, isi_int_str, isi_int_tup, isi_int_lst, isi_str_non, isi_str_bl, isi_str_int, isi_str_str, isi_str_tup, isi_str_lst, isi_tuple_non, isi_tuple_bl, isi_tuple_int, isi_tuple_str, isi_tuple_tup, isi_tuple_lst, isi_list_non, isi_list_bl, isi_list_int, isi_list_str, isi_list_tup, isi_list_lst, ↓lcM_cons, lcM_nil, forM_nil, forK_nx, forK_rt, itemsAll, asBools, bindTs, enumFrom, lstD, lookL, appM, isOwn, frzM, recvOk, at0, at1, at2, t_law_law_told, h1, t_law_law_on, h2, hx, line]
    obtain ⟨b8, e2⟩ := law_walk a0 a1 a2 a3 a5 a9 a10 a11 r s (xs ++ [fl]) (some (.val ev)) (by rw [List.length_append, List.length_cons, List.length_nil]; omega)
    refine ⟨b8, ?_⟩
    rw [List.append_assoc] at e2
    exact forM_step step e2
/-! ### lists of what is told -/
theorem fl_pl {f : D} (h : FlOk f) : Pl 100 1 f := by
  rcases h with ⟨b, rfl⟩ | rfl | ⟨a, b, c, rfl⟩
  · trivial
  · trivial
  · exact ⟨by simp, all_mem ⟨trivial, trivial, trivial, trivial⟩⟩
theorem fls_pl {fls : List D} (h : ∀ f ∈ fls, FlOk f) (hl : fls.length ≤ 100) : Pl 100 2 (.lst fls) := ⟨hl, fun x hx => fl_pl (h x hx)⟩
/-- a shared list that is as another -/
theorem cmpL_same {s : Sto} {n : Nat} {xs : List D} (hs : s[n]? = some (.lst xs)) (h : Pl 100 2 (.lst xs)) : (cmpLM true (.loc n) (.lst xs)).at s = .ok (.bl false) s := by
  have e1 : drfD s (.loc n) = .lst xs := by
    show (match s[n]? with
      | some (Cell.lst xs) => D.lst xs
      | none => D.loc n) = _
    rw [hs]
  have e2 : drfD s (.lst xs) = .lst xs := rfl
  have sh := h.shaped (by omega)
  have se := h.self
  show (if shaped (drfD s (.loc n)) && shaped (drfD s (.lst xs)) then Res.ok (D.bl (if true then !eqv (drfD s (.loc n)) (drfD s (.lst xs)) else eqv (drfD s (.loc n)) (drfD s (.lst xs)))) s else .bad) = _
  rw [e1, e2, sh, se]
  rfl
theorem isL_ok {s : Sto} {n : Nat} {xs : List D} (hs : s[n]? = some (.lst xs)) : (isLM (.loc n)).at s = .ok (.bl true) s := by
  show (match s[n]? with
    | some (.lst _) => Res.ok (D.bl true) s
    | none => .bad) = _
  rw [hs]
theorem appL_at {ρ : Env'} {s : Sto} {n : Nat} {xs : List D} {x : D} (hs : s[n]? = some (.lst xs)) (h : xs.length ≤ 1000) : (appLM ρ (some (.loc n)) x).at s = .ok (.nx, ρ) (s.set n (.lst (xs ++ [x]))) := by
  have e : (appLM ρ (some (.loc n)) x).at s = (match s[n]? with
    | some (.lst ys) => if ys.length < line then .ok (.nx, ρ) (s.set n (.lst (ys ++ [x]))) else .bad
    | none => .bad) := rfl
  rw [e, hs]
  show (if xs.length < line then _ else _) = _
  rw [if_pos (by unfold line; omega)]
end LW

set_option Elab.async false
set_option linter.all false
set_option maxRecDepth 100000
set_option maxHeartbeats 8000000
namespace LW
open PySem PD
theorem lot45 : Lot T45 := ⟨T27, rfl⟩
theorem any30 : Any T30 := ⟨T28, rfl, T27, rfl⟩
theorem vls30 : Vls T30 := ⟨T29, rfl⟩
theorem any31 : Any T31 := ⟨T28, rfl, T27, rfl⟩
theorem lot31 : Lot T31 := ⟨T27, rfl⟩
theorem lot32 : Lot T32 := ⟨T27, rfl⟩
theorem frule_ok {s : Sto} {n : Nat} (u : UrnS s n) (p : Int) : ∃ d s', (f_law_rule [.loc n, .int p]).at s = .ok d s' ∧ IsRule p d ∧ UrnS s' n ∧ s'.length = s.length := rule_ok any30 vls30 u p
theorem fhist_ok {s : Sto} {n : Nat} (u : UrnS s n) {p : Int} (h0 : 0 < p) (h1 : p < 1000) : ∃ ds s', (f_law_history [.loc n, .int p, .int 30]).at s = .ok (.tup ds) s' ∧ (∀ d ∈ ds, evsL p d) ∧ (ds.length : Int) ≤ 30 ∧ UrnS s' n ∧ s'.length = s.length := hist_ok (T := T32) (T1 := T31) rfl any31 lot31 lot32 u h0 h1 (by decide) (by decide)
theorem furn_ok (s : Sto) (c : Int) : ∃ s', (f_law_urn [.int c, .int 9]).at s = .ok (.loc s.length) s' ∧ UrnS s' s.length ∧ s'.length = s.length + 1 := urn_ok T0 s c 9
theorem stand_self {p : Nat} (hp : p ≤ 3) {x : D} (X : Stand p x) : eqD x x = some true := by
  obtain ⟨c, st, su, l, q, g, rfl, S⟩ := X
  exact eq_mk_self hp S
theorem fl_isb {f : D} (h : FlOk f) : ∃ b, isiD .bool f = some b := by
  rcases h with ⟨b, rfl⟩ | rfl | ⟨a, b, c, rfl⟩ <;> exact ⟨_, rfl⟩
theorem rng_at {n : Nat} {x : D} (h : x ∈ rangeD 0 n) : ∃ k : Nat, k < n ∧ x = .int k := by
  unfold rangeD at h
  obtain ⟨k, hk, rfl⟩ := List.mem_map.mp h
  have := List.mem_range.mp hk
  exact ⟨k, by omega, by rw [Int.zero_add]⟩
def cnd : Cd := .cmp .ne (.isi .bool (.idx (.var 9) (.var 11))) (.isi .bool (.idx (.var 7) (.var 11)))
theorem lc_none {s : Sto} {m : Nat} {fls : List D} (hs : s[m]? = some (.lst fls)) (hl : fls.length ≤ 1000) (hf : ∀ f ∈ fls, FlOk f) (a0 a1 a2 a3 a4 a5 a6 a8 a10 a11 : Option Ov) :
    (lcM (lcB T45 (.nm 11) (some cnd) (.var 11) [a0, a1, a2, a3, a4, a5, a6, some (.val (.lst fls)), a8, some (.val (.loc m)), a10, a11]) (rangeD 0 fls.length)).at s = .ok [] s := by
  have key := lcM_filter (f := lcB T45 (.nm 11) (some cnd) (.var 11) [a0, a1, a2, a3, a4, a5, a6, some (.val (.lst fls)), a8, some (.val (.loc m)), a10, a11]) (g := fun _ => false) (s := s) (xs := rangeD 0 fls.length) (fun x hx => by
    obtain ⟨k, hk, rfl⟩ := rng_at hx
    have e1 := at_nat hk
    obtain ⟨b, eb⟩ := fl_isb (hf _ (List.getElem_mem hk))
    have i1 : idxD (.loc m) (.int k) s = some fls[k] := by rw [idx_loc, hs]; exact e1
    have i2 : idxD (.lst fls) (.int k) s = some fls[k] := by
      rw [idx_lst, if_pos (by unfold line; omega)]
      exact e1
    generalize fls[k] = f at *
    simp [cnd, at_cmp, at_isi, at_idx, at_var, at_tsome, lcB_ap, bindT_nm, setV, getV, optM_some, then_ok, bind_ap, pure_ap, idxM_ap, i1, i2, eb, cmp_ne, eq_bl, asB_bl])
  rw [key]
  simp
theorem exs_app {T : Tab} {b : List Sd} : ∀ {a : List Sd} {ρ ρ1 : Env'} {s s1 : Sto}, (exs T a ρ).at s = .ok (.nx, ρ1) s1 → (exs T (a ++ b) ρ).at s = (exs T b ρ1).at s1
  | [], ρ, ρ1, s, s1, h => by
    rw [at_snil] at h
    cases h
    rfl
  | c :: a, ρ, ρ1, s, s1, h => by
    rw [List.cons_append, at_scons]
    rw [at_scons] at h
    cases e : (ex T c ρ).at s with
    | ok pq s2 =>
      rw [e, then_ok] at h
      rw [then_ok]
      obtain ⟨f, ρ2⟩ := pq
      cases f with
      | nx => exact exs_app h
      | _ => cases h
    | exn _ _ => rw [e] at h; cases h
    | bad => rw [e] at h; cases h
theorem eq_nn : eqD (.lst []) (.lst []) = some true := by decide +kernel
def lcx : Cd := .lc (.nm 11) (.rng1 (.bif .len [.var 7])) (some cnd) (.var 11)
def ta3 : List Sd := [.frz 7, .ife (.cmp .ne lcx (.lst [])) [.ret (.cB false)] []]
theorem q1 {ρ : Env'} {s5 : Sto} {fls : List D} (h7 : getV ρ 7 = some (.lst fls)) : (ev T45 (.bif .len [.var 7]) ρ).at s5 = .ok (.int (fls.length : Int)) s5 := by
  rw [at_bif, at_cons, at_var, h7, optM_some, then_ok, bind_ap, at_nil, then_ok, pure_ap, then_ok, bif_len_l, optM_some]
theorem q2 {ρ : Env'} {s5 : Sto} {L : Int} {c : Cd} (h : (ev T45 c ρ).at s5 = .ok (.int L) s5) (ok : okB L = true) : (ev T45 (.rng1 c) ρ).at s5 = .ok (.lst (rangeD 0 L)) s5 := by
  rw [at_rng1, h, then_ok, asInt_int, bind_ap, optM_some, then_ok, ok, chk_true, pure_ap]
theorem q3 {ρ : Env'} {s5 : Sto} {xs : List D} (e2 : (ev T45 (.rng1 (.bif .len [.var 7])) ρ).at s5 = .ok (.lst xs) s5) (rl : decide (xs.length ≤ PD.line) = true)
    (c4 : (lcM (lcB T45 (.nm 11) (some cnd) (.var 11) ρ) xs).at s5 = .ok [] s5) : (ev T45 lcx ρ).at s5 = .ok (.lst []) s5 := by
  unfold lcx
  rw [at_lc, itemsM_ap, e2, then_ok, its_l, optM_some, then_ok, lcK_ap, c4, nox_ok, then_ok, rl, chk_true, pure_ap]
theorem q4 {a0 a1 a2 a3 a4 a5 a6 a8 a9 a10 a11 : Option Ov} {s5 : Sto} {fls : List D} (e1 : (ev T45 lcx [a0, a1, a2, a3, a4, a5, a6, some (.val (.lst fls)), a8, a9, a10, a11]).at s5 = .ok (.lst []) s5) :
    (exs T45 ta3 [a0, a1, a2, a3, a4, a5, a6, some (.val (.lst fls)), a8, a9, a10, a11]).at s5 = .ok (.nx, [a0, a1, a2, a3, a4, a5, a6, some (.val (.lst fls)), a8, a9, a10, a11]) s5 := by
  unfold ta3
  generalize lcx = cc at *
  simp [↓at_var, ↓at_glob, ↓at_cI, ↓at_cS, ↓at_cB, ↓at_cN, ↓at_tup, ↓at_lst, ↓at_loc, ↓at_dct, ↓at_bin, ↓at_cmp, ↓at_chain, ↓at_and, ↓at_or, ↓at_not, ↓at_ife, ↓at_idx, ↓at_slc, ↓at_neg, ↓at_isi, ↓at_call, ↓at_bif, ↓at_mth, ↓at_lc, ↓at_lc2, ↓at_rng1, ↓at_rng2, ↓at_lrng, ↓at_zip, ↓at_enum, ↓at_nil, ↓at_cons, ↓at_onone, ↓at_osome, ↓at_tnone, ↓at_tsome, ↓at_onil, ↓at_ocons, ↓at_oown, ↓at_asg, ↓at_par, ↓at_cat, ↓at_own, ↓at_frz, ↓at_app, ↓at_set, ↓at_ret, ↓at_retN, ↓at_if, ↓at_for, ↓at_whl, ↓at_exp, ↓at_pass, ↓at_brk, ↓at_cnt, ↓at_snil, ↓at_scons, ↓lcK_ap, ↓lcB_ap, bindOs, idxM_ap, newM_ap, nox_ok, put_loc, ↓noExn_ap, ↓bind_ap, pure_ap, then_ok, ↓tryS_ap, tr_ok, optM_some, chk_true, callM_some, seqK_nx, seqK_rt, endM_rt, endM_nx, ↓itemsM_ap, ↓bndM_ap, ↓mthM_ap, getV, setV, idx_lst, idx_tup, idx_loc, idx_dct, cmp_lt, cmp_le, cmp_gt, cmp_ge, cmp_eq, cmp_ne, cmp_in, cmp_notIn, cmp_isN, cmp_notN, eq_int, eq_str, eq_bl, add_int, sub_int, mul_int, fdiv_int, mod_int, pow_int, add_str, add_lst, add_tup, add_scr, asB_bl, asInt_int, bif_len_l, bif_len_t, bif_tuple_l, bif_tuple_t, bif_list_l, bif_list_t, bif_all, bif_any, bif_int_i, bif_int_b, bif_str_i, bif_str_s, slc_l, slc_t, bnd_n, bnd_i, its_l, its_t, bindT_nm, bindT_tp, isi_bool_non, isi_bool_bl, isi_bool_int, isi_bool_str, isi_bool_tup, isi_bool_lst, isi_int_non, isi_int_bl, isi_int_int, isi_int_str, isi_int_tup, isi_int_lst, isi_str_non, isi_str_bl, isi_str_int, isi_str_str, isi_str_tup, isi_str_lst, isi_tuple_non, isi_tuple_bl, isi_tuple_int, isi_tuple_str, isi_tuple_tup, isi_tuple_lst, isi_list_non, isi_list_bl, isi_list_int, isi_list_str, isi_list_tup, isi_list_lst, ↓lcM_cons, lcM_nil, forM_nil, forK_nx, forK_rt, itemsAll, zipD, asBools, bindTs, enumFrom, lstD, lookL, appM, isOwn, frzM, recvOk, L2.atI, L2.ixN, e1, eq_nn]
def ta1 : List Sd := [.asg (.nm 4) (.call "_law_rule" [.var 2, .bin .add (.cI 2) (.call "_law_lot" [.var 2, .cI 2])]), .par [5, 6, 7] [false, false, true] [.call "_law_history" [.var 2, .idx (.var 4) (.cI 0), .cI 30], .call "_law_new" [.var 4], .lst []], .ife (.cmp .ne (.call "first_stand" [.var 4]) (.var 6)) [.ret (.cB false)] []]
def ta2 : List Sd := [.for_ (.nm 8) (.var 5) wbody, .asg (.nm 9) (.call "told" [.var 4, .var 5]), .frz 7, .ife (.or (.cmp .ne (.call "stand_behind" [.var 4, .var 5]) (.var 6)) (.or (.cmpL true (.var 9) (.var 7)) (.not (.isL (.var 9))))) [.ret (.cB false)] []]
def ta4 : List Sd := [.appL 9 .cN, .frz 7, .ife (.cmpL true (.call "told" [.var 4, .var 5]) (.var 7)) [.ret (.cB false)] []]
def ta : List Sd := ta1 ++ (ta2 ++ (ta3 ++ ta4))
theorem part1 {a0 a1 a10 a5 a6 a7 a8 a9 a11 : Option Ov} {x a4 : Option Ov} {n p : Nat} {r : Int} {s s1 s2 s3 : Sto} {f : List D → M D} {R x0 : D} {ds : List D} (e0 : T45.fn "_law_lot" = some f) (e1 : (f [.loc n, .int 2]).at s = .ok (.int r) s1) (hpe : 2 + r = (p : Int))
    (e2 : (f_law_rule [.loc n, .int p]).at s1 = .ok R s2) (hR : ∀ s, idxD R (.int 0) s = some (.int p)) (e3 : (f_law_history [.loc n, .int p, .int 30]).at s2 = .ok (.tup ds) s3) (bn : ∀ s, (f_law_new [R]).at s = .ok x0 s) (fs : ∀ s, (f_first_stand [R]).at s = .ok x0 s) (q0 : eqD x0 x0 = some true) :
    (exs T45 ta1 [a0, a1, some (.val (.loc n)), x, a4, a5, a6, a7, a8, a9, a10, a11]).at s = .ok (.nx, [a0, a1, some (.val (.loc n)), x, some (.val R), some (.val (.tup ds)), some (.val x0), some (.own []), a8, a9, a10, a11]) s3 := by
  unfold ta1
  simp [↓at_var, ↓at_glob, ↓at_cI, ↓at_cS, ↓at_cB, ↓at_cN, ↓at_tup, ↓at_lst, ↓at_loc, ↓at_dct, ↓at_bin, ↓at_cmp, ↓at_chain, ↓at_and, ↓at_or, ↓at_not, ↓at_ife, ↓at_idx, ↓at_slc, ↓at_neg, ↓at_isi, ↓at_call, ↓at_bif, ↓at_mth, ↓at_lc, ↓at_lc2, ↓at_rng1, ↓at_rng2, ↓at_lrng, ↓at_zip, ↓at_enum, ↓at_nil, ↓at_cons, ↓at_onone, ↓at_osome, ↓at_tnone, ↓at_tsome, ↓at_onil, ↓at_ocons, ↓at_oown, ↓at_asg, ↓at_par, ↓at_cat, ↓at_own, ↓at_frz, ↓at_app, ↓at_set, ↓at_ret, ↓at_retN, ↓at_if, ↓at_for, ↓at_whl, ↓at_exp, ↓at_pass, ↓at_brk, ↓at_cnt, ↓at_snil, ↓at_scons, ↓lcK_ap, ↓lcB_ap, bindOs, idxM_ap, newM_ap, nox_ok, put_loc, ↓noExn_ap, ↓bind_ap, pure_ap, then_ok, ↓tryS_ap, tr_ok, optM_some, chk_true, callM_some, seqK_nx, seqK_rt, endM_rt, endM_nx, ↓itemsM_ap, ↓bndM_ap, ↓mthM_ap, getV, setV, idx_lst, idx_tup, idx_loc, idx_dct, cmp_lt, cmp_le, cmp_gt, cmp_ge, cmp_eq, cmp_ne, cmp_in, cmp_notIn, cmp_isN, cmp_notN, eq_int, eq_str, eq_bl, add_int, sub_int, mul_int, fdiv_int, mod_int, pow_int, add_str, add_lst, add_tup, add_scr, asB_bl, asInt_int, bif_len_l, bif_len_t, bif_tuple_l, bif_tuple_t, bif_list_l, bif_list_t, bif_all, bif_any, bif_int_i, bif_int_b, bif_str_i, bif_str_s, slc_l, slc_t, bnd_n, bnd_i, its_l, its_t, bindT_nm, bindT_tp, isi_bool_non, isi_bool_bl, isi_bool_int, isi_bool_str, isi_bool_tup, isi_bool_lst, isi_int_non, isi_int_bl, isi_int_int, isi_int_str, isi_int_tup, isi_int_lst, isi_str_non, isi_str_bl, isi_str_int, isi_str_str, isi_str_tup, isi_str_lst, isi_tuple_non, isi_tuple_bl, isi_tuple_int, isi_tuple_str, isi_tuple_tup, isi_tuple_lst, isi_list_non, isi_list_bl, isi_list_int, isi_list_str, isi_list_tup, isi_list_lst, ↓lcM_cons, lcM_nil, forM_nil, forK_nx, forK_rt, itemsAll, zipD, asBools, bindTs, enumFrom, lstD, lookL, appM, isOwn, frzM, recvOk, L2.atI, L2.ixN, e0, e1, hpe, t_law_law_rule, e2, hR, t_law_law_history, e3, t_law_law_new, bn, t_law_first_stand, fs, q0]
theorem part2 {a0 a1 a2 a3 a10 a8 w8 a9 a11 : Option Ov} {m : Nat} {s3 s4 s5 : Sto} {R x0 x2 : D} {ds fls : List D}
    (wk : (forM' (forB T45 (.nm 8) wbody) ds [a0, a1, a2, a3, some (.val R), some (.val (.tup ds)), some (.val x0), some (.own []), a8, a9, a10, a11]).at s3 = .ok (.nx, [a0, a1, a2, a3, some (.val R), some (.val (.tup ds)), some (.val x2), some (.own fls), w8, a9, a10, a11]) s3)
    (t1 : (f_told [R, .tup ds]).at s3 = .ok (.loc m) s4) (t2 : (f_stand_behind [R, .tup ds]).at s4 = .ok x2 s5) (q2 : eqD x2 x2 = some true) (c2 : (cmpLM true (.loc m) (.lst fls)).at s5 = .ok (.bl false) s5) (c3 : (isLM (.loc m)).at s5 = .ok (.bl true) s5) :
    (exs T45 ta2 [a0, a1, a2, a3, some (.val R), some (.val (.tup ds)), some (.val x0), some (.own []), a8, a9, a10, a11]).at s3 = .ok (.nx, [a0, a1, a2, a3, some (.val R), some (.val (.tup ds)), some (.val x2), some (.val (.lst fls)), w8, some (.val (.loc m)), a10, a11]) s5 := by
  unfold ta2
  generalize wbody = wb at *
  simp [↓at_var, ↓at_glob, ↓at_cI, ↓at_cS, ↓at_cB, ↓at_cN, ↓at_tup, ↓at_lst, ↓at_loc, ↓at_dct, ↓at_bin, ↓at_cmp, ↓at_chain, ↓at_and, ↓at_or, ↓at_not, ↓at_ife, ↓at_idx, ↓at_slc, ↓at_neg, ↓at_isi, ↓at_call, ↓at_bif, ↓at_mth, ↓at_lc, ↓at_lc2, ↓at_rng1, ↓at_rng2, ↓at_lrng, ↓at_zip, ↓at_enum, ↓at_nil, ↓at_cons, ↓at_onone, ↓at_osome, ↓at_tnone, ↓at_tsome, ↓at_onil, ↓at_ocons, ↓at_oown, ↓at_asg, ↓at_par, ↓at_cat, ↓at_own, ↓at_frz, ↓at_app, ↓at_set, ↓at_ret, ↓at_retN, ↓at_if, ↓at_for, ↓at_whl, ↓at_exp, ↓at_pass, ↓at_brk, ↓at_cnt, ↓at_snil, ↓at_scons, ↓lcK_ap, ↓lcB_ap, bindOs, idxM_ap, newM_ap, nox_ok, put_loc, ↓noExn_ap, ↓bind_ap, pure_ap, then_ok, ↓tryS_ap, tr_ok, optM_some, chk_true, callM_some, seqK_nx, seqK_rt, endM_rt, endM_nx, ↓itemsM_ap, ↓bndM_ap, ↓mthM_ap, getV, setV, idx_lst, idx_tup, idx_loc, idx_dct, cmp_lt, cmp_le, cmp_gt, cmp_ge, cmp_eq, cmp_ne, cmp_in, cmp_notIn, cmp_isN, cmp_notN, eq_int, eq_str, eq_bl, add_int, sub_int, mul_int, fdiv_int, mod_int, pow_int, add_str, add_lst, add_tup, add_scr, asB_bl, asInt_int, bif_len_l, bif_len_t, bif_tuple_l, bif_tuple_t, bif_list_l, bif_list_t, bif_all, bif_any, bif_int_i, bif_int_b, bif_str_i, bif_str_s, slc_l, slc_t, bnd_n, bnd_i, its_l, its_t, bindT_nm, bindT_tp, isi_bool_non, isi_bool_bl, isi_bool_int, isi_bool_str, isi_bool_tup, isi_bool_lst, isi_int_non, isi_int_bl, isi_int_int, isi_int_str, isi_int_tup, isi_int_lst, isi_str_non, isi_str_bl, isi_str_int, isi_str_str, isi_str_tup, isi_str_lst, isi_tuple_non, isi_tuple_bl, isi_tuple_int, isi_tuple_str, isi_tuple_tup, isi_tuple_lst, isi_list_non, isi_list_bl, isi_list_int, isi_list_str, isi_list_tup, isi_list_lst, ↓lcM_cons, lcM_nil, forM_nil, forK_nx, forK_rt, itemsAll, zipD, asBools, bindTs, enumFrom, lstD, lookL, appM, isOwn, frzM, recvOk, L2.atI, L2.ixN, wk, t_law_told, t1, t_law_stand_behind, t2, q2, ↓at_cmpL, c2, ↓at_isL, c3]
theorem part3 {a0 a1 a2 a3 a4 a5 a6 a8 a10 a11 : Option Ov} {m : Nat} {s5 : Sto} {fls : List D} (ok : okB (fls.length : Int) = true) (rl : decide ((rangeD 0 (fls.length : Int)).length ≤ PD.line) = true)
    (c4 : (lcM (lcB T45 (.nm 11) (some cnd) (.var 11) [a0, a1, a2, a3, a4, a5, a6, some (.val (.lst fls)), a8, some (.val (.loc m)), a10, a11]) (rangeD 0 fls.length)).at s5 = .ok [] s5) :
    (exs T45 ta3 [a0, a1, a2, a3, a4, a5, a6, some (.val (.lst fls)), a8, some (.val (.loc m)), a10, a11]).at s5 = .ok (.nx, [a0, a1, a2, a3, a4, a5, a6, some (.val (.lst fls)), a8, some (.val (.loc m)), a10, a11]) s5 := q4 (q3 (q2 (q1 rfl) ok) rl c4)
theorem part4 {a0 a1 a2 a3 a6 a8 a10 a11 : Option Ov} {m k : Nat} {s5 s6 s7 : Sto} {R : D} {ds fls : List D} (c5 : ∀ ρ, (appLM ρ (some (.loc m)) .non).at s5 = .ok (.nx, ρ) s6) (t3 : (f_told [R, .tup ds]).at s6 = .ok (.loc k) s7) (c6 : (cmpLM true (.loc k) (.lst fls)).at s7 = .ok (.bl false) s7) :
    (exs T45 ta4 [a0, a1, a2, a3, some (.val R), some (.val (.tup ds)), a6, some (.val (.lst fls)), a8, some (.val (.loc m)), a10, a11]).at s5 = .ok (.nx, [a0, a1, a2, a3, some (.val R), some (.val (.tup ds)), a6, some (.val (.lst fls)), a8, some (.val (.loc m)), a10, a11]) s7 := by
  unfold ta4
  simp [↓at_var, ↓at_glob, ↓at_cI, ↓at_cS, ↓at_cB, ↓at_cN, ↓at_tup, ↓at_lst, ↓at_loc, ↓at_dct, ↓at_bin, ↓at_cmp, ↓at_chain, ↓at_and, ↓at_or, ↓at_not, ↓at_ife, ↓at_idx, ↓at_slc, ↓at_neg, ↓at_isi, ↓at_call, ↓at_bif, ↓at_mth, ↓at_lc, ↓at_lc2, ↓at_rng1, ↓at_rng2, ↓at_lrng, ↓at_zip, ↓at_enum, ↓at_nil, ↓at_cons, ↓at_onone, ↓at_osome, ↓at_tnone, ↓at_tsome, ↓at_onil, ↓at_ocons, ↓at_oown, ↓at_asg, ↓at_par, ↓at_cat, ↓at_own, ↓at_frz, ↓at_app, ↓at_set, ↓at_ret, ↓at_retN, ↓at_if, ↓at_for, ↓at_whl, ↓at_exp, ↓at_pass, ↓at_brk, ↓at_cnt, ↓at_snil, ↓at_scons, ↓lcK_ap, ↓lcB_ap, bindOs, idxM_ap, newM_ap, nox_ok, put_loc, ↓noExn_ap, ↓bind_ap, pure_ap, then_ok, ↓tryS_ap, tr_ok, optM_some, chk_true, callM_some, seqK_nx, seqK_rt, endM_rt, endM_nx, ↓itemsM_ap, ↓bndM_ap, ↓mthM_ap, getV, setV, idx_lst, idx_tup, idx_loc, idx_dct, cmp_lt, cmp_le, cmp_gt, cmp_ge, cmp_eq, cmp_ne, cmp_in, cmp_notIn, cmp_isN, cmp_notN, eq_int, eq_str, eq_bl, add_int, sub_int, mul_int, fdiv_int, mod_int, pow_int, add_str, add_lst, add_tup, add_scr, asB_bl, asInt_int, bif_len_l, bif_len_t, bif_tuple_l, bif_tuple_t, bif_list_l, bif_list_t, bif_all, bif_any, bif_int_i, bif_int_b, bif_str_i, bif_str_s, slc_l, slc_t, bnd_n, bnd_i, its_l, its_t, bindT_nm, bindT_tp, isi_bool_non, isi_bool_bl, isi_bool_int, isi_bool_str, isi_bool_tup, isi_bool_lst, isi_int_non, isi_int_bl, isi_int_int, isi_int_str, isi_int_tup, isi_int_lst, isi_str_non, isi_str_bl, isi_str_int, isi_str_str, isi_str_tup, isi_str_lst, isi_tuple_non, isi_tuple_bl, isi_tuple_int, isi_tuple_str, isi_tuple_tup, isi_tuple_lst, isi_list_non, isi_list_bl, isi_list_int, isi_list_str, isi_list_tup, isi_list_lst, ↓lcM_cons, lcM_nil, forM_nil, forK_nx, forK_rt, itemsAll, zipD, asBools, bindTs, enumFrom, lstD, lookL, appM, isOwn, frzM, recvOk, L2.atI, L2.ixN, ↓at_appL, isLocO, c5, t_law_told, t3, ↓at_cmpL, c6]
theorem turn_ok (a0 a1 a10 : Option Ov) {n : Nat} {s : Sto} (u : UrnS s n) (x : D) (a3 a4 a5 a6 a7 a8 a9 a11 : Option Ov) : ∃ b3 b4 b5 b6 b7 b8 b9 b11 s', (forB T45 (.nm 3) ta x [a0, a1, some (.val (.loc n)), a3, a4, a5, a6, a7, a8, a9, a10, a11]).at s = .ok (.nx, [a0, a1, some (.val (.loc n)), b3, b4, b5, b6, b7, b8, b9, a10, b11]) s' ∧ UrnS s' n ∧
    ∃ (p : Nat) (R : D), (p = 2 ∨ p = 3) ∧ b4 = some (.val R) ∧ IsRule p R := by
  obtain ⟨f, e0, r, s1, e1, r0, r1, u1, _⟩ := lot45.draw u (m := 2) (by decide) (by decide)
  obtain ⟨p, hpe⟩ : ∃ p : Nat, 2 + r = (p : Int) := ⟨(2 + r).toNat, by omega⟩
  have hp : p = 2 ∨ p = 3 := by omega
  obtain ⟨R, s2, e2, isr, u2, _⟩ := frule_ok u1 (2 + r)
  rw [hpe] at e2 isr
  obtain ⟨ds, s3, e3, hev, hlen, u3, _⟩ := fhist_ok u2 (p := p) (by omega) (by omega)
  obtain ⟨late, back, b3, b4, zl, b6, again, b8, eR, K, nr⟩ := ru_of hp isr
  have bo := fun s => begin_ok hp late back b3 b4 zl b6 again b8 s
  obtain ⟨fls, x2, g, X2, hf, hfl⟩ := go_of (b3 := b3) (b4 := b4) (b6 := b6) (b8 := b8) K ds (st0_ok hp) hev
  rw [← eR] at bo g
  have hR : ∀ s, idxD R (.int 0) s = some (.int p) := fun s => by rw [eR]; rfl
  have hh : ∀ s, (f_need_history [R, .tup ds]).at s = .ok .non s := fun s => by
    rw [eR]
    exact needH_ok ⟨by omega, hev, by omega⟩ rfl s
  have tr := told_run nr hh (fun s => (bo s).1) g.toS (by omega)
  have fs : ∀ s, (f_first_stand [R]).at s = .ok (st0 p) s := fun s => by
    unfold f_first_stand
    rw [run_ap T34 1 1 c_first_stand.body [R] s rfl]
    simp [c_first_stand, ↓at_var, ↓at_glob, ↓at_cI, ↓at_cS, ↓at_cB, ↓at_cN, ↓at_tup, ↓at_lst, ↓at_loc, ↓at_dct, ↓at_bin, ↓at_cmp, ↓at_chain, ↓at_and, ↓at_or, ↓at_not, ↓at_ife, ↓at_idx, ↓at_slc, ↓at_neg, ↓at_isi, ↓at_call, ↓at_bif, ↓at_mth, ↓at_lc, ↓at_lc2, ↓at_rng1, ↓at_rng2, ↓at_lrng, ↓at_zip, ↓at_enum, ↓at_nil, ↓at_cons, ↓at_onone, ↓at_osome, ↓at_tnone, ↓at_tsome, ↓at_onil, ↓at_ocons, ↓at_oown, ↓at_asg, ↓at_par, ↓at_cat, ↓at_own, ↓at_frz, ↓at_app, ↓at_set, ↓at_ret, ↓at_retN, ↓at_if, ↓at_for, ↓at_whl, ↓at_exp, ↓at_pass, ↓at_brk, ↓at_cnt, ↓at_snil, ↓at_scons, ↓lcK_ap, ↓lcB_ap, bindOs, idxM_ap, newM_ap, nox_ok, put_loc, ↓noExn_ap, ↓bind_ap, pure_ap, then_ok, ↓tryS_ap, tr_ok, optM_some, chk_true, callM_some, seqK_nx, seqK_rt, endM_rt, endM_nx, ↓itemsM_ap, ↓bndM_ap, ↓mthM_ap, getV, setV, idx_lst, idx_tup, idx_loc, idx_dct, cmp_lt, cmp_le, cmp_gt, cmp_ge, cmp_eq, cmp_ne, cmp_in, cmp_notIn, cmp_isN, cmp_notN, eq_int, eq_str, eq_bl, add_int, sub_int, mul_int, fdiv_int, mod_int, pow_int, add_str, add_lst, add_tup, add_scr, asB_bl, asInt_int, bif_len_l, bif_len_t, bif_tuple_l, bif_tuple_t, bif_list_l, bif_list_t, bif_all, bif_any, bif_int_i, bif_int_b, bif_str_i, bif_str_s, slc_l, slc_t, bnd_n, bnd_i, its_l, its_t, bindT_nm, bindT_tp, isi_bool_non, isi_bool_bl, isi_bool_int, isi_bool_str, isi_bool_tup, isi_bool_lst, isi_int_non, isi_int_bl, isi_int_int, isi_int_str, isi_int_tup, isi_int_lst, isi_str_non, isi_str_bl, isi_str_int, isi_str_str, isi_str_tup, isi_str_lst, isi_tuple_non, isi_tuple_bl, isi_tuple_int, isi_tuple_str, isi_tuple_tup, isi_tuple_lst, isi_list_non, isi_list_bl, isi_list_int, isi_list_str, isi_list_tup, isi_list_lst, ↓lcM_cons, lcM_nil, forM_nil, forK_nx, forK_rt, itemsAll, zipD, asBools, bindTs, enumFrom, lstD, lookL, appM, isOwn, frzM, recvOk, L2.atI, L2.ixN, t_first_stand_need_rule, nr, t_first_stand_begin, (bo s).1]
  have q0 := stand_self (by omega) (st0_ok hp)
  have q2 := stand_self (by omega) X2
  have bn := fun s => (bo s).2
  clear bo K eR
  generalize st0 p = x0 at *
  have hl1 : fls.length ≤ 30 := by omega
  have fp := fls_pl hf (by omega)
  -- the store behind the calls
  have c1 : ((s3 ++ [Cell.lst fls]) ++ [Cell.lst fls])[s3.length]? = some (.lst fls) := by simp
  have c2 := cmpL_same c1 fp
  have c3 := isL_ok c1
  have c4 := lc_none c1 (by omega) hf a0 a1 (some (.val (.loc n))) (some (.val x)) (some (.val R)) (some (.val (.tup ds))) (some (.val x2))
  have c5 := fun ρ => appL_at (ρ := ρ) (x := .non) c1 (by omega)
  have t1 := (tr s3).1
  have t2 := (tr (s3 ++ [.lst fls])).2
  generalize hs6 : ((s3 ++ [Cell.lst fls]) ++ [Cell.lst fls]).set s3.length (.lst (fls ++ [.non])) = s6 at *
  have t3 := (tr s6).1
  have c6 := cmpL_same (at_end s6 (.lst fls)) fp
  have u7 : UrnS (s6 ++ [.lst fls]) n := by
    refine urn_app _ ?_
    rw [← hs6]
    exact urn_set _ (by have := urn_lt u3; omega) (urn_app _ (urn_app _ u3))
  obtain ⟨w8, wk⟩ := law_walk a0 a1 (some (.val (.loc n))) (some (.val x)) (some (.val (.tup ds))) a9 a10 a11 g s3 [] a8 (by simp; omega)
  rw [List.nil_append] at wk
  have c4' := c4 w8 a10 a11
  have ok : okB (fls.length : Int) = true := by
    unfold okB
    simp only [Bool.and_eq_true, decide_eq_true_eq]
    omega
  have rl : decide ((rangeD 0 (fls.length : Int)).length ≤ PD.line) = true := by
    have e9 : (rangeD 0 (fls.length : Int)).length = fls.length := by simp [rangeD]
    rw [e9]
    exact decide_eq_true (by unfold PD.line; omega)
  refine ⟨some (.val x), some (.val R), some (.val (.tup ds)), some (.val x2), some (.val (.lst fls)), w8, some (.val (.loc s3.length)), a11, s6 ++ [.lst fls], ?_, u7, p, R, hp, rfl, isr⟩
  have p1 := part1 (a0 := a0) (a1 := a1) (a10 := a10) (a5 := a5) (a6 := a6) (a7 := a7) (a8 := a8) (a9 := a9) (a11 := a11) (x := some (.val x)) (a4 := a4) e0 e1 hpe e2 hR e3 bn fs q0
  have p2 := part2 wk t1 t2 q2 c2 c3
  have p3 := part3 ok rl c4'
  have p4 := part4 (a0 := a0) (a1 := a1) (a2 := some (.val (.loc n))) (a3 := some (.val x)) (a6 := some (.val x2)) (a8 := w8) (a10 := a10) (a11 := a11) c5 t3 c6
  rw [forB_ap]
  show (exs T45 ta [a0, a1, some (.val (.loc n)), some (.val x), a4, a5, a6, a7, a8, a9, a10, a11]).at s = _
  unfold ta
  rw [exs_app p1, exs_app p2, exs_app p3, p4]
end LW

set_option Elab.async false
set_option linter.all false
set_option maxRecDepth 100000
set_option maxHeartbeats 8000000
namespace LW
open PySem PD
def RuSlot (o : Option Ov) : Prop := ∃ (p : Nat) (R : D), (p = 2 ∨ p = 3) ∧ o = some (.val R) ∧ IsRule p R
theorem turns (a0 a1 a10 : Option Ov) {n : Nat} : ∀ (xs : List D) {s : Sto} (_ : UrnS s n) (a3 a4 a5 a6 a7 a8 a9 a11 : Option Ov), ∃ b3 b4 b5 b6 b7 b8 b9 b11 s', (forM' (forB T45 (.nm 3) ta) xs [a0, a1, some (.val (.loc n)), a3, a4, a5, a6, a7, a8, a9, a10, a11]).at s = .ok (.nx, [a0, a1, some (.val (.loc n)), b3, b4, b5, b6, b7, b8, b9, a10, b11]) s' ∧ UrnS s' n ∧ (RuSlot a4 ∨ xs ≠ [] → RuSlot b4)
  | [], s, u, a3, a4, a5, a6, a7, a8, a9, a11 => ⟨a3, a4, a5, a6, a7, a8, a9, a11, s, rfl, u, fun h => h.resolve_right fun q => q rfl⟩
  | x :: xs, s, u, a3, a4, a5, a6, a7, a8, a9, a11 => by
    obtain ⟨b3, b4, b5, b6, b7, b8, b9, b11, s1, e1, u1, h1⟩ := turn_ok a0 a1 a10 u x a3 a4 a5 a6 a7 a8 a9 a11
    obtain ⟨c3, c4, c5, c6, c7, c8, c9, c11, s2, e2, u2, h2⟩ := turns a0 a1 a10 xs u1 b3 b4 b5 b6 b7 b8 b9 b11
    exact ⟨c3, c4, c5, c6, c7, c8, c9, c11, s2, forM_step e1 e2, u2, fun _ => h2 (.inl h1)⟩
/-! ### what is refused -/
def odds : List D := [.non, .lst [], .tup [.tup [.str "give", .int 0]], .tup [.str "on"], .tup (List.replicate 61 (.tup [.str "on"])), .tup [.tup [.str "take"]]]
def ih : Exc := ⟨"InvalidHistory", none⟩
theorem noH {p : Nat} (hp : p = 2 ∨ p = 3) (late back : Str) (b3 b4 : Bool) (zl : Str) (b6 : Bool) (again : Str) (b8 : Bool) : ∀ o ∈ odds, ∀ s : Sto, (f_need_history [ru p late back b3 b4 zl b6 again b8, o]).at s = .exn ih s := by
  rcases hp with rfl | rfl
  · refine all_mem (P := fun o => ∀ s : Sto, (f_need_history [ru 2 late back b3 b4 zl b6 again b8, o]).at s = .exn ih s) ?_
    refine ⟨?_, ?_, ?_, ?_, ?_, ?_, trivial⟩ <;> (intro s; kernel_rfl)
  · refine all_mem (P := fun o => ∀ s : Sto, (f_need_history [ru 3 late back b3 b4 zl b6 again b8, o]).at s = .exn ih s) ?_
    refine ⟨?_, ?_, ?_, ?_, ?_, ?_, trivial⟩ <;> (intro s; kernel_rfl)
def hds : List (Str × D) := [("InvalidHistory", .bl true), ("BookError", .bl false)]
theorem hds_all : (hds.all fun p => (T43.exm p.1 p.1).isSome) = true := by kernel_rfl
theorem hds_ih (ρ : Env') : hdM T43.exm ih ρ hds = pure (.rt (.bl true), ρ) := by kernel_rfl
theorem refused {R o : D} (nr : ∀ s, (f_need_rule [R]).at s = .ok .non s) (nh : ∀ s, (f_need_history [R, o]).at s = .exn ih s) (s : Sto) : (f_law_refused [R, o]).at s = .ok (.bl true) s := by
  have t : (f_told [R, o]).at s = .exn ih s := by
    unfold f_told
    rw [run_ap T25 2 2 c_told.body [R, o] s rfl]
    simp [c_told, ↓at_var, ↓at_glob, ↓at_cI, ↓at_cS, ↓at_cB, ↓at_cN, ↓at_tup, ↓at_lst, ↓at_loc, ↓at_dct, ↓at_bin, ↓at_cmp, ↓at_chain, ↓at_and, ↓at_or, ↓at_not, ↓at_ife, ↓at_idx, ↓at_slc, ↓at_neg, ↓at_isi, ↓at_call, ↓at_bif, ↓at_mth, ↓at_lc, ↓at_lc2, ↓at_rng1, ↓at_rng2, ↓at_lrng, ↓at_zip, ↓at_enum, ↓at_nil, ↓at_cons, ↓at_onone, ↓at_osome, ↓at_tnone, ↓at_tsome, ↓at_onil, ↓at_ocons, ↓at_oown, ↓at_asg, ↓at_par, ↓at_cat, ↓at_own, ↓at_frz, ↓at_app, ↓at_set, ↓at_ret, ↓at_retN, ↓at_if, ↓at_for, ↓at_whl, ↓at_exp, ↓at_pass, ↓at_brk, ↓at_cnt, ↓at_snil, ↓at_scons, ↓lcK_ap, ↓lcB_ap, bindOs, idxM_ap, newM_ap, nox_ok, put_loc, ↓noExn_ap, ↓bind_ap, pure_ap, then_ok, ↓tryS_ap, tr_ok, optM_some, chk_true, callM_some, seqK_nx, seqK_rt, endM_rt, endM_nx, ↓itemsM_ap, ↓bndM_ap, ↓mthM_ap, getV, setV, idx_lst, idx_tup, idx_loc, idx_dct, cmp_lt, cmp_le, cmp_gt, cmp_ge, cmp_eq, cmp_ne, cmp_in, cmp_notIn, cmp_isN, cmp_notN, eq_int, eq_str, eq_bl, add_int, sub_int, mul_int, fdiv_int, mod_int, pow_int, add_str, add_lst, add_tup, add_scr, asB_bl, asInt_int, bif_len_l, bif_len_t, bif_tuple_l, bif_tuple_t, bif_list_l, bif_list_t, bif_all, bif_any, bif_int_i, bif_int_b, bif_str_i, bif_str_s, slc_l, slc_t, bnd_n, bnd_i, its_l, its_t, bindT_nm, bindT_tp, isi_bool_non, isi_bool_bl, isi_bool_int, isi_bool_str, isi_bool_tup, isi_bool_lst, isi_int_non, isi_int_bl, isi_int_int, isi_int_str, isi_int_tup, isi_int_lst, isi_str_non, isi_str_bl, isi_str_int, isi_str_str, isi_str_tup, isi_str_lst, isi_tuple_non, isi_tuple_bl, isi_tuple_int, isi_tuple_str, isi_tuple_tup, isi_tuple_lst, isi_list_non, isi_list_bl, isi_list_int, isi_list_str, isi_list_tup, isi_list_lst, ↓lcM_cons, lcM_nil, forM_nil, forK_nx, forK_rt, itemsAll, zipD, asBools, bindTs, enumFrom, lstD, lookL, appM, isOwn, frzM, recvOk, L2.atI, L2.ixN, t_told_need_rule, nr, t_told_need_history, nh, tr_exn, seqK_ex, endM_ex]
  have h1 := hds_all
  have h2 := hds_ih
  unfold f_law_refused
  rw [run_ap T43 2 2 c_law_refused.body [R, o] s rfl]
  have hb : c_law_refused.body = [.try_ [.exp (.call "told" [.var 0, .var 1])] hds, .ret (.cB false)] := rfl
  rw [hb]
  generalize hds = hh at *
  simp [↓at_var, ↓at_glob, ↓at_cI, ↓at_cS, ↓at_cB, ↓at_cN, ↓at_tup, ↓at_lst, ↓at_loc, ↓at_dct, ↓at_bin, ↓at_cmp, ↓at_chain, ↓at_and, ↓at_or, ↓at_not, ↓at_ife, ↓at_idx, ↓at_slc, ↓at_neg, ↓at_isi, ↓at_call, ↓at_bif, ↓at_mth, ↓at_lc, ↓at_lc2, ↓at_rng1, ↓at_rng2, ↓at_lrng, ↓at_zip, ↓at_enum, ↓at_nil, ↓at_cons, ↓at_onone, ↓at_osome, ↓at_tnone, ↓at_tsome, ↓at_onil, ↓at_ocons, ↓at_oown, ↓at_asg, ↓at_par, ↓at_cat, ↓at_own, ↓at_frz, ↓at_app, ↓at_set, ↓at_ret, ↓at_retN, ↓at_if, ↓at_for, ↓at_whl, ↓at_exp, ↓at_pass, ↓at_brk, ↓at_cnt, ↓at_snil, ↓at_scons, ↓lcK_ap, ↓lcB_ap, bindOs, idxM_ap, newM_ap, nox_ok, put_loc, ↓noExn_ap, ↓bind_ap, pure_ap, then_ok, ↓tryS_ap, tr_ok, optM_some, chk_true, callM_some, seqK_nx, seqK_rt, endM_rt, endM_nx, ↓itemsM_ap, ↓bndM_ap, ↓mthM_ap, getV, setV, idx_lst, idx_tup, idx_loc, idx_dct, cmp_lt, cmp_le, cmp_gt, cmp_ge, cmp_eq, cmp_ne, cmp_in, cmp_notIn, cmp_isN, cmp_notN, eq_int, eq_str, eq_bl, add_int, sub_int, mul_int, fdiv_int, mod_int, pow_int, add_str, add_lst, add_tup, add_scr, asB_bl, asInt_int, bif_len_l, bif_len_t, bif_tuple_l, bif_tuple_t, bif_list_l, bif_list_t, bif_all, bif_any, bif_int_i, bif_int_b, bif_str_i, bif_str_s, slc_l, slc_t, bnd_n, bnd_i, its_l, its_t, bindT_nm, bindT_tp, isi_bool_non, isi_bool_bl, isi_bool_int, isi_bool_str, isi_bool_tup, isi_bool_lst, isi_int_non, isi_int_bl, isi_int_int, isi_int_str, isi_int_tup, isi_int_lst, isi_str_non, isi_str_bl, isi_str_int, isi_str_str, isi_str_tup, isi_str_lst, isi_tuple_non, isi_tuple_bl, isi_tuple_int, isi_tuple_str, isi_tuple_tup, isi_tuple_lst, isi_list_non, isi_list_bl, isi_list_int, isi_list_str, isi_list_tup, isi_list_lst, ↓lcM_cons, lcM_nil, forM_nil, forK_nx, forK_rt, itemsAll, zipD, asBools, bindTs, enumFrom, lstD, lookL, appM, isOwn, frzM, recvOk, L2.atI, L2.ixN, ↓at_try, h1, t_law_refused_told, t, tr_exn, seqK_ex, tryK_ex, h2]
def rb : List Sd := [.ife (.not (.call "_law_refused" [.var 4, .var 10])) [.ret (.cB false)] []]
theorem refs {R : D} (h : ∀ o ∈ odds, ∀ s : Sto, (f_law_refused [R, o]).at s = .ok (.bl true) s) (a0 a1 a2 a3 a5 a6 a7 a8 a9 a11 : Option Ov) : ∀ (xs : List D), (∀ o ∈ xs, o ∈ odds) → ∀ (s : Sto) (a10 : Option Ov), ∃ b10, (forM' (forB T45 (.nm 10) rb) xs [a0, a1, a2, a3, some (.val R), a5, a6, a7, a8, a9, a10, a11]).at s = .ok (.nx, [a0, a1, a2, a3, some (.val R), a5, a6, a7, a8, a9, b10, a11]) s
  | [], _, s, a10 => ⟨a10, rfl⟩
  | x :: xs, hx, s, a10 => by
    have e := h x (hx x List.mem_cons_self) s
    have step : (forB T45 (.nm 10) rb x [a0, a1, a2, a3, some (.val R), a5, a6, a7, a8, a9, a10, a11]).at s = .ok (.nx, [a0, a1, a2, a3, some (.val R), a5, a6, a7, a8, a9, some (.val x), a11]) s := by
      rw [forB_ap]
      simp [rb, ↓at_var, ↓at_glob, ↓at_cI, ↓at_cS, ↓at_cB, ↓at_cN, ↓at_tup, ↓at_lst, ↓at_loc, ↓at_dct, ↓at_bin, ↓at_cmp, ↓at_chain, ↓at_and, ↓at_or, ↓at_not, ↓at_ife, ↓at_idx, ↓at_slc, ↓at_neg, ↓at_isi, ↓at_call, ↓at_bif, ↓at_mth, ↓at_lc, ↓at_lc2, ↓at_rng1, ↓at_rng2, ↓at_lrng, ↓at_zip, ↓at_enum, ↓at_nil, ↓at_cons, ↓at_onone, ↓at_osome, ↓at_tnone, ↓at_tsome, ↓at_onil, ↓at_ocons, ↓at_oown, ↓at_asg, ↓at_par, ↓at_cat, ↓at_own, ↓at_frz, ↓at_app, ↓at_set, ↓at_ret, ↓at_retN, ↓at_if, ↓at_for, ↓at_whl, ↓at_exp, ↓at_pass, ↓at_brk, ↓at_cnt, ↓at_snil, ↓at_scons, ↓lcK_ap, ↓lcB_ap, bindOs, idxM_ap, newM_ap, nox_ok, put_loc, ↓noExn_ap, ↓bind_ap, pure_ap, then_ok, ↓tryS_ap, tr_ok, optM_some, chk_true, callM_some, seqK_nx, seqK_rt, endM_rt, endM_nx, ↓itemsM_ap, ↓bndM_ap, ↓mthM_ap, getV, setV, idx_lst, idx_tup, idx_loc, idx_dct, cmp_lt, cmp_le, cmp_gt, cmp_ge, cmp_eq, cmp_ne, cmp_in, cmp_notIn, cmp_isN, cmp_notN, eq_int, eq_str, eq_bl, add_int, sub_int, mul_int, fdiv_int, mod_int, pow_int, add_str, add_lst, add_tup, add_scr, asB_bl, asInt_int, bif_len_l, bif_len_t, bif_tuple_l, bif_tuple_t, bif_list_l, bif_list_t, bif_all, bif_any, bif_int_i, bif_int_b, bif_str_i, bif_str_s, slc_l, slc_t, bnd_n, bnd_i, its_l, its_t, bindT_nm, bindT_tp, isi_bool_non, isi_bool_bl, isi_bool_int, isi_bool_str, isi_bool_tup, isi_bool_lst, isi_int_non, isi_int_bl, isi_int_int, isi_int_str, isi_int_tup, isi_int_lst, isi_str_non, isi_str_bl, isi_str_int, isi_str_str, isi_str_tup, isi_str_lst, isi_tuple_non, isi_tuple_bl, isi_tuple_int, isi_tuple_str, isi_tuple_tup, isi_tuple_lst, isi_list_non, isi_list_bl, isi_list_int, isi_list_str, isi_list_tup, isi_list_lst, ↓lcM_cons, lcM_nil, forM_nil, forK_nx, forK_rt, itemsAll, zipD, asBools, bindTs, enumFrom, lstD, lookL, appM, isOwn, frzM, recvOk, L2.atI, L2.ixN, t_law_law_refused, e]
    obtain ⟨b10, e2⟩ := refs h a0 a1 a2 a3 a5 a6 a7 a8 a9 a11 xs (fun o ho => hx o (List.mem_cons_of_mem _ ho)) s (some (.val x))
    exact ⟨b10, forM_step step e2⟩
def oddC : Cd := .tup [.cN, .lst [], .tup [.tup [.cS "give", .cI 0]], .tup [.cS "on"], .bin .mul (.tup [.tup [.cS "on"]]) (.cI 61), .tup [.tup [.cS "take"]]]
theorem odd_ev (ρ : Env') (s : Sto) : (ev T45 oddC ρ).at s = .ok (.tup odds) s := by kernel_rfl
def cb : List Sd := [.asg (.nm 2) (.call "_law_urn" [.var 1, .cI 9]), .for_ (.nm 3) (.rng1 (.cI 6)) ta, .for_ (.nm 10) oddC rb]
theorem okB6 : okB 6 = true := by decide
theorem cell_ok (a0 : Option Ov) (c : Int) (s : Sto) (a1 a2 a3 a4 a5 a6 a7 a8 a9 a10 a11 : Option Ov) : ∃ b1 b2 b3 b4 b5 b6 b7 b8 b9 b10 b11 s', (forB T45 (.nm 1) cb (.int c) [a0, a1, a2, a3, a4, a5, a6, a7, a8, a9, a10, a11]).at s = .ok (.nx, [a0, b1, b2, b3, b4, b5, b6, b7, b8, b9, b10, b11]) s' := by
  obtain ⟨s1, e1, u1, _⟩ := furn_ok s c
  obtain ⟨b3, b4, b5, b6, b7, b8, b9, b11, s2, e2, u2, h2⟩ := turns a0 (some (.val (.int c))) a10 (rangeD 0 6) u1 a3 a4 a5 a6 a7 a8 a9 a11
  obtain ⟨p, R, hp, rfl, isr⟩ := h2 (.inr (by
    intro q
    have : (rangeD 0 6).length = 0 := by rw [q]; rfl
    simp [rangeD] at this))
  obtain ⟨late, back, d3, d4, zl, d6, again, d8, eR, K, nr⟩ := ru_of hp isr
  have hr : ∀ o ∈ odds, ∀ s : Sto, (f_law_refused [R, o]).at s = .ok (.bl true) s := fun o ho s => refused nr (fun s => by rw [eR]; exact noH hp late back d3 d4 zl d6 again d8 o ho s) s
  obtain ⟨b10, e3⟩ := refs hr a0 (some (.val (.int c))) (some (.val (.loc s.length))) b3 b5 b6 b7 b8 b9 b11 odds (fun o ho => ho) s2 a10
  have e4 := odd_ev
  refine ⟨some (.val (.int c)), some (.val (.loc s.length)), b3, some (.val R), b5, b6, b7, b8, b9, b10, b11, s2, ?_⟩
  rw [forB_ap]
  unfold cb
  generalize ta = tt at *
  generalize rb = rr at *
  generalize oddC = oc at *
  generalize odds = oo at *
  simp [↓at_var, ↓at_glob, ↓at_cI, ↓at_cS, ↓at_cB, ↓at_cN, ↓at_tup, ↓at_lst, ↓at_loc, ↓at_dct, ↓at_bin, ↓at_cmp, ↓at_chain, ↓at_and, ↓at_or, ↓at_not, ↓at_ife, ↓at_idx, ↓at_slc, ↓at_neg, ↓at_isi, ↓at_call, ↓at_bif, ↓at_mth, ↓at_lc, ↓at_lc2, ↓at_rng1, ↓at_rng2, ↓at_lrng, ↓at_zip, ↓at_enum, ↓at_nil, ↓at_cons, ↓at_onone, ↓at_osome, ↓at_tnone, ↓at_tsome, ↓at_onil, ↓at_ocons, ↓at_oown, ↓at_asg, ↓at_par, ↓at_cat, ↓at_own, ↓at_frz, ↓at_app, ↓at_set, ↓at_ret, ↓at_retN, ↓at_if, ↓at_for, ↓at_whl, ↓at_exp, ↓at_pass, ↓at_brk, ↓at_cnt, ↓at_snil, ↓at_scons, ↓lcK_ap, ↓lcB_ap, bindOs, idxM_ap, newM_ap, nox_ok, put_loc, ↓noExn_ap, ↓bind_ap, pure_ap, then_ok, ↓tryS_ap, tr_ok, optM_some, chk_true, callM_some, seqK_nx, seqK_rt, endM_rt, endM_nx, ↓itemsM_ap, ↓bndM_ap, ↓mthM_ap, getV, setV, idx_lst, idx_tup, idx_loc, idx_dct, cmp_lt, cmp_le, cmp_gt, cmp_ge, cmp_eq, cmp_ne, cmp_in, cmp_notIn, cmp_isN, cmp_notN, eq_int, eq_str, eq_bl, add_int, sub_int, mul_int, fdiv_int, mod_int, pow_int, add_str, add_lst, add_tup, add_scr, asB_bl, asInt_int, bif_len_l, bif_len_t, bif_tuple_l, bif_tuple_t, bif_list_l, bif_list_t, bif_all, bif_any, bif_int_i, bif_int_b, bif_str_i, bif_str_s, slc_l, slc_t, bnd_n, bnd_i, its_l, its_t, bindT_nm, bindT_tp, isi_bool_non, isi_bool_bl, isi_bool_int, isi_bool_str, isi_bool_tup, isi_bool_lst, isi_int_non, isi_int_bl, isi_int_int, isi_int_str, isi_int_tup, isi_int_lst, isi_str_non, isi_str_bl, isi_str_int, isi_str_str, isi_str_tup, isi_str_lst, isi_tuple_non, isi_tuple_bl, isi_tuple_int, isi_tuple_str, isi_tuple_tup, isi_tuple_lst, isi_list_non, isi_list_bl, isi_list_int, isi_list_str, isi_list_tup, isi_list_lst, ↓lcM_cons, lcM_nil, forM_nil, forK_nx, forK_rt, itemsAll, zipD, asBools, bindTs, enumFrom, lstD, lookL, appM, isOwn, frzM, recvOk, L2.atI, L2.ixN, t_law_law_urn, e1, okB6, e2, e4, e3]
theorem cells (a0 : Option Ov) : ∀ (xs : List D), (∀ x ∈ xs, ∃ c, x = .int c) → ∀ (s : Sto) (a1 a2 a3 a4 a5 a6 a7 a8 a9 a10 a11 : Option Ov), ∃ b1 b2 b3 b4 b5 b6 b7 b8 b9 b10 b11 s', (forM' (forB T45 (.nm 1) cb) xs [a0, a1, a2, a3, a4, a5, a6, a7, a8, a9, a10, a11]).at s = .ok (.nx, [a0, b1, b2, b3, b4, b5, b6, b7, b8, b9, b10, b11]) s'
  | [], _, s, a1, a2, a3, a4, a5, a6, a7, a8, a9, a10, a11 => ⟨a1, a2, a3, a4, a5, a6, a7, a8, a9, a10, a11, s, rfl⟩
  | x :: xs, h, s, a1, a2, a3, a4, a5, a6, a7, a8, a9, a10, a11 => by
    obtain ⟨c, rfl⟩ := h x List.mem_cons_self
    obtain ⟨b1, b2, b3, b4, b5, b6, b7, b8, b9, b10, b11, s1, e1⟩ := cell_ok a0 c s a1 a2 a3 a4 a5 a6 a7 a8 a9 a10 a11
    obtain ⟨d1, d2, d3, d4, d5, d6, d7, d8, d9, d10, d11, s2, e2⟩ := cells a0 xs (fun z hz => h z (List.mem_cons_of_mem _ hz)) s1 b1 b2 b3 b4 b5 b6 b7 b8 b9 b10 b11
    exact ⟨d1, d2, d3, d4, d5, d6, d7, d8, d9, d10, d11, s2, forM_step e1 e2⟩
end LW

set_option Elab.async false
set_option linter.all false
set_option maxRecDepth 100000
set_option maxHeartbeats 8000000
namespace LW
open PySem PD
/-! ### the written rule -/
def R0 : D := .tup [.int 3, .str "next", .str "counter", .str "now", .str "now", .str "two", .bl false, .str "void", .bl true]
def h6 : List D := [.tup [.str "on"], .tup [.str "enter", .str "clerk", .int 1], .tup [.str "close", .str "clerk", .int 1], .tup [.str "take", .str "clerk"], .tup [.str "give", .int 2], .tup [.str "close", .str "chief", .int 1]]
def row0 : D := .tup [.int 1, .int (-1), .int 0]
def fl6 : List D := [.bl true, .bl true, .bl true, .bl true, row0, .bl true]
def o3 : List D := [.str "open", .str "open", .str "open"]
def z0 : D := .tup [.int 1, .tup o3, .tup [.int 0, .int 0, .int 0], .str "new", .int 0, .tup [.non, .non, .non]]
def z6 : D := .tup [.int 2, .tup [.str "shut", .str "open", .str "open"], .tup [.int 1, .int (-1), .int 0], .str "out", .int 0, .tup [.non, row0, .non]]
def z7 : D := .tup [.int 2, .tup o3, .tup [.int 1, .int (-1), .int 0], .str "out", .int 0, .tup [.non, .non, .non]]
theorem g6 : GoS R0 z0 h6 fl6 z6 :=
  .cons (x1 := .tup [.int 2, .tup o3, .tup [.int 0, .int 0, .int 0], .str "new", .int 0, .tup [.non, .non, .non]]) (fun s => by kernel_rfl)
  (.cons (x1 := .tup [.int 2, .tup o3, .tup [.int 1, .int 0, .int 0], .str "in", .int 1, .tup [.non, .non, .non]]) (fun s => by kernel_rfl)
  (.cons (x1 := .tup [.int 2, .tup [.str "soft", .str "open", .str "open"], .tup [.int 1, .int 0, .int 0], .str "in", .int 1, .tup [.non, .non, .non]]) (fun s => by kernel_rfl)
  (.cons (x1 := .tup [.int 2, .tup [.str "soft", .str "open", .str "open"], .tup [.int 1, .int (-1), .int 0], .str "out", .int 0, .tup [.non, .non, .non]]) (fun s => by kernel_rfl)
  (.cons (x1 := .tup [.int 2, .tup [.str "soft", .str "open", .str "open"], .tup [.int 1, .int (-1), .int 0], .str "out", .int 0, .tup [.non, row0, .non]]) (fun s => by kernel_rfl)
  (.cons (x1 := z6) (fun s => by kernel_rfl) .nil)))))
theorem GoS.snoc {R : D} : ∀ {x x1 : D} {ds fls : List D}, GoS R x ds fls x1 → ∀ {ev fl x2 : D}, (∀ s, (f_step [R, x1, ev]).at s = .ok (.tup [x2, fl]) s) → GoS R x (ds ++ [ev]) (fls ++ [fl]) x2
  | _, _, _, _, .nil, _, _, _, h => .cons h .nil
  | _, _, _, _, .cons a r, _, _, _, h => .cons a (r.snoc h)
theorem g7 : GoS R0 z0 (h6 ++ [.tup [.str "open", .str "chief", .int 1]]) (fl6 ++ [.bl true]) z7 := g6.snoc (fun s => by kernel_rfl)
theorem nr0 (s : Sto) : (f_need_rule [R0]).at s = .ok .non s := by kernel_rfl
theorem nh6 (s : Sto) : (f_need_history [R0, .tup h6]).at s = .ok .non s := by kernel_rfl
theorem nh7 (s : Sto) : (f_need_history [R0, .tup (h6 ++ [.tup [.str "open", .str "chief", .int 1]])]).at s = .ok .non s := by kernel_rfl
theorem b0 (s : Sto) : (f_begin [R0]).at s = .ok z0 s := by kernel_rfl
theorem run6 (s : Sto) : (f_told [R0, .tup h6]).at s = .ok (.loc s.length) (s ++ [.lst fl6]) ∧ (f_stand_behind [R0, .tup h6]).at s = .ok z6 (s ++ [.lst fl6]) := told_run nr0 nh6 b0 g6 (by decide) s
theorem run7 (s : Sto) : (f_told [R0, .tup (h6 ++ [.tup [.str "open", .str "chief", .int 1]])]).at s = .ok (.loc s.length) (s ++ [.lst (fl6 ++ [.bl true])]) ∧ (f_stand_behind [R0, .tup (h6 ++ [.tup [.str "open", .str "chief", .int 1]])]).at s = .ok z7 (s ++ [.lst (fl6 ++ [.bl true])]) := told_run nr0 nh7 b0 g7 (by decide) s
theorem fl6_pl : Pl 100 2 (.lst fl6) := fls_pl (all_mem ⟨.inl ⟨_, rfl⟩, .inl ⟨_, rfl⟩, .inl ⟨_, rfl⟩, .inl ⟨_, rfl⟩, .inr (.inr ⟨_, _, _, rfl⟩), .inl ⟨_, rfl⟩, trivial⟩) (by decide)
theorem e66 : eqD z6 z6 = some true := by decide +kernel
theorem e77 : eqD z7 z7 = some true := by decide +kernel
def flC : Cd := .lst [.cB true, .cB true, .cB true, .cB true, .tup [.cI 1, .neg (.cI 1), .cI 0], .cB true]
theorem flC_ev (ρ : Env') (s : Sto) : (ev T45 flC ρ).at s = .ok (.lst fl6) s := by kernel_rfl
def z6C : Cd := .tup [.cI 2, .tup [.cS "shut", .cS "open", .cS "open"], .tup [.cI 1, .neg (.cI 1), .cI 0], .cS "out", .cI 0, .tup [.cN, .tup [.cI 1, .neg (.cI 1), .cI 0], .cN]]
theorem z6C_ev (ρ : Env') (s : Sto) : (ev T45 z6C ρ).at s = .ok z6 s := by kernel_rfl
def z7C : Cd := .tup [.cI 2, .bin .mul (.tup [.cS "open"]) (.cI 3), .tup [.cI 1, .neg (.cI 1), .cI 0], .cS "out", .cI 0, .bin .mul (.tup [.cN]) (.cI 3)]
theorem z7C_ev (ρ : Env') (s : Sto) : (ev T45 z7C ρ).at s = .ok z7 s := by kernel_rfl
def hd3 : List Sd := [.asg (.nm 4) (.tup [.cI 3, .cS "next", .cS "counter", .cS "now", .cS "now", .cS "two", .cB false, .cS "void", .cB true]), .asg (.nm 5) (.tup [.tup [.cS "on"], .tup [.cS "enter", .cS "clerk", .cI 1], .tup [.cS "close", .cS "clerk", .cI 1], .tup [.cS "take", .cS "clerk"]]), .asg (.nm 5) (.bin .add (.var 5) (.tup [.tup [.cS "give", .cI 2], .tup [.cS "close", .cS "chief", .cI 1]]))]
theorem hd3_ok (a0 a1 a2 a3 a4 a5 a6 a7 a8 a9 a10 a11 : Option Ov) (s : Sto) : (exs T45 hd3 [a0, a1, a2, a3, a4, a5, a6, a7, a8, a9, a10, a11]).at s = .ok (.nx, [a0, a1, a2, a3, some (.val R0), some (.val (.tup h6)), a6, a7, a8, a9, a10, a11]) s := by kernel_rfl
def hx7 : Cd := .bin .add (.var 5) (.tup [.tup [.cS "open", .cS "chief", .cI 1]])
theorem hx7_ev (a0 a1 a2 a3 a4 a6 a7 a8 a9 a10 a11 : Option Ov) (s : Sto) : (ev T45 hx7 [a0, a1, a2, a3, a4, some (.val (.tup h6)), a6, a7, a8, a9, a10, a11]).at s = .ok (.tup (h6 ++ [.tup [.str "open", .str "chief", .int 1]])) s := by kernel_rfl
def tl2 : List Sd := [.ife (.cmpL true (.call "told" [.var 4, .var 5]) flC) [.ret (.cB false)] [], .asg (.nm 7) z6C, .frz 7, .ife (.cmp .ne (.call "stand_behind" [.var 4, .var 5]) (.var 7)) [.ret (.cB false)] [], .asg (.nm 7) z7C, .frz 7, .ret (.cmp .eq (.call "stand_behind" [.var 4, hx7]) (.var 7))]
theorem tail_ok (a0 a1 a2 a3 a4 a5 a6 a7 a8 a9 a10 a11 : Option Ov) (s : Sto) : ∃ s', ((exs T45 (hd3 ++ tl2) [a0, a1, a2, a3, a4, a5, a6, a7, a8, a9, a10, a11]).at s).nox.then endM = .ok (.bl true) s' := by
  have t1 := (run6 s).1
  have c1 := cmpL_same (at_end s (.lst fl6)) fl6_pl
  have t2 := (run6 (s ++ [.lst fl6])).2
  have t3 := (run7 (s ++ [.lst fl6] ++ [.lst fl6])).2
  have i1 := flC_ev
  have i2 := z6C_ev
  have i3 := z7C_ev
  have i4 := hx7_ev
  have e6 := e66
  have e7 := e77
  refine ⟨s ++ [Cell.lst fl6] ++ [Cell.lst fl6] ++ [Cell.lst (fl6 ++ [D.bl true])], ?_⟩
  rw [exs_app (hd3_ok a0 a1 a2 a3 a4 a5 a6 a7 a8 a9 a10 a11 s)]
  unfold tl2
  generalize h6 ++ [D.tup [.str "open", .str "chief", .int 1]] = h7 at *
  generalize s ++ [Cell.lst fl6] ++ [Cell.lst fl6] = s2 at *
  generalize hs1 : s ++ [Cell.lst fl6] = s1 at *
  generalize s2 ++ [Cell.lst (fl6 ++ [D.bl true])] = s3 at *
  generalize fl6 = f6 at *
  generalize h6 = hh at *
  generalize R0 = RR at *
  generalize z6 = zz at *
  generalize z7 = zy at *
  generalize flC = k1 at *
  generalize z6C = k2 at *
  generalize z7C = k3 at *
  generalize hx7 = k4 at *
  simp [↓at_var, ↓at_glob, ↓at_cI, ↓at_cS, ↓at_cB, ↓at_cN, ↓at_tup, ↓at_lst, ↓at_loc, ↓at_dct, ↓at_bin, ↓at_cmp, ↓at_chain, ↓at_and, ↓at_or, ↓at_not, ↓at_ife, ↓at_idx, ↓at_slc, ↓at_neg, ↓at_isi, ↓at_call, ↓at_bif, ↓at_mth, ↓at_lc, ↓at_lc2, ↓at_rng1, ↓at_rng2, ↓at_lrng, ↓at_zip, ↓at_enum, ↓at_nil, ↓at_cons, ↓at_onone, ↓at_osome, ↓at_tnone, ↓at_tsome, ↓at_onil, ↓at_ocons, ↓at_oown, ↓at_asg, ↓at_par, ↓at_cat, ↓at_own, ↓at_frz, ↓at_app, ↓at_set, ↓at_ret, ↓at_retN, ↓at_if, ↓at_for, ↓at_whl, ↓at_exp, ↓at_pass, ↓at_brk, ↓at_cnt, ↓at_snil, ↓at_scons, ↓lcK_ap, ↓lcB_ap, bindOs, idxM_ap, newM_ap, nox_ok, put_loc, ↓noExn_ap, ↓bind_ap, pure_ap, then_ok, ↓tryS_ap, tr_ok, optM_some, chk_true, callM_some, seqK_nx, seqK_rt, endM_rt, endM_nx, ↓itemsM_ap, ↓bndM_ap, ↓mthM_ap, getV, setV, idx_lst, idx_tup, idx_loc, idx_dct, cmp_lt, cmp_le, cmp_gt, cmp_ge, cmp_eq, cmp_ne, cmp_in, cmp_notIn, cmp_isN, cmp_notN, eq_int, eq_str, eq_bl, add_int, sub_int, mul_int, fdiv_int, mod_int, pow_int, add_str, add_lst, add_tup, add_scr, asB_bl, asInt_int, bif_len_l, bif_len_t, bif_tuple_l, bif_tuple_t, bif_list_l, bif_list_t, bif_all, bif_any, bif_int_i, bif_int_b, bif_str_i, bif_str_s, slc_l, slc_t, bnd_n, bnd_i, its_l, its_t, bindT_nm, bindT_tp, isi_bool_non, isi_bool_bl, isi_bool_int, isi_bool_str, isi_bool_tup, isi_bool_lst, isi_int_non, isi_int_bl, isi_int_int, isi_int_str, isi_int_tup, isi_int_lst, isi_str_non, isi_str_bl, isi_str_int, isi_str_str, isi_str_tup, isi_str_lst, isi_tuple_non, isi_tuple_bl, isi_tuple_int, isi_tuple_str, isi_tuple_tup, isi_tuple_lst, isi_list_non, isi_list_bl, isi_list_int, isi_list_str, isi_list_tup, isi_list_lst, ↓lcM_cons, lcM_nil, forM_nil, forK_nx, forK_rt, itemsAll, zipD, asBools, bindTs, enumFrom, lstD, lookL, appM, isOwn, frzM, recvOk, L2.atI, L2.ixN, ↓at_cmpL, t_law_told, t1, i1, c1, i2, t_law_stand_behind, t2, e6, i3, i4, t3, e7]
theorem law_true : ∀ ns : List Int, ns.length ≤ 63 → ∃ s', PD.run T45 1 n_law.length c_law.body [.scr ns] [] = .ok (.bl true) s' := by
  intro ns hn
  have hx : ∀ x ∈ cutD (.int 0 :: ns.map D.int) none (some 10), ∃ c, x = D.int c := fun x hx => by
    unfold cutD at hx
    have h2 := List.mem_of_mem_drop (List.mem_of_mem_take hx)
    rcases List.mem_cons.mp h2 with rfl | h2
    · exact ⟨0, rfl⟩
    · obtain ⟨c, _, rfl⟩ := List.mem_map.mp h2
      exact ⟨c, rfl⟩
  obtain ⟨b1, b2, b3, b4, b5, b6, b7, b8, b9, b10, b11, s', e⟩ := cells (some (.val (.scr ns))) (cutD (.int 0 :: ns.map D.int) none (some 10)) hx [] none none none none none none none none none none none
  obtain ⟨s2, t⟩ := tail_ok (some (.val (.scr ns))) b1 b2 b3 b4 b5 b6 b7 b8 b9 b10 b11 s'
  refine ⟨s2, ?_⟩
  have hl : 1 + ns.length ≤ 16777216 := by omega
  show (PD.run T45 1 12 c_law.body [.scr ns]).at [] = _
  rw [run_ap T45 1 12 c_law.body [.scr ns] [] rfl]
  have hb : c_law.body = .for_ (.nm 1) (.slc (.bin .add (.lst [.cI 0]) (.var 0)) none (some (.cI 10))) cb :: (hd3 ++ tl2) := rfl
  rw [hb]
  generalize hd3 ++ tl2 = tt at *
  generalize cb = bb at *
  rw [at_scons]
  simp [↓at_var, ↓at_glob, ↓at_cI, ↓at_cS, ↓at_cB, ↓at_cN, ↓at_tup, ↓at_lst, ↓at_loc, ↓at_dct, ↓at_bin, ↓at_cmp, ↓at_chain, ↓at_and, ↓at_or, ↓at_not, ↓at_ife, ↓at_idx, ↓at_slc, ↓at_neg, ↓at_isi, ↓at_call, ↓at_bif, ↓at_mth, ↓at_lc, ↓at_lc2, ↓at_rng1, ↓at_rng2, ↓at_lrng, ↓at_zip, ↓at_enum, ↓at_nil, ↓at_cons, ↓at_onone, ↓at_osome, ↓at_tnone, ↓at_tsome, ↓at_onil, ↓at_ocons, ↓at_oown, ↓at_asg, ↓at_par, ↓at_cat, ↓at_own, ↓at_frz, ↓at_app, ↓at_set, ↓at_ret, ↓at_retN, ↓at_if, ↓at_for, ↓at_whl, ↓at_exp, ↓at_pass, ↓at_brk, ↓at_cnt, ↓at_snil, ↓at_scons, ↓lcK_ap, ↓lcB_ap, bindOs, idxM_ap, newM_ap, nox_ok, put_loc, ↓noExn_ap, ↓bind_ap, pure_ap, then_ok, ↓tryS_ap, tr_ok, optM_some, chk_true, callM_some, seqK_nx, seqK_rt, endM_rt, endM_nx, ↓itemsM_ap, ↓bndM_ap, ↓mthM_ap, getV, setV, idx_lst, idx_tup, idx_loc, idx_dct, cmp_lt, cmp_le, cmp_gt, cmp_ge, cmp_eq, cmp_ne, cmp_in, cmp_notIn, cmp_isN, cmp_notN, eq_int, eq_str, eq_bl, add_int, sub_int, mul_int, fdiv_int, mod_int, pow_int, add_str, add_lst, add_tup, add_scr, asB_bl, asInt_int, bif_len_l, bif_len_t, bif_tuple_l, bif_tuple_t, bif_list_l, bif_list_t, bif_all, bif_any, bif_int_i, bif_int_b, bif_str_i, bif_str_s, slc_l, slc_t, bnd_n, bnd_i, its_l, its_t, bindT_nm, bindT_tp, isi_bool_non, isi_bool_bl, isi_bool_int, isi_bool_str, isi_bool_tup, isi_bool_lst, isi_int_non, isi_int_bl, isi_int_int, isi_int_str, isi_int_tup, isi_int_lst, isi_str_non, isi_str_bl, isi_str_int, isi_str_str, isi_str_tup, isi_str_lst, isi_tuple_non, isi_tuple_bl, isi_tuple_int, isi_tuple_str, isi_tuple_tup, isi_tuple_lst, isi_list_non, isi_list_bl, isi_list_int, isi_list_str, isi_list_tup, isi_list_lst, ↓lcM_cons, lcM_nil, forM_nil, forK_nx, forK_rt, itemsAll, zipD, asBools, bindTs, enumFrom, lstD, lookL, appM, isOwn, frzM, recvOk, L2.atI, L2.ixN, e, hl, line]
  exact t
end LW

set_option Elab.async false
set_option linter.all false
set_option maxRecDepth 100000
set_option maxHeartbeats 0
namespace LW
open PySem PySem.Spec PyProof.Rows L2
theorem s_values_of : FnScope n_values_of ["part"] (defScope (top 8)) := ⟨rfl, rfl, rfl, by decide +kernel, rfl, by decide +kernel, by decide +kernel⟩
theorem k_values_of : PD.chkSs n_values_of (defScope (top 8)) c_values_of.body (defBody (top 8)) = true := by decide +kernel
def d_values_of : He.DefD := ⟨("values_of", none), "values_of", "values_of", defArgs (top 8), defBody (top 8), defScope (top 8), [], []⟩
theorem s_is_same : FnScope n_is_same ["one", "other"] (defScope (top 9)) := ⟨rfl, rfl, rfl, by decide +kernel, rfl, by decide +kernel, by decide +kernel⟩
theorem k_is_same : PD.chkSs n_is_same (defScope (top 9)) c_is_same.body (defBody (top 9)) = true := by decide +kernel
def d_is_same : He.DefD := ⟨("is_same", none), "is_same", "is_same", defArgs (top 9), defBody (top 9), defScope (top 9), [], []⟩
theorem s_is_value : FnScope n_is_value ["part", "value"] (defScope (top 10)) := ⟨rfl, rfl, rfl, by decide +kernel, rfl, by decide +kernel, by decide +kernel⟩
theorem k_is_value : PD.chkSs n_is_value (defScope (top 10)) c_is_value.body (defBody (top 10)) = true := by decide +kernel
def d_is_value : He.DefD := ⟨("is_value", none), "is_value", "is_value", defArgs (top 10), defBody (top 10), defScope (top 10), [], []⟩
theorem s_is_rule : FnScope n_is_rule ["value"] (defScope (top 11)) := ⟨rfl, rfl, rfl, by decide +kernel, rfl, by decide +kernel, by decide +kernel⟩
theorem k_is_rule : PD.chkSs n_is_rule (defScope (top 11)) c_is_rule.body (defBody (top 11)) = true := by decide +kernel
def d_is_rule : He.DefD := ⟨("is_rule", none), "is_rule", "is_rule", defArgs (top 11), defBody (top 11), defScope (top 11), [], []⟩
theorem s_is_who : FnScope n_is_who ["value"] (defScope (top 12)) := ⟨rfl, rfl, rfl, by decide +kernel, rfl, by decide +kernel, by decide +kernel⟩
theorem k_is_who : PD.chkSs n_is_who (defScope (top 12)) c_is_who.body (defBody (top 12)) = true := by decide +kernel
def d_is_who : He.DefD := ⟨("is_who", none), "is_who", "is_who", defArgs (top 12), defBody (top 12), defScope (top 12), [], []⟩
theorem s_is_number : FnScope n_is_number ["value", "low", "high"] (defScope (top 13)) := ⟨rfl, rfl, rfl, by decide +kernel, rfl, by decide +kernel, by decide +kernel⟩
theorem k_is_number : PD.chkSs n_is_number (defScope (top 13)) c_is_number.body (defBody (top 13)) = true := by decide +kernel
def d_is_number : He.DefD := ⟨("is_number", none), "is_number", "is_number", defArgs (top 13), defBody (top 13), defScope (top 13), [], []⟩
theorem s_is_event : FnScope n_is_event ["periods", "value"] (defScope (top 14)) := ⟨rfl, rfl, rfl, by decide +kernel, rfl, by decide +kernel, by decide +kernel⟩
theorem k_is_event : PD.chkSs n_is_event (defScope (top 14)) c_is_event.body (defBody (top 14)) = true := by decide +kernel
def d_is_event : He.DefD := ⟨("is_event", none), "is_event", "is_event", defArgs (top 14), defBody (top 14), defScope (top 14), [], []⟩
theorem s_are_events : FnScope n_are_events ["periods", "value"] (defScope (top 15)) := ⟨rfl, rfl, rfl, by decide +kernel, rfl, by decide +kernel, by decide +kernel⟩
theorem k_are_events : PD.chkSs n_are_events (defScope (top 15)) c_are_events.body (defBody (top 15)) = true := by decide +kernel
def d_are_events : He.DefD := ⟨("are_events", none), "are_events", "are_events", defArgs (top 15), defBody (top 15), defScope (top 15), [], []⟩
theorem s_need_rule : FnScope n_need_rule ["rule"] (defScope (top 16)) := ⟨rfl, rfl, rfl, by decide +kernel, rfl, by decide +kernel, by decide +kernel⟩
theorem k_need_rule : PD.chkSs n_need_rule (defScope (top 16)) c_need_rule.body (defBody (top 16)) = true := by decide +kernel
def d_need_rule : He.DefD := ⟨("need_rule", none), "need_rule", "need_rule", defArgs (top 16), defBody (top 16), defScope (top 16), [], []⟩
theorem s_need_history : FnScope n_need_history ["rule", "history"] (defScope (top 17)) := ⟨rfl, rfl, rfl, by decide +kernel, rfl, by decide +kernel, by decide +kernel⟩
theorem k_need_history : PD.chkSs n_need_history (defScope (top 17)) c_need_history.body (defBody (top 17)) = true := by decide +kernel
def d_need_history : He.DefD := ⟨("need_history", none), "need_history", "need_history", defArgs (top 17), defBody (top 17), defScope (top 17), [], []⟩
theorem s_begin : FnScope n_begin ["rule"] (defScope (top 19)) := ⟨rfl, rfl, rfl, by decide +kernel, rfl, by decide +kernel, by decide +kernel⟩
theorem k_begin : PD.chkSs n_begin (defScope (top 19)) c_begin.body (defBody (top 19)) = true := by decide +kernel
def d_begin : He.DefD := ⟨("begin", none), "begin", "begin", defArgs (top 19), defBody (top 19), defScope (top 19), [], []⟩
theorem s_put_at : FnScope n_put_at ["row", "at", "value"] (defScope (top 20)) := ⟨rfl, rfl, rfl, by decide +kernel, rfl, by decide +kernel, by decide +kernel⟩
theorem k_put_at : PD.chkSs n_put_at (defScope (top 20)) c_put_at.body (defBody (top 20)) = true := by decide +kernel
def d_put_at : He.DefD := ⟨("put_at", none), "put_at", "put_at", defArgs (top 20), defBody (top 20), defScope (top 20), [], []⟩
theorem s_writable : FnScope n_writable ["states", "who", "period"] (defScope (top 21)) := ⟨rfl, rfl, rfl, by decide +kernel, rfl, by decide +kernel, by decide +kernel⟩
theorem k_writable : PD.chkSs n_writable (defScope (top 21)) c_writable.body (defBody (top 21)) = true := by decide +kernel
def d_writable : He.DefD := ⟨("writable", none), "writable", "writable", defArgs (top 21), defBody (top 21), defScope (top 21), [], []⟩
theorem s_next_open : FnScope n_next_open ["clock", "states", "who", "period"] (defScope (top 22)) := ⟨rfl, rfl, rfl, by decide +kernel, rfl, by decide +kernel, by decide +kernel⟩
theorem k_next_open : PD.chkSs n_next_open (defScope (top 22)) c_next_open.body (defBody (top 22)) = true := by decide +kernel
def d_next_open : He.DefD := ⟨("next_open", none), "next_open", "next_open", defArgs (top 22), defBody (top 22), defScope (top 22), [], []⟩
theorem s_booked : FnScope n_booked ["rule", "clock", "states", "who", "date"] (defScope (top 23)) := ⟨rfl, rfl, rfl, by decide +kernel, rfl, by decide +kernel, by decide +kernel⟩
theorem k_booked : PD.chkSs n_booked (defScope (top 23)) c_booked.body (defBody (top 23)) = true := by decide +kernel
def d_booked : He.DefD := ⟨("booked", none), "booked", "booked", defArgs (top 23), defBody (top 23), defScope (top 23), [], []⟩
theorem s_unbooked : FnScope n_unbooked ["rule", "clock", "states", "who", "place"] (defScope (top 24)) := ⟨rfl, rfl, rfl, by decide +kernel, rfl, by decide +kernel, by decide +kernel⟩
theorem k_unbooked : PD.chkSs n_unbooked (defScope (top 24)) c_unbooked.body (defBody (top 24)) = true := by decide +kernel
def d_unbooked : He.DefD := ⟨("unbooked", none), "unbooked", "unbooked", defArgs (top 24), defBody (top 24), defScope (top 24), [], []⟩
theorem s_closed : FnScope n_closed ["rule", "clock", "states", "who", "period"] (defScope (top 25)) := ⟨rfl, rfl, rfl, by decide +kernel, rfl, by decide +kernel, by decide +kernel⟩
theorem k_closed : PD.chkSs n_closed (defScope (top 25)) c_closed.body (defBody (top 25)) = true := by decide +kernel
def d_closed : He.DefD := ⟨("closed", none), "closed", "closed", defArgs (top 25), defBody (top 25), defScope (top 25), [], []⟩
theorem s_can_open : FnScope n_can_open ["rule", "states", "who", "period"] (defScope (top 26)) := ⟨rfl, rfl, rfl, by decide +kernel, rfl, by decide +kernel, by decide +kernel⟩
theorem k_can_open : PD.chkSs n_can_open (defScope (top 26)) c_can_open.body (defBody (top 26)) = true := by decide +kernel
def d_can_open : He.DefD := ⟨("can_open", none), "can_open", "can_open", defArgs (top 26), defBody (top 26), defScope (top 26), [], []⟩
theorem s_voided : FnScope n_voided ["rule", "given", "period"] (defScope (top 27)) := ⟨rfl, rfl, rfl, by decide +kernel, rfl, by decide +kernel, by decide +kernel⟩
theorem k_voided : PD.chkSs n_voided (defScope (top 27)) c_voided.body (defBody (top 27)) = true := by decide +kernel
def d_voided : He.DefD := ⟨("voided", none), "voided", "voided", defArgs (top 27), defBody (top 27), defScope (top 27), [], []⟩
theorem s_can_give : FnScope n_can_give ["rule", "clock", "states", "period"] (defScope (top 28)) := ⟨rfl, rfl, rfl, by decide +kernel, rfl, by decide +kernel, by decide +kernel⟩
theorem k_can_give : PD.chkSs n_can_give (defScope (top 28)) c_can_give.body (defBody (top 28)) = true := by decide +kernel
def d_can_give : He.DefD := ⟨("can_give", none), "can_give", "can_give", defArgs (top 28), defBody (top 28), defScope (top 28), [], []⟩
theorem s_report : FnScope n_report ["rule", "sums", "given", "period"] (defScope (top 29)) := ⟨rfl, rfl, rfl, by decide +kernel, rfl, by decide +kernel, by decide +kernel⟩
theorem k_report : PD.chkSs n_report (defScope (top 29)) c_report.body (defBody (top 29)) = true := by decide +kernel
def d_report : He.DefD := ⟨("report", none), "report", "report", defArgs (top 29), defBody (top 29), defScope (top 29), [], []⟩
theorem s_after_writing : FnScope n_after_writing ["rule", "stand", "event"] (defScope (top 30)) := ⟨rfl, rfl, rfl, by decide +kernel, rfl, by decide +kernel, by decide +kernel⟩
theorem k_after_writing : PD.chkSs n_after_writing (defScope (top 30)) c_after_writing.body (defBody (top 30)) = true := by decide +kernel
def d_after_writing : He.DefD := ⟨("after_writing", none), "after_writing", "after_writing", defArgs (top 30), defBody (top 30), defScope (top 30), [], []⟩
theorem s_step : FnScope n_step ["rule", "stand", "event"] (defScope (top 31)) := ⟨rfl, rfl, rfl, by decide +kernel, rfl, by decide +kernel, by decide +kernel⟩
theorem k_step : PD.chkSs n_step (defScope (top 31)) c_step.body (defBody (top 31)) = true := by decide +kernel
def d_step : He.DefD := ⟨("step", none), "step", "step", defArgs (top 31), defBody (top 31), defScope (top 31), [], []⟩
theorem s_led : FnScope n_led ["rule", "history"] (defScope (top 32)) := ⟨rfl, rfl, rfl, by decide +kernel, rfl, by decide +kernel, by decide +kernel⟩
theorem k_led : PD.chkSs n_led (defScope (top 32)) c_led.body (defBody (top 32)) = true := by decide +kernel
def d_led : He.DefD := ⟨("led", none), "led", "led", defArgs (top 32), defBody (top 32), defScope (top 32), [], []⟩
theorem s_first_stand : FnScope n_first_stand ["rule"] (defScope (top 33)) := ⟨rfl, rfl, rfl, by decide +kernel, rfl, by decide +kernel, by decide +kernel⟩
theorem k_first_stand : PD.chkSs n_first_stand (defScope (top 33)) c_first_stand.body (defBody (top 33)) = true := by decide +kernel
def d_first_stand : He.DefD := ⟨("first_stand", none), "first_stand", "first_stand", defArgs (top 33), defBody (top 33), defScope (top 33), [], []⟩
theorem s_stand_behind : FnScope n_stand_behind ["rule", "history"] (defScope (top 34)) := ⟨rfl, rfl, rfl, by decide +kernel, rfl, by decide +kernel, by decide +kernel⟩
theorem k_stand_behind : PD.chkSs n_stand_behind (defScope (top 34)) c_stand_behind.body (defBody (top 34)) = true := by decide +kernel
def d_stand_behind : He.DefD := ⟨("stand_behind", none), "stand_behind", "stand_behind", defArgs (top 34), defBody (top 34), defScope (top 34), [], []⟩
theorem s_told : FnScope n_told ["rule", "history"] (defScope (top 35)) := ⟨rfl, rfl, rfl, by decide +kernel, rfl, by decide +kernel, by decide +kernel⟩
theorem k_told : PD.chkSs n_told (defScope (top 35)) c_told.body (defBody (top 35)) = true := by decide +kernel
def d_told : He.DefD := ⟨("told", none), "told", "told", defArgs (top 35), defBody (top 35), defScope (top 35), [], []⟩
theorem s_law_urn : FnScope n_law_urn ["_law_cell", "_law_salt"] (defScope (top 37)) := ⟨rfl, rfl, rfl, by decide +kernel, rfl, by decide +kernel, by decide +kernel⟩
theorem k_law_urn : PD.chkSs n_law_urn (defScope (top 37)) c_law_urn.body (defBody (top 37)) = true := by decide +kernel
def d_law_urn : He.DefD := ⟨("_law_urn", none), "_law_urn", "_law_urn", defArgs (top 37), defBody (top 37), defScope (top 37), [], []⟩
theorem s_law_lot : FnScope n_law_lot ["_law_urn_here", "_law_many"] (defScope (top 38)) := ⟨rfl, rfl, rfl, by decide +kernel, rfl, by decide +kernel, by decide +kernel⟩
theorem k_law_lot : PD.chkSs n_law_lot (defScope (top 38)) c_law_lot.body (defBody (top 38)) = true := by decide +kernel
def d_law_lot : He.DefD := ⟨("_law_lot", none), "_law_lot", "_law_lot", defArgs (top 38), defBody (top 38), defScope (top 38), [], []⟩
theorem s_law_any : FnScope n_law_any ["_law_urn_here", "_law_things"] (defScope (top 39)) := ⟨rfl, rfl, rfl, by decide +kernel, rfl, by decide +kernel, by decide +kernel⟩
theorem k_law_any : PD.chkSs n_law_any (defScope (top 39)) c_law_any.body (defBody (top 39)) = true := by decide +kernel
def d_law_any : He.DefD := ⟨("_law_any", none), "_law_any", "_law_any", defArgs (top 39), defBody (top 39), defScope (top 39), [], []⟩
theorem s_law_values : FnScope n_law_values [] (defScope (top 40)) := ⟨rfl, rfl, rfl, by decide +kernel, rfl, by decide +kernel, by decide +kernel⟩
theorem k_law_values : PD.chkSs n_law_values (defScope (top 40)) c_law_values.body (defBody (top 40)) = true := by decide +kernel
def d_law_values : He.DefD := ⟨("_law_values", none), "_law_values", "_law_values", defArgs (top 40), defBody (top 40), defScope (top 40), [], []⟩
theorem s_law_rule : FnScope n_law_rule ["_law_urn_here", "_law_periods"] (defScope (top 41)) := ⟨rfl, rfl, rfl, by decide +kernel, rfl, by decide +kernel, by decide +kernel⟩
theorem k_law_rule : PD.chkSs n_law_rule (defScope (top 41)) c_law_rule.body (defBody (top 41)) = true := by decide +kernel
def d_law_rule : He.DefD := ⟨("_law_rule", none), "_law_rule", "_law_rule", defArgs (top 41), defBody (top 41), defScope (top 41), [], []⟩
theorem s_law_event : FnScope n_law_event ["_law_urn_here", "_law_periods"] (defScope (top 42)) := ⟨rfl, rfl, rfl, by decide +kernel, rfl, by decide +kernel, by decide +kernel⟩
theorem k_law_event : PD.chkSs n_law_event (defScope (top 42)) c_law_event.body (defBody (top 42)) = true := by decide +kernel
def d_law_event : He.DefD := ⟨("_law_event", none), "_law_event", "_law_event", defArgs (top 42), defBody (top 42), defScope (top 42), [], []⟩
theorem s_law_history : FnScope n_law_history ["_law_urn_here", "_law_periods", "_law_most"] (defScope (top 43)) := ⟨rfl, rfl, rfl, by decide +kernel, rfl, by decide +kernel, by decide +kernel⟩
theorem k_law_history : PD.chkSs n_law_history (defScope (top 43)) c_law_history.body (defBody (top 43)) = true := by decide +kernel
def d_law_history : He.DefD := ⟨("_law_history", none), "_law_history", "_law_history", defArgs (top 43), defBody (top 43), defScope (top 43), [], []⟩
theorem s_law_new : FnScope n_law_new ["_law_rule_here"] (defScope (top 44)) := ⟨rfl, rfl, rfl, by decide +kernel, rfl, by decide +kernel, by decide +kernel⟩
theorem k_law_new : PD.chkSs n_law_new (defScope (top 44)) c_law_new.body (defBody (top 44)) = true := by decide +kernel
def d_law_new : He.DefD := ⟨("_law_new", none), "_law_new", "_law_new", defArgs (top 44), defBody (top 44), defScope (top 44), [], []⟩
theorem s_law_changed : FnScope n_law_changed ["_law_row", "_law_at", "_law_value"] (defScope (top 45)) := ⟨rfl, rfl, rfl, by decide +kernel, rfl, by decide +kernel, by decide +kernel⟩
theorem k_law_changed : PD.chkSs n_law_changed (defScope (top 45)) c_law_changed.body (defBody (top 45)) = true := by decide +kernel
def d_law_changed : He.DefD := ⟨("_law_changed", none), "_law_changed", "_law_changed", defArgs (top 45), defBody (top 45), defScope (top 45), [], []⟩
theorem s_law_writes : FnScope n_law_writes ["_law_stand", "_law_who"] (defScope (top 46)) := ⟨rfl, rfl, rfl, by decide +kernel, rfl, by decide +kernel, by decide +kernel⟩
theorem k_law_writes : PD.chkSs n_law_writes (defScope (top 46)) c_law_writes.body (defBody (top 46)) = true := by decide +kernel
def d_law_writes : He.DefD := ⟨("_law_writes", none), "_law_writes", "_law_writes", defArgs (top 46), defBody (top 46), defScope (top 46), [], []⟩
theorem s_law_put_in : FnScope n_law_put_in ["_law_rule_here", "_law_stand", "_law_who", "_law_date"] (defScope (top 47)) := ⟨rfl, rfl, rfl, by decide +kernel, rfl, by decide +kernel, by decide +kernel⟩
theorem k_law_put_in : PD.chkSs n_law_put_in (defScope (top 47)) c_law_put_in.body (defBody (top 47)) = true := by decide +kernel
def d_law_put_in : He.DefD := ⟨("_law_put_in", none), "_law_put_in", "_law_put_in", defArgs (top 47), defBody (top 47), defScope (top 47), [], []⟩
theorem s_law_put_out : FnScope n_law_put_out ["_law_rule_here", "_law_stand", "_law_who"] (defScope (top 48)) := ⟨rfl, rfl, rfl, by decide +kernel, rfl, by decide +kernel, by decide +kernel⟩
theorem k_law_put_out : PD.chkSs n_law_put_out (defScope (top 48)) c_law_put_out.body (defBody (top 48)) = true := by decide +kernel
def d_law_put_out : He.DefD := ⟨("_law_put_out", none), "_law_put_out", "_law_put_out", defArgs (top 48), defBody (top 48), defScope (top 48), [], []⟩
theorem s_law_written : FnScope n_law_written ["_law_rule_here", "_law_stand", "_law_event_here"] (defScope (top 49)) := ⟨rfl, rfl, rfl, by decide +kernel, rfl, by decide +kernel, by decide +kernel⟩
theorem k_law_written : PD.chkSs n_law_written (defScope (top 49)) c_law_written.body (defBody (top 49)) = true := by decide +kernel
def d_law_written : He.DefD := ⟨("_law_written", none), "_law_written", "_law_written", defArgs (top 49), defBody (top 49), defScope (top 49), [], []⟩
theorem s_law_shut_so : FnScope n_law_shut_so ["_law_rule_here", "_law_stand", "_law_event_here"] (defScope (top 50)) := ⟨rfl, rfl, rfl, by decide +kernel, rfl, by decide +kernel, by decide +kernel⟩
theorem k_law_shut_so : PD.chkSs n_law_shut_so (defScope (top 50)) c_law_shut_so.body (defBody (top 50)) = true := by decide +kernel
def d_law_shut_so : He.DefD := ⟨("_law_shut_so", none), "_law_shut_so", "_law_shut_so", defArgs (top 50), defBody (top 50), defScope (top 50), [], []⟩
theorem s_law_shown : FnScope n_law_shown ["_law_rule_here", "_law_stand", "_law_number"] (defScope (top 51)) := ⟨rfl, rfl, rfl, by decide +kernel, rfl, by decide +kernel, by decide +kernel⟩
theorem k_law_shown : PD.chkSs n_law_shown (defScope (top 51)) c_law_shown.body (defBody (top 51)) = true := by decide +kernel
def d_law_shown : He.DefD := ⟨("_law_shown", none), "_law_shown", "_law_shown", defArgs (top 51), defBody (top 51), defScope (top 51), [], []⟩
theorem s_law_on : FnScope n_law_on ["_law_rule_here", "_law_stand", "_law_event_here"] (defScope (top 52)) := ⟨rfl, rfl, rfl, by decide +kernel, rfl, by decide +kernel, by decide +kernel⟩
theorem k_law_on : PD.chkSs n_law_on (defScope (top 52)) c_law_on.body (defBody (top 52)) = true := by decide +kernel
def d_law_on : He.DefD := ⟨("_law_on", none), "_law_on", "_law_on", defArgs (top 52), defBody (top 52), defScope (top 52), [], []⟩
theorem s_law_told : FnScope n_law_told ["_law_rule_here", "_law_stand", "_law_event_here"] (defScope (top 53)) := ⟨rfl, rfl, rfl, by decide +kernel, rfl, by decide +kernel, by decide +kernel⟩
theorem k_law_told : PD.chkSs n_law_told (defScope (top 53)) c_law_told.body (defBody (top 53)) = true := by decide +kernel
def d_law_told : He.DefD := ⟨("_law_told", none), "_law_told", "_law_told", defArgs (top 53), defBody (top 53), defScope (top 53), [], []⟩
theorem s_law_refused : FnScope n_law_refused ["_law_rule_here", "_law_value"] (defScope (top 54)) := ⟨rfl, rfl, rfl, by decide +kernel, rfl, by decide +kernel, by decide +kernel⟩
theorem k_law_refused : PD.chkSs n_law_refused (defScope (top 54)) c_law_refused.body (defBody (top 54)) = true := by decide +kernel
def d_law_refused : He.DefD := ⟨("_law_refused", none), "_law_refused", "_law_refused", defArgs (top 54), defBody (top 54), defScope (top 54), [], []⟩
theorem s_law : FnScope n_law ["_law_script"] (defScope (top 55)) := ⟨rfl, rfl, rfl, by decide +kernel, rfl, by decide +kernel, by decide +kernel⟩
theorem k_law : PD.chkSs n_law (defScope (top 55)) c_law.body (defBody (top 55)) = true := by decide +kernel
def d_law : He.DefD := ⟨("law", none), "law", "law", defArgs (top 55), defBody (top 55), defScope (top 55), [], []⟩
def fn : List He.DefD := [d_values_of, d_is_same, d_is_value, d_is_rule, d_is_who, d_is_number, d_is_event, d_are_events, d_need_rule, d_need_history, d_begin, d_put_at, d_writable, d_next_open, d_booked, d_unbooked, d_closed, d_can_open, d_voided, d_can_give, d_report, d_after_writing, d_step, d_led, d_first_stand, d_stand_behind, d_told, d_law_urn, d_law_lot, d_law_any, d_law_values, d_law_rule, d_law_event, d_law_history, d_law_new, d_law_changed, d_law_writes, d_law_put_in, d_law_put_out, d_law_written, d_law_shut_so, d_law_shown, d_law_on, d_law_told, d_law_refused, d_law]
def fa : List He.Fa := [.glo "values_of", .glo "is_same", .glo "is_value", .glo "is_rule", .glo "is_who", .glo "is_number", .glo "is_event", .glo "are_events", .glo "need_rule", .glo "need_history", .glo "begin", .glo "put_at", .glo "writable", .glo "next_open", .glo "booked", .glo "unbooked", .glo "closed", .glo "can_open", .glo "voided", .glo "can_give", .glo "report", .glo "after_writing", .glo "step", .glo "led", .glo "first_stand", .glo "stand_behind", .glo "told", .glo "_law_urn", .glo "_law_lot", .glo "_law_any", .glo "_law_values", .glo "_law_rule", .glo "_law_event", .glo "_law_history", .glo "_law_new", .glo "_law_changed", .glo "_law_writes", .glo "_law_put_in", .glo "_law_put_out", .glo "_law_written", .glo "_law_shut_so", .glo "_law_shown", .glo "_law_on", .glo "_law_told", .glo "_law_refused", .glo "law", .glo "PART_NAMES", .glo "PEOPLE", .int "MOST_EVENTS" 60, .free "len", .free "isinstance", .free "tuple", .free "list", .free "range", .free "any", .free "all", .free "zip", .free "sorted", .free "sum", .free "int", .free "str", .free "min", .free "enumerate", .free "bool", .glo "BookError", .exc "BookError", .glo "InvalidHistory", .exc "InvalidHistory", .glo "InvalidRule", .exc "InvalidRule", .exm "InvalidRule" "InvalidHistory" false, .exm "InvalidRule" "BookError" true, .exm "InvalidHistory" "BookError" true, .exm "BookError" "BookError" true, .exm "InvalidHistory" "InvalidHistory" true, .exm "InvalidRule" "InvalidRule" true]
def loose : List Str := (["BookError", "InvalidRule", "InvalidHistory", "PART_NAMES", "PEOPLE", "MOST_EVENTS", "values_of", "is_same", "is_value", "is_rule", "is_who", "is_number", "is_event", "are_events", "need_rule", "need_history", "begin", "put_at", "writable", "next_open", "booked", "unbooked", "closed", "can_open", "voided", "can_give", "report", "after_writing", "step", "led"] : List Str) ++ (["first_stand", "stand_behind", "told", "_law_urn", "_law_lot", "_law_any", "_law_values", "_law_rule", "_law_event", "_law_history", "_law_new", "_law_changed", "_law_writes", "_law_put_in", "_law_put_out", "_law_written", "_law_shut_so", "_law_shown", "_law_on", "_law_told", "_law_refused"] : List Str)
def xt (K : PySem.W.Frag) : Bool := (He.tupB K "PART_NAMES" ((["periods", "late", "back", "show", "carry", "seal", "order", "again", "early"] : List Str).map He.Dv.str)) && (He.tupB K "PEOPLE" ((["chief", "clerk"] : List Str).map He.Dv.str))
abbrev R : PySem.W.OpenRow := PySem.W.OpenLaw.row PySem.Challenge.rw_shutbooks_k02_one_entry_event_by_event
abbrev hk : PySem.W.Hook := He.hookX 4 fa fn [] [] xt
def ob (s : PySem.W.SharedT) : He.AlX := He.obsX 4 fa fn [] [] xt (HandSHeadRun.getT s)
theorem ob_eq (s : PySem.W.SharedT) : ob s = hk.obs s.abs := He.obsX_eq (HandSHeadRun.getT_eq s)
theorem run (w : World) : HandSHeadRun.RunEq R (PySem.W.view R.prog [55]) hk ob 4000 loose w := by
  intro os
  kernel_rfl
theorem facts (hb : ∀ ns : List Int, ns.length ≤ 63 → ∃ s', PD.run T45 1 n_law.length c_law.body [.scr ns] [] = .ok (.bl true) s') {P : Program} {w : World} {K : PySem.W.Frag} {h : Heap} {mg : Str → Option Value} {f : Addr} (X : K.In h) (G : h.Ns mainGlobals mg) (hfa : mg ("law" : Str) = some (.ref f)) (c : He.SaysX fa fn [] [] xt w h K) :
    ∃ fd : FuncData, (∀ (s : Shared) (v : Value), BindsTo s fd ⟨[v], []⟩ [("_law_script", v)]) ∧ ∀ base : Heap, K.In base → base.Ns mainGlobals mg → FnOk P w K mg base CX0 46 f fd ["_law_script"] (PD.spLaw K 63) := by
  have cd := c.t.d
  obtain ⟨t0, t1⟩ := PD.ba c.more
  obtain ⟨f0, F0⟩ := cd.def_ 0 (d := d_values_of) rfl
  have g0 := He.glo_ok X G (cd.fact 0 (f := .glo "values_of") rfl)
  obtain ⟨f1, F1⟩ := cd.def_ 1 (d := d_is_same) rfl
  have g1 := He.glo_ok X G (cd.fact 1 (f := .glo "is_same") rfl)
  obtain ⟨f2, F2⟩ := cd.def_ 2 (d := d_is_value) rfl
  have g2 := He.glo_ok X G (cd.fact 2 (f := .glo "is_value") rfl)
  obtain ⟨f3, F3⟩ := cd.def_ 3 (d := d_is_rule) rfl
  have g3 := He.glo_ok X G (cd.fact 3 (f := .glo "is_rule") rfl)
  obtain ⟨f4, F4⟩ := cd.def_ 4 (d := d_is_who) rfl
  have g4 := He.glo_ok X G (cd.fact 4 (f := .glo "is_who") rfl)
  obtain ⟨f5, F5⟩ := cd.def_ 5 (d := d_is_number) rfl
  have g5 := He.glo_ok X G (cd.fact 5 (f := .glo "is_number") rfl)
  obtain ⟨f6, F6⟩ := cd.def_ 6 (d := d_is_event) rfl
  have g6 := He.glo_ok X G (cd.fact 6 (f := .glo "is_event") rfl)
  obtain ⟨f7, F7⟩ := cd.def_ 7 (d := d_are_events) rfl
  have g7 := He.glo_ok X G (cd.fact 7 (f := .glo "are_events") rfl)
  obtain ⟨f8, F8⟩ := cd.def_ 8 (d := d_need_rule) rfl
  have g8 := He.glo_ok X G (cd.fact 8 (f := .glo "need_rule") rfl)
  obtain ⟨f9, F9⟩ := cd.def_ 9 (d := d_need_history) rfl
  have g9 := He.glo_ok X G (cd.fact 9 (f := .glo "need_history") rfl)
  obtain ⟨f10, F10⟩ := cd.def_ 10 (d := d_begin) rfl
  have g10 := He.glo_ok X G (cd.fact 10 (f := .glo "begin") rfl)
  obtain ⟨f11, F11⟩ := cd.def_ 11 (d := d_put_at) rfl
  have g11 := He.glo_ok X G (cd.fact 11 (f := .glo "put_at") rfl)
  obtain ⟨f12, F12⟩ := cd.def_ 12 (d := d_writable) rfl
  have g12 := He.glo_ok X G (cd.fact 12 (f := .glo "writable") rfl)
  obtain ⟨f13, F13⟩ := cd.def_ 13 (d := d_next_open) rfl
  have g13 := He.glo_ok X G (cd.fact 13 (f := .glo "next_open") rfl)
  obtain ⟨f14, F14⟩ := cd.def_ 14 (d := d_booked) rfl
  have g14 := He.glo_ok X G (cd.fact 14 (f := .glo "booked") rfl)
  obtain ⟨f15, F15⟩ := cd.def_ 15 (d := d_unbooked) rfl
  have g15 := He.glo_ok X G (cd.fact 15 (f := .glo "unbooked") rfl)
  obtain ⟨f16, F16⟩ := cd.def_ 16 (d := d_closed) rfl
  have g16 := He.glo_ok X G (cd.fact 16 (f := .glo "closed") rfl)
  obtain ⟨f17, F17⟩ := cd.def_ 17 (d := d_can_open) rfl
  have g17 := He.glo_ok X G (cd.fact 17 (f := .glo "can_open") rfl)
  obtain ⟨f18, F18⟩ := cd.def_ 18 (d := d_voided) rfl
  have g18 := He.glo_ok X G (cd.fact 18 (f := .glo "voided") rfl)
  obtain ⟨f19, F19⟩ := cd.def_ 19 (d := d_can_give) rfl
  have g19 := He.glo_ok X G (cd.fact 19 (f := .glo "can_give") rfl)
  obtain ⟨f20, F20⟩ := cd.def_ 20 (d := d_report) rfl
  have g20 := He.glo_ok X G (cd.fact 20 (f := .glo "report") rfl)
  obtain ⟨f21, F21⟩ := cd.def_ 21 (d := d_after_writing) rfl
  have g21 := He.glo_ok X G (cd.fact 21 (f := .glo "after_writing") rfl)
  obtain ⟨f22, F22⟩ := cd.def_ 22 (d := d_step) rfl
  have g22 := He.glo_ok X G (cd.fact 22 (f := .glo "step") rfl)
  obtain ⟨f23, F23⟩ := cd.def_ 23 (d := d_led) rfl
  have g23 := He.glo_ok X G (cd.fact 23 (f := .glo "led") rfl)
  obtain ⟨f24, F24⟩ := cd.def_ 24 (d := d_first_stand) rfl
  have g24 := He.glo_ok X G (cd.fact 24 (f := .glo "first_stand") rfl)
  obtain ⟨f25, F25⟩ := cd.def_ 25 (d := d_stand_behind) rfl
  have g25 := He.glo_ok X G (cd.fact 25 (f := .glo "stand_behind") rfl)
  obtain ⟨f26, F26⟩ := cd.def_ 26 (d := d_told) rfl
  have g26 := He.glo_ok X G (cd.fact 26 (f := .glo "told") rfl)
  obtain ⟨f27, F27⟩ := cd.def_ 27 (d := d_law_urn) rfl
  have g27 := He.glo_ok X G (cd.fact 27 (f := .glo "_law_urn") rfl)
  obtain ⟨f28, F28⟩ := cd.def_ 28 (d := d_law_lot) rfl
  have g28 := He.glo_ok X G (cd.fact 28 (f := .glo "_law_lot") rfl)
  obtain ⟨f29, F29⟩ := cd.def_ 29 (d := d_law_any) rfl
  have g29 := He.glo_ok X G (cd.fact 29 (f := .glo "_law_any") rfl)
  obtain ⟨f30, F30⟩ := cd.def_ 30 (d := d_law_values) rfl
  have g30 := He.glo_ok X G (cd.fact 30 (f := .glo "_law_values") rfl)
  obtain ⟨f31, F31⟩ := cd.def_ 31 (d := d_law_rule) rfl
  have g31 := He.glo_ok X G (cd.fact 31 (f := .glo "_law_rule") rfl)
  obtain ⟨f32, F32⟩ := cd.def_ 32 (d := d_law_event) rfl
  have g32 := He.glo_ok X G (cd.fact 32 (f := .glo "_law_event") rfl)
  obtain ⟨f33, F33⟩ := cd.def_ 33 (d := d_law_history) rfl
  have g33 := He.glo_ok X G (cd.fact 33 (f := .glo "_law_history") rfl)
  obtain ⟨f34, F34⟩ := cd.def_ 34 (d := d_law_new) rfl
  have g34 := He.glo_ok X G (cd.fact 34 (f := .glo "_law_new") rfl)
  obtain ⟨f35, F35⟩ := cd.def_ 35 (d := d_law_changed) rfl
  have g35 := He.glo_ok X G (cd.fact 35 (f := .glo "_law_changed") rfl)
  obtain ⟨f36, F36⟩ := cd.def_ 36 (d := d_law_writes) rfl
  have g36 := He.glo_ok X G (cd.fact 36 (f := .glo "_law_writes") rfl)
  obtain ⟨f37, F37⟩ := cd.def_ 37 (d := d_law_put_in) rfl
  have g37 := He.glo_ok X G (cd.fact 37 (f := .glo "_law_put_in") rfl)
  obtain ⟨f38, F38⟩ := cd.def_ 38 (d := d_law_put_out) rfl
  have g38 := He.glo_ok X G (cd.fact 38 (f := .glo "_law_put_out") rfl)
  obtain ⟨f39, F39⟩ := cd.def_ 39 (d := d_law_written) rfl
  have g39 := He.glo_ok X G (cd.fact 39 (f := .glo "_law_written") rfl)
  obtain ⟨f40, F40⟩ := cd.def_ 40 (d := d_law_shut_so) rfl
  have g40 := He.glo_ok X G (cd.fact 40 (f := .glo "_law_shut_so") rfl)
  obtain ⟨f41, F41⟩ := cd.def_ 41 (d := d_law_shown) rfl
  have g41 := He.glo_ok X G (cd.fact 41 (f := .glo "_law_shown") rfl)
  obtain ⟨f42, F42⟩ := cd.def_ 42 (d := d_law_on) rfl
  have g42 := He.glo_ok X G (cd.fact 42 (f := .glo "_law_on") rfl)
  obtain ⟨f43, F43⟩ := cd.def_ 43 (d := d_law_told) rfl
  have g43 := He.glo_ok X G (cd.fact 43 (f := .glo "_law_told") rfl)
  obtain ⟨f44, F44⟩ := cd.def_ 44 (d := d_law_refused) rfl
  have g44 := He.glo_ok X G (cd.fact 44 (f := .glo "_law_refused") rfl)
  obtain ⟨f45, F45⟩ := cd.def_ 45 (d := d_law) rfl
  have e := hfa.symm.trans (He.glo_ok X G (cd.fact 45 (f := .glo "law") rfl))
  cases e
  have b0 := F0.bindsN (ps := ["part"]) fun _ _ _ _ _ _ us hl => match us, hl with | [_], _ => rfl
  have b1 := F1.bindsN (ps := ["one", "other"]) fun _ _ _ _ _ _ us hl => match us, hl with | [_, _], _ => rfl
  have b2 := F2.bindsN (ps := ["part", "value"]) fun _ _ _ _ _ _ us hl => match us, hl with | [_, _], _ => rfl
  have b3 := F3.bindsN (ps := ["value"]) fun _ _ _ _ _ _ us hl => match us, hl with | [_], _ => rfl
  have b4 := F4.bindsN (ps := ["value"]) fun _ _ _ _ _ _ us hl => match us, hl with | [_], _ => rfl
  have b5 := F5.bindsN (ps := ["value", "low", "high"]) fun _ _ _ _ _ _ us hl => match us, hl with | [_, _, _], _ => rfl
  have b6 := F6.bindsN (ps := ["periods", "value"]) fun _ _ _ _ _ _ us hl => match us, hl with | [_, _], _ => rfl
  have b7 := F7.bindsN (ps := ["periods", "value"]) fun _ _ _ _ _ _ us hl => match us, hl with | [_, _], _ => rfl
  have b8 := F8.bindsN (ps := ["rule"]) fun _ _ _ _ _ _ us hl => match us, hl with | [_], _ => rfl
  have b9 := F9.bindsN (ps := ["rule", "history"]) fun _ _ _ _ _ _ us hl => match us, hl with | [_, _], _ => rfl
  have b10 := F10.bindsN (ps := ["rule"]) fun _ _ _ _ _ _ us hl => match us, hl with | [_], _ => rfl
  have b11 := F11.bindsN (ps := ["row", "at", "value"]) fun _ _ _ _ _ _ us hl => match us, hl with | [_, _, _], _ => rfl
  have b12 := F12.bindsN (ps := ["states", "who", "period"]) fun _ _ _ _ _ _ us hl => match us, hl with | [_, _, _], _ => rfl
  have b13 := F13.bindsN (ps := ["clock", "states", "who", "period"]) fun _ _ _ _ _ _ us hl => match us, hl with | [_, _, _, _], _ => rfl
  have b14 := F14.bindsN (ps := ["rule", "clock", "states", "who", "date"]) fun _ _ _ _ _ _ us hl => match us, hl with | [_, _, _, _, _], _ => rfl
  have b15 := F15.bindsN (ps := ["rule", "clock", "states", "who", "place"]) fun _ _ _ _ _ _ us hl => match us, hl with | [_, _, _, _, _], _ => rfl
  have b16 := F16.bindsN (ps := ["rule", "clock", "states", "who", "period"]) fun _ _ _ _ _ _ us hl => match us, hl with | [_, _, _, _, _], _ => rfl
  have b17 := F17.bindsN (ps := ["rule", "states", "who", "period"]) fun _ _ _ _ _ _ us hl => match us, hl with | [_, _, _, _], _ => rfl
  have b18 := F18.bindsN (ps := ["rule", "given", "period"]) fun _ _ _ _ _ _ us hl => match us, hl with | [_, _, _], _ => rfl
  have b19 := F19.bindsN (ps := ["rule", "clock", "states", "period"]) fun _ _ _ _ _ _ us hl => match us, hl with | [_, _, _, _], _ => rfl
  have b20 := F20.bindsN (ps := ["rule", "sums", "given", "period"]) fun _ _ _ _ _ _ us hl => match us, hl with | [_, _, _, _], _ => rfl
  have b21 := F21.bindsN (ps := ["rule", "stand", "event"]) fun _ _ _ _ _ _ us hl => match us, hl with | [_, _, _], _ => rfl
  have b22 := F22.bindsN (ps := ["rule", "stand", "event"]) fun _ _ _ _ _ _ us hl => match us, hl with | [_, _, _], _ => rfl
  have b23 := F23.bindsN (ps := ["rule", "history"]) fun _ _ _ _ _ _ us hl => match us, hl with | [_, _], _ => rfl
  have b24 := F24.bindsN (ps := ["rule"]) fun _ _ _ _ _ _ us hl => match us, hl with | [_], _ => rfl
  have b25 := F25.bindsN (ps := ["rule", "history"]) fun _ _ _ _ _ _ us hl => match us, hl with | [_, _], _ => rfl
  have b26 := F26.bindsN (ps := ["rule", "history"]) fun _ _ _ _ _ _ us hl => match us, hl with | [_, _], _ => rfl
  have b27 := F27.bindsN (ps := ["_law_cell", "_law_salt"]) fun _ _ _ _ _ _ us hl => match us, hl with | [_, _], _ => rfl
  have b28 := F28.bindsN (ps := ["_law_urn_here", "_law_many"]) fun _ _ _ _ _ _ us hl => match us, hl with | [_, _], _ => rfl
  have b29 := F29.bindsN (ps := ["_law_urn_here", "_law_things"]) fun _ _ _ _ _ _ us hl => match us, hl with | [_, _], _ => rfl
  have b30 := F30.bindsN (ps := []) fun _ _ _ _ _ _ us hl => match us, hl with | [], _ => rfl
  have b31 := F31.bindsN (ps := ["_law_urn_here", "_law_periods"]) fun _ _ _ _ _ _ us hl => match us, hl with | [_, _], _ => rfl
  have b32 := F32.bindsN (ps := ["_law_urn_here", "_law_periods"]) fun _ _ _ _ _ _ us hl => match us, hl with | [_, _], _ => rfl
  have b33 := F33.bindsN (ps := ["_law_urn_here", "_law_periods", "_law_most"]) fun _ _ _ _ _ _ us hl => match us, hl with | [_, _, _], _ => rfl
  have b34 := F34.bindsN (ps := ["_law_rule_here"]) fun _ _ _ _ _ _ us hl => match us, hl with | [_], _ => rfl
  have b35 := F35.bindsN (ps := ["_law_row", "_law_at", "_law_value"]) fun _ _ _ _ _ _ us hl => match us, hl with | [_, _, _], _ => rfl
  have b36 := F36.bindsN (ps := ["_law_stand", "_law_who"]) fun _ _ _ _ _ _ us hl => match us, hl with | [_, _], _ => rfl
  have b37 := F37.bindsN (ps := ["_law_rule_here", "_law_stand", "_law_who", "_law_date"]) fun _ _ _ _ _ _ us hl => match us, hl with | [_, _, _, _], _ => rfl
  have b38 := F38.bindsN (ps := ["_law_rule_here", "_law_stand", "_law_who"]) fun _ _ _ _ _ _ us hl => match us, hl with | [_, _, _], _ => rfl
  have b39 := F39.bindsN (ps := ["_law_rule_here", "_law_stand", "_law_event_here"]) fun _ _ _ _ _ _ us hl => match us, hl with | [_, _, _], _ => rfl
  have b40 := F40.bindsN (ps := ["_law_rule_here", "_law_stand", "_law_event_here"]) fun _ _ _ _ _ _ us hl => match us, hl with | [_, _, _], _ => rfl
  have b41 := F41.bindsN (ps := ["_law_rule_here", "_law_stand", "_law_number"]) fun _ _ _ _ _ _ us hl => match us, hl with | [_, _, _], _ => rfl
  have b42 := F42.bindsN (ps := ["_law_rule_here", "_law_stand", "_law_event_here"]) fun _ _ _ _ _ _ us hl => match us, hl with | [_, _, _], _ => rfl
  have b43 := F43.bindsN (ps := ["_law_rule_here", "_law_stand", "_law_event_here"]) fun _ _ _ _ _ _ us hl => match us, hl with | [_, _, _], _ => rfl
  have b44 := F44.bindsN (ps := ["_law_rule_here", "_law_value"]) fun _ _ _ _ _ _ us hl => match us, hl with | [_, _], _ => rfl
  have b := FunD.bindsA (ps := ["_law_script"]) F45 fun _ _ _ _ _ _ us hl => match us, hl with | [_], _ => rfl
  refine ⟨f45, fun s v => b s [v] rfl, fun base _ _ => ?_⟩
  have hg : ∀ p ∈ gl, PD.GlOk K mg p.1 p.2 := by
    intro p hp
    unfold gl at hp
    simp only [List.mem_cons, List.not_mem_nil, or_false] at hp
    rcases hp with rfl | rfl | rfl
    · exact PD.glTup X G (cd.fact 46 (f := .glo "PART_NAMES") rfl) t0
    · exact PD.glTup X G (cd.fact 47 (f := .glo "PEOPLE") rfl) t1
    · exact PD.glInt X G (cd.fact 48 (f := .int "MOST_EVENTS" 60) rfl)
  have hf : ∀ p ∈ PD.boots, mg p.1 = none := by
    intro p hp
    unfold PD.boots at hp
    simp only [List.mem_cons, List.not_mem_nil, or_false] at hp
    rcases hp with rfl | rfl | rfl | rfl | rfl | rfl | rfl | rfl | rfl | rfl | rfl | rfl | rfl | rfl | rfl
    · exact He.free_ok X G (cd.fact 49 (f := .free "len") rfl)
    · exact He.free_ok X G (cd.fact 50 (f := .free "isinstance") rfl)
    · exact He.free_ok X G (cd.fact 51 (f := .free "tuple") rfl)
    · exact He.free_ok X G (cd.fact 52 (f := .free "list") rfl)
    · exact He.free_ok X G (cd.fact 53 (f := .free "range") rfl)
    · exact He.free_ok X G (cd.fact 54 (f := .free "any") rfl)
    · exact He.free_ok X G (cd.fact 55 (f := .free "all") rfl)
    · exact He.free_ok X G (cd.fact 56 (f := .free "zip") rfl)
    · exact He.free_ok X G (cd.fact 57 (f := .free "sorted") rfl)
    · exact He.free_ok X G (cd.fact 58 (f := .free "sum") rfl)
    · exact He.free_ok X G (cd.fact 59 (f := .free "int") rfl)
    · exact He.free_ok X G (cd.fact 60 (f := .free "str") rfl)
    · exact He.free_ok X G (cd.fact 61 (f := .free "min") rfl)
    · exact He.free_ok X G (cd.fact 62 (f := .free "enumerate") rfl)
    · exact He.free_ok X G (cd.fact 63 (f := .free "bool") rfl)
  have hx : ∀ p ∈ exl, (He.Fa.glo p.1.1).ok K = true ∧ (He.Fa.glo p.1.2).ok K = true ∧ (He.Fa.exm p.1.1 p.1.2 p.2).ok K = true ∧ (p.1.1 = p.1.2 → (He.Fa.exc p.1.1).ok K = true) := by
    intro p hp
    unfold exl at hp
    simp only [List.mem_cons, List.not_mem_nil, or_false] at hp
    rcases hp with rfl | rfl | rfl | rfl | rfl | rfl
    · exact ⟨cd.fact 68 (f := .glo "InvalidRule") rfl, cd.fact 66 (f := .glo "InvalidHistory") rfl, cd.fact 70 (f := .exm "InvalidRule" "InvalidHistory" false) rfl, fun e => absurd e (by decide +kernel)⟩
    · exact ⟨cd.fact 68 (f := .glo "InvalidRule") rfl, cd.fact 64 (f := .glo "BookError") rfl, cd.fact 71 (f := .exm "InvalidRule" "BookError" true) rfl, fun e => absurd e (by decide +kernel)⟩
    · exact ⟨cd.fact 66 (f := .glo "InvalidHistory") rfl, cd.fact 64 (f := .glo "BookError") rfl, cd.fact 72 (f := .exm "InvalidHistory" "BookError" true) rfl, fun e => absurd e (by decide +kernel)⟩
    · exact ⟨cd.fact 64 (f := .glo "BookError") rfl, cd.fact 64 (f := .glo "BookError") rfl, cd.fact 73 (f := .exm "BookError" "BookError" true) rfl, fun e => cd.fact 65 (f := .exc "BookError") rfl⟩
    · exact ⟨cd.fact 66 (f := .glo "InvalidHistory") rfl, cd.fact 66 (f := .glo "InvalidHistory") rfl, cd.fact 74 (f := .exm "InvalidHistory" "InvalidHistory" true) rfl, fun e => cd.fact 67 (f := .exc "InvalidHistory") rfl⟩
    · exact ⟨cd.fact 68 (f := .glo "InvalidRule") rfl, cd.fact 68 (f := .glo "InvalidRule") rfl, cd.fact 75 (f := .exm "InvalidRule" "InvalidRule" true) rfl, fun e => cd.fact 69 (f := .exc "InvalidRule") rfl⟩
  have h0 : PD.TabOk P w K mg base 0 T0 := PD.TabOk.nil (PD.exAll X G hx) (PD.glAll hg) (PD.bootAll hf)
  have h1 : PD.TabOk P w K mg base 1 T1 := h0.add (d := c_law_urn) F27 g27 s_law_urn b27 rfl rfl k_law_urn
  have h2 : PD.TabOk P w K mg base 2 T2 := h1.add (d := c_is_same) F1 g1 s_is_same b1 rfl rfl k_is_same
  have h3 : PD.TabOk P w K mg base 3 T3 := h2.add (d := c_values_of) F0 g0 s_values_of b0 rfl rfl k_values_of
  have h4 : PD.TabOk P w K mg base 4 T4 := h3.add (d := c_is_value) F2 g2 s_is_value b2 rfl rfl k_is_value
  have h5 : PD.TabOk P w K mg base 5 T5 := h4.add (d := c_is_rule) F3 g3 s_is_rule b3 rfl rfl k_is_rule
  have h6 : PD.TabOk P w K mg base 6 T6 := h5.add (d := c_need_rule) F8 g8 s_need_rule b8 rfl rfl k_need_rule
  have h7 : PD.TabOk P w K mg base 7 T7 := h6.add (d := c_is_who) F4 g4 s_is_who b4 rfl rfl k_is_who
  have h8 : PD.TabOk P w K mg base 8 T8 := h7.add (d := c_is_number) F5 g5 s_is_number b5 rfl rfl k_is_number
  have h9 : PD.TabOk P w K mg base 9 T9 := h8.add (d := c_is_event) F6 g6 s_is_event b6 rfl rfl k_is_event
  have h10 : PD.TabOk P w K mg base 10 T10 := h9.add (d := c_are_events) F7 g7 s_are_events b7 rfl rfl k_are_events
  have h11 : PD.TabOk P w K mg base 11 T11 := h10.add (d := c_need_history) F9 g9 s_need_history b9 rfl rfl k_need_history
  have h12 : PD.TabOk P w K mg base 12 T12 := h11.add (d := c_begin) F10 g10 s_begin b10 rfl rfl k_begin
  have h13 : PD.TabOk P w K mg base 13 T13 := h12.add (d := c_writable) F12 g12 s_writable b12 rfl rfl k_writable
  have h14 : PD.TabOk P w K mg base 14 T14 := h13.add (d := c_next_open) F13 g13 s_next_open b13 rfl rfl k_next_open
  have h15 : PD.TabOk P w K mg base 15 T15 := h14.add (d := c_booked) F14 g14 s_booked b14 rfl rfl k_booked
  have h16 : PD.TabOk P w K mg base 16 T16 := h15.add (d := c_unbooked) F15 g15 s_unbooked b15 rfl rfl k_unbooked
  have h17 : PD.TabOk P w K mg base 17 T17 := h16.add (d := c_put_at) F11 g11 s_put_at b11 rfl rfl k_put_at
  have h18 : PD.TabOk P w K mg base 18 T18 := h17.add (d := c_after_writing) F21 g21 s_after_writing b21 rfl rfl k_after_writing
  have h19 : PD.TabOk P w K mg base 19 T19 := h18.add (d := c_report) F20 g20 s_report b20 rfl rfl k_report
  have h20 : PD.TabOk P w K mg base 20 T20 := h19.add (d := c_closed) F16 g16 s_closed b16 rfl rfl k_closed
  have h21 : PD.TabOk P w K mg base 21 T21 := h20.add (d := c_voided) F18 g18 s_voided b18 rfl rfl k_voided
  have h22 : PD.TabOk P w K mg base 22 T22 := h21.add (d := c_can_give) F19 g19 s_can_give b19 rfl rfl k_can_give
  have h23 : PD.TabOk P w K mg base 23 T23 := h22.add (d := c_can_open) F17 g17 s_can_open b17 rfl rfl k_can_open
  have h24 : PD.TabOk P w K mg base 24 T24 := h23.add (d := c_step) F22 g22 s_step b22 rfl rfl k_step
  have h25 : PD.TabOk P w K mg base 25 T25 := h24.add (d := c_led) F23 g23 s_led b23 rfl rfl k_led
  have h26 : PD.TabOk P w K mg base 26 T26 := h25.add (d := c_told) F26 g26 s_told b26 rfl rfl k_told
  have h27 : PD.TabOk P w K mg base 27 T27 := h26.add (d := c_stand_behind) F25 g25 s_stand_behind b25 rfl rfl k_stand_behind
  have h28 : PD.TabOk P w K mg base 28 T28 := h27.add (d := c_law_lot) F28 g28 s_law_lot b28 rfl rfl k_law_lot
  have h29 : PD.TabOk P w K mg base 29 T29 := h28.add (d := c_law_any) F29 g29 s_law_any b29 rfl rfl k_law_any
  have h30 : PD.TabOk P w K mg base 30 T30 := h29.add (d := c_law_values) F30 g30 s_law_values b30 rfl rfl k_law_values
  have h31 : PD.TabOk P w K mg base 31 T31 := h30.add (d := c_law_rule) F31 g31 s_law_rule b31 rfl rfl k_law_rule
  have h32 : PD.TabOk P w K mg base 32 T32 := h31.add (d := c_law_event) F32 g32 s_law_event b32 rfl rfl k_law_event
  have h33 : PD.TabOk P w K mg base 33 T33 := h32.add (d := c_law_history) F33 g33 s_law_history b33 rfl rfl k_law_history
  have h34 : PD.TabOk P w K mg base 34 T34 := h33.add (d := c_law_new) F34 g34 s_law_new b34 rfl rfl k_law_new
  have h35 : PD.TabOk P w K mg base 35 T35 := h34.add (d := c_first_stand) F24 g24 s_first_stand b24 rfl rfl k_first_stand
  have h36 : PD.TabOk P w K mg base 36 T36 := h35.add (d := c_law_shown) F41 g41 s_law_shown b41 rfl rfl k_law_shown
  have h37 : PD.TabOk P w K mg base 37 T37 := h36.add (d := c_law_changed) F35 g35 s_law_changed b35 rfl rfl k_law_changed
  have h38 : PD.TabOk P w K mg base 38 T38 := h37.add (d := c_law_shut_so) F40 g40 s_law_shut_so b40 rfl rfl k_law_shut_so
  have h39 : PD.TabOk P w K mg base 39 T39 := h38.add (d := c_law_writes) F36 g36 s_law_writes b36 rfl rfl k_law_writes
  have h40 : PD.TabOk P w K mg base 40 T40 := h39.add (d := c_law_put_in) F37 g37 s_law_put_in b37 rfl rfl k_law_put_in
  have h41 : PD.TabOk P w K mg base 41 T41 := h40.add (d := c_law_put_out) F38 g38 s_law_put_out b38 rfl rfl k_law_put_out
  have h42 : PD.TabOk P w K mg base 42 T42 := h41.add (d := c_law_written) F39 g39 s_law_written b39 rfl rfl k_law_written
  have h43 : PD.TabOk P w K mg base 43 T43 := h42.add (d := c_law_on) F42 g42 s_law_on b42 rfl rfl k_law_on
  have h44 : PD.TabOk P w K mg base 44 T44 := h43.add (d := c_law_refused) F44 g44 s_law_refused b44 rfl rfl k_law_refused
  have h45 : PD.TabOk P w K mg base 45 T45 := h44.add (d := c_law_told) F43 g43 s_law_told b43 rfl rfl k_law_told
  exact PD.lawOk_of F45 s_law rfl h45 k_law hb
end LW

set_option Elab.async false
set_option linter.all false
set_option maxRecDepth 100000
set_option maxHeartbeats 0
open PySem PySem.W PySem.Calls PyProof.Rows
theorem PySem.Challenge.cw_shutbooks_k02_one_entry_event_by_event_holds : PySem.Challenge.rw_shutbooks_k02_one_entry_event_by_event.Holds := by
  w_on; o_law
  refine HandSHeadRun.head_any (r := OpenLaw.row PySem.Challenge.rw_shutbooks_k02_one_entry_event_by_event) (q := view (OpenLaw.row PySem.Challenge.rw_shutbooks_k02_one_entry_event_by_event).prog [55]) (H := LW.hk) (ob := LW.ob) (M := 4000) (loose := LW.loose) (d := HandSHeadRun.topDef (OpenLaw.row PySem.Challenge.rw_shutbooks_k02_one_entry_event_by_event).prog 55) (kwd := []) LW.ob_eq
    (by kernel_rfl) (fun s => by kernel_rfl) LW.run (by kernel_rfl) (by kernel_rfl) (by kernel_rfl) (by rfl) (by first | assumption | decide +kernel) (by decide +kernel) ⟨rfl, rfl, rfl, rfl, rfl, by decide +kernel⟩ ?hw ?hc
  case hw => w_witness2
  case hc =>
    refine L2.walk_ofE (l := PySem.Challenge.rw_shutbooks_k02_one_entry_event_by_event) (n := 63) (k := 46) (x := "_law_script") (CX := L2.CX0) rfl (by decide) (by kernel_rfl) ⟨rfl, by decide, by decide⟩ ?F (fun _ _ _ _ z => z)
    intro w mg fa h Y G hmg0
    obtain ⟨K, KX, c⟩ := Y
    have hmg : mg ("law" : PySem.Str) = some (.ref fa) := by
      have e : (HandSHeadRun.topDef (OpenLaw.row PySem.Challenge.rw_shutbooks_k02_one_entry_event_by_event).prog 55).name = ("law" : PySem.Str) := by kernel_rfl
      rw [← e]
      exact hmg0
    obtain ⟨fd, hb, hF⟩ := LW.facts LW.law_true (P := (PySem.Challenge.rw_shutbooks_k02_one_entry_event_by_event).prog) (w := w) KX G hmg c
    exact ⟨K, fd, PD.spLaw K 63, KX, hb, fun H a ns hl hO hS => ⟨a, ns, rfl, hl, hO, hS, fun _ => rfl⟩, hF⟩

