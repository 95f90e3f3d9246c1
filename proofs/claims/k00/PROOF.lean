import PyProof.Rows.All
import Wide.All
import OpenK.AllK
import Wide.FinOn
import KE.LtData
import KE.DataEq
import KE.DataCmp
import HandS.ForMost
import HandS.ForExc
import HandS.Star
import HandS.TryMany
import HandS.Deep
import HandS.TupAny
import HandS.TupMul
import HandS.Walk
import HandS.Zip
import HandS.IsInst
import HandS.Flow
import HandS.Style
import HandS.DictComp
import HandS.Lambda
import KE.GoesEnum
import HandS.WordsExc
import HandS.SortInts
import HandS.More
import HandS.Text
import HandS.RevRange
import KE.KExcSuper
import HandS.ExcInit
import HandS.ClsMeth
import HandS.ExcField
import HandS.EndTab
import HandS.Head0
import HandS.Head1
import HandS.Head2
import HandS.HeadHook4
import HandS.HeadWalk
import PySem.Challenge.RW_wordclaims_k00_whole_papers_turned_joine
set_option Elab.async false
set_option linter.all false
set_option maxRecDepth 100000
/-! Wc.Sem: the plain meaning of the program's constructs, over data alone. -/
namespace Wc
abbrev D := PySem.PyData
abbrev Env := List (Option D)
/-- the owned places' values -/
abbrev Om := List (Option D)
def LIM : Nat := 16777216
/-- an own exception: its class's name, its fields -/
structure Exn where
  cls : String
  fs : List (String × D)
inductive Res (α : Type) where
  | ok (a : α) (ω : Om)
  | ex (x : Exn) (ω : Om)
  | bad
abbrev M (α : Type) := Om → Res α
namespace M
def pure {α : Type} (a : α) : M α := fun ω => .ok a ω
def bind {α β : Type} (m : M α) (f : α → M β) : M β := fun ω => match m ω with
  | .ok a ω' => f a ω'
  | .ex x ω' => .ex x ω'
  | .bad => .bad
def lift {α : Type} : Option α → M α
  | some a => fun ω => .ok a ω
  | none => fun _ => .bad
end M
/-- what a def makes of its shared arguments and its own ones -/
abbrev FM := List D → M D
abbrev EE := Env → M D

/-! ### data -/
def truth : D → Option Bool
  | .none => some false
  | .bool b => some b
  | .int i => some (i != 0)
  | .str x => some (x.length != 0)
  | .list xs => some (!xs.isEmpty)
  | .tuple xs => some (!xs.isEmpty)
  | .dict _ => none
def small64 (i : Int) : Bool := decide (-(2 ^ 64) < i) && decide (i < 2 ^ 64)
inductive Op where
  | add | sub | mul | fdiv | mod | pow
  deriving DecidableEq
def opD : Op → D → D → Option D
  | .add, .int i, .int j => some (.int (i + j))
  | .add, .str x, .str y => if x.length + y.length ≤ LIM then some (.str (x ++ y)) else none
  | .add, .tuple xs, .tuple ys => if xs.length + ys.length ≤ LIM then some (.tuple (xs ++ ys)) else none
  | .add, .list xs, .list ys => if xs.length + ys.length ≤ LIM then some (.list (xs ++ ys)) else none
  | .sub, .int i, .int j => some (.int (i - j))
  | .mul, .int i, .int j => if small64 i || small64 j then some (.int (i * j)) else none
  | .mul, .tuple xs, .int j => if decide (xs ≠ []) && decide (2 ≤ j) && decide (j ≤ 1000) && decide (xs.length ≤ 1000) then some (.tuple (List.replicate j.toNat xs).flatten) else none
  | .fdiv, .int i, .int j => if decide (j ≠ 0) && decide (j.natAbs < 1073741824) then some (.int (i.fdiv j)) else none
  | .mod, .int i, .int j => if j ≠ 0 then some (.int (i.fmod j)) else none
  | .pow, .int i, .int j => if decide (0 ≤ j) && decide (j ≤ 1000000) && decide (i.natAbs < 2 ^ 64) then some (.int (i ^ j.toNat)) else none
  | _, _, _ => none
/-- alike within two kinds of comparison -/
def eqOk (d e : D) : Bool := d.plain && e.plain && decide (d.depth ≤ 64) && decide (e.depth ≤ 64)
def keyOf : D → Option (Sum Int PySem.Str)
  | .int i => some (.inl i)
  | .str x => some (.inr x)
  | _ => none
def kD : Sum Int PySem.Str → D
  | .inl i => .int i
  | .inr x => .str x
/-- what a dict holds for a key -/
def dget (kvs : List (D × D)) (k : D) : Option D := (kvs.find? fun kv => PySem.PyData.eqv kv.1 k).map (·.2)
def dput (kvs : List (D × D)) (k v : D) : List (D × D) :=
  if (kvs.any fun kv => PySem.PyData.eqv kv.1 k) then kvs.map (fun kv => if PySem.PyData.eqv kv.1 k then (kv.1, v) else kv) else kvs ++ [(k, v)]
inductive Cmp where
  | eq | ne | lt | le | gt | ge | mem | nmem | isN | notN
  deriving DecidableEq
def notNone : D → Bool
  | .none => false
  | _ => true
def ltD (d e : D) : Option Bool :=
  if eqOk d e && PySem.W.alike d e && notNone d then some (PySem.W.dataLt d e) else none
def gtD (d e : D) : Option Bool :=
  if eqOk d e && PySem.W.alike d e && notNone d then some (PySem.W.dataLt e d) else none
def memD (d : D) : D → Option Bool
  | .list xs => if eqOk d (.list xs) then some (xs.any fun y => PySem.PyData.eqv y d) else none
  | .tuple xs => if eqOk d (.tuple xs) then some (xs.any fun y => PySem.PyData.eqv y d) else none
  | .dict kvs => match keyOf d with
    | some _ => some (dget kvs d).isSome
    | none => none
  | .str z => match d with
    | .str y => match y.cps.toList with
      | [c] => some (decide (c ∈ z.cps.toList))
      | _ => none
    | _ => none
  | _ => none
def cmpB : Cmp → D → D → Option Bool
  | .eq, d, e => if eqOk d e then some (PySem.PyData.eqv d e) else none
  | .ne, d, e => if eqOk d e then some (!PySem.PyData.eqv d e) else none
  | .lt, .int i, .int j => some (decide (i < j))
  | .le, .int i, .int j => some (decide (i ≤ j))
  | .gt, .int i, .int j => some (decide (j < i))
  | .ge, .int i, .int j => some (decide (j ≤ i))
  | .lt, d, e => ltD d e
  | .gt, d, e => gtD d e
  | .le, d, e => (gtD d e).map (!·)
  | .ge, d, e => (ltD d e).map (!·)
  | .mem, d, e => memD d e
  | .nmem, d, e => (memD d e).map (!·)
  | .isN, d, .none => some (!notNone d)
  | .notN, d, .none => some (notNone d)
  | .isN, .bool c, .bool b => some (c == b)
  | .notN, .bool c, .bool b => some (!(c == b))
  | _, _, _ => none
def cmpD (c : Cmp) (d e : D) : Option D := (cmpB c d e).map .bool
/-- an index of either sign -/
def ixN (n : Nat) (i : Int) : Option Nat := if 0 ≤ i then (if i < n then some i.toNat else none) else if -(n : Int) ≤ i then some (i + n).toNat else none
def idxD : D → D → Option D
  | .list xs, .int i => (ixN xs.length i).bind fun k => xs[k]?
  | .tuple xs, .int i => (ixN xs.length i).bind fun k => xs[k]?
  | .str z, .int i => (ixN z.cps.toList.length i).bind fun k => (z.cps.toList[k]?).map fun c => .str ⟨#[c]⟩
  | _, _ => none
/-- d[k] -/
def dgetD : D → D → Option D
  | .dict kvs, k => match keyOf k with
    | some _ => dget kvs k
    | none => none
  | _, _ => none
/-- a slice's bound -/
def sB (n d : Nat) : Option Int → Nat
  | none => d
  | some v => if v < 0 then (v + (n : Int)).toNat else min v.toNat n
def cutL {α : Type} (xs : List α) (lo hi : Option Int) : List α := (xs.drop (sB xs.length 0 lo)).take (sB xs.length xs.length hi - sB xs.length 0 lo)
def slD : D → Option Int → Option Int → Option D
  | .list xs, lo, hi => some (.list (cutL xs lo hi))
  | .tuple xs, lo, hi => some (.tuple (cutL xs lo hi))
  | .str z, lo, hi => some (.str ⟨(cutL z.cps.toList lo hi).toArray⟩)
  | _, _, _ => none
def revD : D → Option D
  | .list xs => some (.list xs.reverse)
  | .tuple xs => some (.tuple xs.reverse)
  | _ => none
def lenD : D → Option D
  | .list xs => some (.int xs.length)
  | .tuple xs => some (.int xs.length)
  | .str z => some (.int z.cps.toList.length)
  | .dict kvs => some (.int kvs.length)
  | _ => none
/-- the items of what a display's star, a loop, tuple(..) take -/
def itemsD : D → Option (List D)
  | .list xs => some xs
  | .tuple xs => some xs
  | .str z => some (z.cps.toList.map fun c => .str ⟨#[c]⟩)
  | _ => none
def seqD : D → Option (List D)
  | .list xs => some xs
  | .tuple xs => some xs
  | _ => none
def tupD (d : D) : Option D := (seqD d).map .tuple
def lstD (d : D) : Option D := (seqD d).map .list
def intD : D → Option D
  | .int i => some (.int i)
  | .bool b => some (.int (if b then 1 else 0))
  | _ => none
def absD : D → Option D
  | .int i => some (.int (if i < 0 then -i else i))
  | _ => none
def boolOf : D → Option Bool
  | .bool b => some b
  | _ => none
def allD : D → Option D
  | .list xs => (xs.mapM boolOf).map fun bs => .bool (bs.all id)
  | _ => none
def anyD : D → Option D
  | .list xs => (xs.mapM boolOf).map fun bs => .bool (bs.any id)
  | _ => none
def strOf : D → Option PySem.Str
  | .str x => some x
  | _ => none
/-- the kinds that isinstance tells -/
inductive Ty where
  | int | bool | str | tuple | list | dict
  deriving DecidableEq
def isTy : Ty → D → Bool
  | .int, .int _ => true
  | .int, .bool _ => true
  | .bool, .bool _ => true
  | .str, .str _ => true
  | .tuple, .tuple _ => true
  | .list, .list _ => true
  | .dict, .dict _ => true
  | _, _ => false
def negD : D → Option D
  | .int i => some (.int (-i))
  | _ => none

/-! ### expressions -/
def eVar (i : Nat) : EE := fun ρ => match ρ[i]? with
  | some (some d) => M.pure d
  | _ => fun _ => .bad
/-- an owned place, read -/
def eOwn (j : Nat) : EE := fun _ ω => match ω[j]? with
  | some (some d) => .ok d ω
  | _ => .bad
/-- an owned place, let go: its value is shared from now on -/
def eGive (j : Nat) : EE := fun _ ω => match ω[j]? with
  | some (some d) => .ok d (ω.set j none)
  | _ => .bad
def eC (d : D) : EE := fun _ => M.pure d
def e1 (g : D → Option D) (a : EE) : EE := fun ρ => M.bind (a ρ) fun x => M.lift (g x)
def e2 (g : D → D → Option D) (a b : EE) : EE := fun ρ => M.bind (a ρ) fun x => M.bind (b ρ) fun y => M.lift (g x y)
/-- the first operand an owned place -/
def e2o (g : D → D → Option D) (j : Nat) (b : EE) : EE := fun ρ => M.bind (eOwn j ρ) fun _ => M.bind (b ρ) fun y => M.bind (eOwn j ρ) fun x => M.lift (g x y)
abbrev TT := Env → M Bool
def tC (c : Cmp) (a b : EE) : TT := fun ρ => M.bind (a ρ) fun x => M.bind (b ρ) fun y => M.lift (cmpB c x y)
def tCo (c : Cmp) (j : Nat) (b : EE) : TT := fun ρ => M.bind (eOwn j ρ) fun _ => M.bind (b ρ) fun y => M.bind (eOwn j ρ) fun x => M.lift (cmpB c x y)
/-- a op b op' c -/
def tCh (o o' : Cmp) (a b c : EE) : TT := fun ρ => M.bind (a ρ) fun x => M.bind (b ρ) fun y => M.bind (M.lift (cmpB o x y)) fun k => if k = true then M.bind (c ρ) fun z => M.lift (cmpB o' y z) else M.pure false
def tB (a : EE) : TT := fun ρ => M.bind (a ρ) fun x => M.lift (truth x)
def tAnd (a b : TT) : TT := fun ρ => M.bind (a ρ) fun c => if c = true then b ρ else M.pure false
def tOr (a b : TT) : TT := fun ρ => M.bind (a ρ) fun c => if c = true then M.pure true else b ρ
def tNot (a : TT) : TT := fun ρ => M.bind (a ρ) fun c => M.pure (!c)
def eT (a : TT) : EE := fun ρ => M.bind (a ρ) fun c => M.pure (.bool c)
/-- and, or of values -/
def eAnd (a b : EE) : EE := fun ρ => M.bind (a ρ) fun x => M.bind (M.lift (truth x)) fun c => if c = true then b ρ else M.pure x
def eOr (a b : EE) : EE := fun ρ => M.bind (a ρ) fun x => M.bind (M.lift (truth x)) fun c => if c = true then M.pure x else b ρ
def eNot (a : EE) : EE := fun ρ => M.bind (a ρ) fun x => M.bind (M.lift (truth x)) fun c => M.pure (.bool (!c))
def eIf (c : TT) (a b : EE) : EE := fun ρ => M.bind (c ρ) fun k => if k = true then a ρ else b ρ
/-- a op b op' c -/
def eCh (o o' : Cmp) (a b c : EE) : EE := fun ρ => M.bind (a ρ) fun x => M.bind (b ρ) fun y => M.bind (M.lift (cmpB o x y)) fun k => if k = true then M.bind (c ρ) fun z => M.lift (cmpD o' y z) else M.pure (.bool false)
/-- a display's items: one, or those of a starred one -/
inductive It1 where
  | one (a : EE)
  | star (a : EE)
def items : List It1 → Env → M (List D)
  | [], _ => M.pure []
  | .one a :: r, ρ => M.bind (a ρ) fun x => M.bind (items r ρ) fun xs => M.pure (x :: xs)
  | .star a :: r, ρ => M.bind (a ρ) fun x => M.bind (M.lift (seqD x)) fun ys => M.bind (items r ρ) fun xs => M.pure (ys ++ xs)
def limited (xs : List D) : M (List D) := if xs.length ≤ LIM then M.pure xs else fun _ => .bad
def eTup (l : List It1) : EE := fun ρ => M.bind (items l ρ) fun xs => M.bind (limited xs) fun xs => M.pure (.tuple xs)
def eLst (l : List It1) : EE := fun ρ => M.bind (items l ρ) fun xs => M.bind (limited xs) fun xs => M.pure (.list xs)
/-- a slice's parts -/
def part : Option EE → Env → M (Option Int)
  | none, _ => M.pure none
  | some a, ρ => M.bind (a ρ) fun x => match x with
    | .int i => M.pure (some i)
    | _ => fun _ => .bad
def eSl (a : EE) (lo hi : Option EE) : EE := fun ρ => M.bind (a ρ) fun x => M.bind (part lo ρ) fun l => M.bind (part hi ρ) fun h => M.lift (slD x l h)
/-- an argument: shared, or an owned place handed over -/
inductive Ar where
  | sh (a : EE)
  | ow (j : Nat)
def args : List Ar → Env → M (List D)
  | [], _ => M.pure []
  | .sh a :: r, ρ => M.bind (a ρ) fun x => M.bind (args r ρ) fun xs => M.pure (x :: xs)
  | .ow j :: r, ρ => M.bind (eOwn j ρ) fun _ => args r ρ
def owns : List Ar → List Nat
  | [] => []
  | .sh _ :: r => owns r
  | .ow j :: r => j :: owns r
def takeO (ω : Om) (js : List Nat) : Om := js.map fun j => (ω[j]?).join
def putO : Om → List Nat → Om → Om
  | ω, j :: js, d :: ds => putO (ω.set j d) js ds
  | ω, _, _ => ω
def callM (m : FM) (js : List Nat) (xs : List D) : M D := fun ω =>
  if (takeO ω js).all (·.isSome) then
    match m xs (takeO ω js) with
    | .ok d ω' => .ok d (putO ω js ω')
    | .ex x ω' => .ex x (putO ω js ω')
    | .bad => .bad
  else .bad
def eCall (m : FM) (as : List Ar) : EE := fun ρ => M.bind (args as ρ) fun xs => callM m (owns as) xs

/-! ### targets, what is walked, comprehensions -/
inductive Tg where
  | nm (i : Nat)
  | tup (ts : List Tg)
mutual
def bindT : Tg → D → Env → Option Env
  | .nm i, d, ρ => some (ρ.set i (some d))
  | .tup ts, d, ρ => match d with
    | .tuple ds => bindTs ts ds ρ
    | _ => none
def bindTs : List Tg → List D → Env → Option Env
  | [], [], ρ => some ρ
  | t :: ts, d :: ds, ρ => (bindT t d ρ).bind fun ρ' => bindTs ts ds ρ'
  | _, _, _ => none
end
/-- what a loop walks: its items, as they are when it begins -/
abbrev WW := Env → M (List D)
def wOf (a : EE) : WW := fun ρ => M.bind (a ρ) fun x => M.lift (itemsD x)
def intsFrom (lo : Int) : Nat → List D
  | 0 => []
  | n + 1 => .int lo :: intsFrom (lo + 1) n
def intsBy (lo c : Int) : Nat → List D
  | 0 => []
  | n + 1 => .int lo :: intsBy (lo + c) c n
def in62 (i : Int) : Bool := decide (-(2 ^ 62) ≤ i) && decide (i < 2 ^ 62)
def rgN (lo hi : Int) : Option (List D) := if in62 lo && in62 hi && decide ((hi - lo).toNat ≤ LIM) then some (intsFrom lo (hi - lo).toNat) else none
def wRange (a b : EE) : WW := fun ρ => M.bind (a ρ) fun x => M.bind (b ρ) fun y => match x, y with
  | .int i, .int j => M.lift (rgN i j)
  | _, _ => fun _ => .bad
/-- range(a, b, -1) -/
def wDown (a b : EE) : WW := fun ρ => M.bind (a ρ) fun x => M.bind (b ρ) fun y => match x, y with
  | .int i, .int j => M.lift (if in62 i && in62 j && decide ((i - j).toNat ≤ LIM) then some (intsBy i (-1) (i - j).toNat) else none)
  | _, _ => fun _ => .bad
def enumFrom (n : Nat) : List D → List D
  | [] => []
  | x :: xs => .tuple [.int n, x] :: enumFrom (n + 1) xs
def wEnum (a : EE) : WW := fun ρ => M.bind (a ρ) fun x => M.bind (M.lift (itemsD x)) fun xs => M.pure (enumFrom 0 xs)
def zipD : List D → List D → List D
  | x :: xs, y :: ys => .tuple [x, y] :: zipD xs ys
  | _, _ => []
def wZip (a b : EE) : WW := fun ρ => M.bind (a ρ) fun x => M.bind (b ρ) fun y => M.bind (M.lift (itemsD x)) fun xs => M.bind (M.lift (itemsD y)) fun ys => M.pure (zipD xs ys)
/-- the slots of a block's own names -/
def wipeE (ρ : Env) : List Nat → Env
  | [] => ρ
  | v :: vs => (wipeE ρ vs).set v none
/-- an exception within a comprehension is none that we follow -/
def noEx {α : Type} (m : M α) : M α := fun ω => match m ω with
  | .ok a ω' => .ok a ω'
  | _ => .bad
def lcGo (tg : Tg) (c : TT) (e : EE) (ρ : Env) : List D → M (List D)
  | [] => M.pure []
  | x :: xs => match bindT tg x ρ with
    | none => fun _ => .bad
    | some ρ' => M.bind (noEx (c ρ')) fun k => if k = true then M.bind (noEx (e ρ')) fun y => M.bind (lcGo tg c e ρ xs) fun ys => M.pure (y :: ys) else lcGo tg c e ρ xs
def tYes : TT := fun _ => M.pure true
def eLc (w : WW) (tg : Tg) (c : TT) (e : EE) (vs : List Nat) : EE := fun ρ => M.bind (w ρ) fun xs => M.bind (lcGo tg c e (wipeE ρ vs) xs) fun ys => M.pure (.list ys)
def dcGo (tg : Tg) (k v : EE) (ρ : Env) : List D → List (D × D) → M (List (D × D))
  | [], acc => M.pure acc
  | x :: xs, acc => match bindT tg x ρ with
    | none => fun _ => .bad
    | some ρ' => M.bind (noEx (k ρ')) fun kd => M.bind (noEx (v ρ')) fun vd => match keyOf kd with
      | none => fun _ => .bad
      | some _ => dcGo tg k v ρ xs (dput acc kd vd)
def eDc (w : WW) (tg : Tg) (k v : EE) (vs : List Nat) : EE := fun ρ => M.bind (w ρ) fun xs => M.bind (dcGo tg k v (wipeE ρ vs) xs []) fun es => M.pure (.dict es)

/-! ### statements -/
inductive SR where
  | nx (ρ : Env) (ω : Om)
  | rt (d : D) (ω : Om)
  | bk (ρ : Env) (ω : Om)
  | ct (ρ : Env) (ω : Om)
  | ex (x : Exn) (ρ : Env) (ω : Om)
  | bad
abbrev SS := Env → Om → SR
def sNil : SS := fun ρ ω => .nx ρ ω
def sSeq (f g : SS) : SS := fun ρ ω => match f ρ ω with
  | .nx ρ' ω' => g ρ' ω'
  | r => r
/-- an expression, then what is made of it -/
def sE {α : Type} (a : Env → M α) (k : α → SS) : SS := fun ρ ω => match a ρ ω with
  | .ok d ω' => k d ρ ω'
  | .ex x ω' => .ex x ρ ω'
  | .bad => .bad
def sAsg (t : Tg) (a : EE) : SS := sE a fun d ρ ω => match bindT t d ρ with
  | some ρ' => .nx ρ' ω
  | none => .bad
/-- a, b = e1, e2: into a slot, or a new list, dict into an owned place -/
inductive P1 where
  | sh (i : Nat) (a : EE)
  | fr (j : Nat) (a : EE)
def P1.e : P1 → EE
  | .sh _ a => a
  | .fr _ a => a
def P1.ρ : P1 → D → Env → Env
  | .sh i _, d, ρ => ρ.set i (some d)
  | .fr _ _, _, ρ => ρ
def P1.ω : P1 → D → Om → Om
  | .sh _ _, _, ω => ω
  | .fr j _, d, ω => ω.set j (some d)
def sPar2 (p q : P1) : SS := sE (fun ρ => M.bind (p.e ρ) fun x => M.bind (q.e ρ) fun y => M.pure (x, y)) fun v ρ ω => .nx (q.ρ v.2 (p.ρ v.1 ρ)) (q.ω v.2 (p.ω v.1 ω))
def sPar3 (p q r : P1) : SS := sE (fun ρ => M.bind (p.e ρ) fun x => M.bind (q.e ρ) fun y => M.bind (r.e ρ) fun z => M.pure (x, y, z)) fun v ρ ω => .nx (r.ρ v.2.2 (q.ρ v.2.1 (p.ρ v.1 ρ))) (r.ω v.2.2 (q.ω v.2.1 (p.ω v.1 ω)))
/-- an owned place takes a new list, dict -/
def sOwn (j : Nat) (a : EE) : SS := sE a fun d ρ ω => .nx ρ (ω.set j (some d))
def sAug (i : Nat) (g : D → D → Option D) (a : EE) : SS := sE (fun ρ => M.bind (eVar i ρ) fun x => M.bind (a ρ) fun y => M.lift (g x y)) fun d ρ ω => .nx (ρ.set i (some d)) ω
def sIf (c : TT) (f g : SS) : SS := sE c fun k ρ ω => if k = true then f ρ ω else g ρ ω
def sRet (a : EE) : SS := sE a fun d _ ω => .rt d ω
def sDrop (a : EE) : SS := sE a fun _ ρ ω => .nx ρ ω
def sBreak : SS := fun ρ ω => .bk ρ ω
def sCont : SS := fun ρ ω => .ct ρ ω
def sRaise (cls : String) (fs : List String) (as : List It1) : SS := sE (items as) fun ds ρ ω => if ds.length = fs.length then .ex ⟨cls, fs.zip ds⟩ ρ ω else .bad
def gAppend : D → List D → Option D
  | .list xs, [y] => if xs.length < LIM then some (.list (xs ++ [y])) else none
  | _, _ => none
def gExtend : D → List D → Option D
  | .list xs, [.list ys] => if xs.length + ys.length ≤ LIM then some (.list (xs ++ ys)) else none
  | _, _ => none
def gInsert : D → List D → Option D
  | .list xs, [.int i, y] => if decide (xs.length < LIM) && decide (0 ≤ i) && decide (i < 2 ^ 63) then some (.list (xs.take i.toNat ++ y :: xs.drop i.toNat)) else none
  | _, _ => none
/-- o[i] = v: the value first -/
def gPut : D → List D → Option D
  | .list xs, [v, .int i] => (ixN xs.length i).map fun k => .list (xs.set k v)
  | .dict kvs, [v, k] => match keyOf k with
    | some _ => if kvs.length < LIM then some (.dict (dput kvs k v)) else none
    | none => none
  | _, _ => none
/-- what stands at an owned place is changed -/
def mutK (j : Nat) (g : D → List D → Option D) : List D → SS := fun ds ρ ω => match (ω[j]?).join with
  | some d => match g d ds with
    | some d' => .nx ρ (ω.set j (some d'))
    | none => .bad
  | none => .bad
def lstE (l : List It1) : D → Env → M (List D)
  | .list _ => items l
  | _ => fun _ _ => .bad
/-- an owned list is changed by a method -/
def sMut (j : Nat) (l : List It1) (g : D → List D → Option D) : SS := sE (fun ρ => M.bind (eOwn j ρ) fun d => lstE l d ρ) (mutK j g)
/-- o[i] = v, o an owned list or dict -/
def putE (j : Nat) (v i : EE) : Env → M (List D) := fun ρ => M.bind (v ρ) fun x => M.bind (eOwn j ρ) fun _ => M.bind (i ρ) fun k => M.pure [x, k]
def sPut (j : Nat) (v i : EE) : SS := sE (putE j v i) (mutK j gPut)
/-- o[i] op= e, o an owned list -/
def addI : D → D → Option D
  | .int i, .int j => some (.int (i + j))
  | _, _ => none
def subI : D → D → Option D
  | .int i, .int j => some (.int (i - j))
  | _, _ => none
def augE (j : Nat) (i : EE) (g : D → D → Option D) (e : EE) : Env → M (List D) := fun ρ => M.bind (eOwn j ρ) fun _ => M.bind (i ρ) fun k => M.bind (eOwn j ρ) fun d => M.bind (M.lift (idxD d k)) fun x => M.bind (e ρ) fun y => M.bind (M.lift (g x y)) fun z => M.pure [z, k]
def sAugI (j : Nat) (i : EE) (g : D → D → Option D) (e : EE) : SS := sE (augE j i g e) (mutK j gPut)
def sForGo (t : Tg) (b : SS) : List D → SS
  | [], ρ, ω => .nx ρ ω
  | x :: xs, ρ, ω => match bindT t x ρ with
    | none => .bad
    | some ρ' => match b ρ' ω with
      | .nx ρ2 ω2 => sForGo t b xs ρ2 ω2
      | .ct ρ2 ω2 => sForGo t b xs ρ2 ω2
      | .bk ρ2 ω2 => .nx ρ2 ω2
      | r => r
def sFor (t : Tg) (w : WW) (b : SS) : SS := sE w fun xs => sForGo t b xs
def whN (c : TT) (b : SS) : Nat → Env → Om → Option SR
  | 0, _, _ => none
  | n + 1, ρ, ω => match c ρ ω with
    | .bad => some .bad
    | .ex x ω' => some (.ex x ρ ω')
    | .ok false ω' => some (.nx ρ ω')
    | .ok true ω' => match b ρ ω' with
      | .nx ρ2 ω2 => whN c b n ρ2 ω2
      | .ct ρ2 ω2 => whN c b n ρ2 ω2
      | .bk ρ2 ω2 => some (.nx ρ2 ω2)
      | r => some r
open Classical in
noncomputable def sWhile (c : TT) (b : SS) : SS := fun ρ ω => if h : ∃ n r, whN c b n ρ ω = some r then h.choose_spec.choose else .bad
/-- try: body except C: suite: what is told of the exceptions by their classes' names -/
def sTry (b : SS) (h : Exn → Option SS) : SS := fun ρ ω => match b ρ ω with
  | .ex x ρ' ω' => match h x with
    | some s => s ρ' ω'
    | none => .ex x ρ' ω'
  | r => r
/-- the slots at a def's entry: mask: which arguments are owned -/
def entryE : List Bool → List D → Env
  | false :: m, d :: ds => some d :: entryE m ds
  | false :: m, [] => none :: entryE m []
  | true :: m, ds => none :: entryE m ds
  | [], _ => []
def ownIx : List Bool → Nat → List Nat
  | true :: m, i => i :: ownIx m (i + 1)
  | false :: m, i => ownIx m (i + 1)
  | [], _ => []
/-- a def: its body over its slots and its owned places -/
def defM (mask : List Bool) (slots : Nat) (mine : Nat) (b : SS) : FM := fun ds ω =>
  match b (entryE mask ds ++ List.replicate (slots - mask.length) none) (ω ++ List.replicate mine none) with
    | .nx _ ω' => .ok .none (ω'.take ω.length)
    | .rt d ω' => .ok d (ω'.take ω.length)
    | .ex x _ ω' => .ex x (ω'.take ω.length)
    | _ => .bad
/-- a def whose result is a new list, dict of the caller's own -/
def defF (mask : List Bool) (slots : Nat) (mine : Nat) (b : SS) : FM := fun ds ω =>
  match b (entryE mask ds ++ List.replicate (slots - mask.length) none) (ω ++ List.replicate mine none) with
    | .rt d ω' => .ok d (ω'.take ω.length)
    | .ex x _ ω' => .ex x (ω'.take ω.length)
    | _ => .bad
end Wc

set_option Elab.async false
set_option linter.all false
set_option maxRecDepth 100000
set_option maxHeartbeats 1000000
/-! Wc.Rel: how data lie on the abstract heap. -/
namespace Wc
open PySem PySem.Spec PyProof.Rows L2
theorem LIM_eq : LIM = sizeLine := by rw [sizeLine_eq]; rfl
theorem lim_le {n : Nat} (h : n ≤ LIM) : n ≤ sizeLine := LIM_eq ▸ h
theorem lim_lt {n : Nat} (h : n < LIM) : n < sizeLine := LIM_eq ▸ h
theorem le_lim {n : Nat} (h : n ≤ sizeLine) : n ≤ LIM := LIM_eq ▸ h
mutual
/-- v is d; Z: what stands still -/
inductive Rp (K : PySem.W.Frag) (Z : Addr → Prop) (H : Hp) : V → D → Prop
  | non : Rp K Z H .non .none
  | bl (b : Bool) : Rp K Z H (.bl b) (.bool b)
  | int (i : Int) : Rp K Z H (.int i) (.int i)
  | str (x : Str) (n : x.length ≤ LIM) : Rp K Z H (.str x) (.str x)
  | lst {a : Addr} {xs : List V} {ds : List D} (z : Z a) (r : H a = some (.lst xs)) (n : xs.length ≤ LIM) (q : RpA K Z H xs ds) : Rp K Z H (.ref a) (.list ds)
  | tup {a : Addr} {xs : List V} {ds : List D} (r : SqT K H a xs) (n : xs.length ≤ LIM) (q : RpA K Z H xs ds) : Rp K Z H (.ref a) (.tuple ds)
  | dic {a : Addr} {kvs : List (Key × V)} {es : List (D × D)} (z : Z a) (r : Rd H a (.dK kvs)) (n : kvs.length ≤ LIM) (q : RpK K Z H kvs es) : Rp K Z H (.ref a) (.dict es)
inductive RpA (K : PySem.W.Frag) (Z : Addr → Prop) (H : Hp) : List V → List D → Prop
  | nil : RpA K Z H [] []
  | cons {v : V} {vs : List V} {d : D} {ds : List D} (h : Rp K Z H v d) (t : RpA K Z H vs ds) : RpA K Z H (v :: vs) (d :: ds)
inductive RpK (K : PySem.W.Frag) (Z : Addr → Prop) (H : Hp) : List (Key × V) → List (D × D) → Prop
  | nil : RpK K Z H [] []
  | cons {k : Key} {v : V} {kvs : List (Key × V)} {d : D} {es : List (D × D)} (h : Rp K Z H v d) (t : RpK K Z H kvs es) : RpK K Z H ((k, v) :: kvs) ((kD k, d) :: es)
end
/-- what never changes -/
def Imm : HO → Prop
  | .tup _ => True
  | .frz _ _ => True
  | .xd _ => True
  | _ => False
structure Ext (O : Addr → Prop) (Z : Addr → Prop) (H : Hp) (Z' : Addr → Prop) (H' : Hp) : Prop where
  z : ∀ a, Z a → Z' a
  h : ∀ a o, Z a → H a = some o → H' a = some o
  t : ∀ a o, Imm o → H a = some o → H' a = some o
  f : ∀ a o, H a = some o → ¬ O a → (∀ ps, o ≠ .tbl ps) → H' a = some o
  g : ∀ a o, Z' a → ¬ O a → H a = some o → (∀ ps, o ≠ .tbl ps) → Z a
variable {O O' : Addr → Prop} {K : PySem.W.Frag} {Z Z' Z'' Z1 Z2 : Addr → Prop} {H H' H'' H1 H2 : Hp} {v : V} {vs : List V} {d : D} {ds : List D} {a p : Addr}
theorem Ext.refl (Z : Addr → Prop) (H : Hp) : Ext O Z H Z H := ⟨fun _ h => h, fun _ _ _ h => h, fun _ _ _ h => h, fun _ _ h _ _ => h, fun _ _ h _ _ _ => h⟩
theorem Ext.trans (e : Ext O Z H Z' H') (f : Ext O Z' H' Z'' H'') : Ext O Z H Z'' H'' :=
  ⟨fun a h => f.z a (e.z a h), fun a o z h => f.h a o (e.z a z) (e.h a o z h), fun a o m h => f.t a o m (e.t a o m h), fun a o h n t => f.f a o (e.f a o h n t) n t, fun a o z n h t => e.g a o (f.g a o z n (e.f a o h n t) t) n h t⟩
theorem Ext.weak (e : Ext O Z H Z' H') (i : ∀ a, O a → O' a) : Ext O' Z H Z' H' := ⟨e.z, e.h, e.t, fun a o h n t => e.f a o h (fun m => n (i a m)) t, fun a o z n h t => e.g a o z (fun m => n (i a m)) h t⟩
theorem Ext.rd {o : HO} (e : Ext O Z H Z' H') (z : Z a) (r : Rd H a o) : Rd H' a o := by
  rcases r with r | ⟨ob, r⟩
  · exact .inl (e.h _ _ z r)
  · exact .inr ⟨ob, e.h _ _ z r⟩
theorem Ext.sq {xs : List V} (e : Ext O Z H Z' H') (r : SqT K H a xs) : SqT K H' a xs := by
  rcases r with (r | ⟨ob, r⟩) | r
  · exact .inl (.inl (e.t _ _ trivial r))
  · exact .inl (.inr ⟨ob, e.t _ _ trivial r⟩)
  · exact .inr r
mutual
theorem Rp.ext (e : Ext O Z H Z' H') : ∀ {v : V} (d : D), Rp K Z H v d → Rp K Z' H' v d
  | _, .none, .non => .non
  | _, .bool _, .bl b => .bl b
  | _, .int _, .int i => .int i
  | _, .str _, .str x n => .str x n
  | _, .list ds, .lst z r n q => .lst (e.z _ z) (e.h _ _ z r) n (RpA.ext e ds q)
  | _, .tuple ds, .tup r n q => .tup (e.sq r) n (RpA.ext e ds q)
  | _, .dict es, .dic z r n q => .dic (e.z _ z) (e.rd z r) n (RpK.ext e es q)
theorem RpA.ext (e : Ext O Z H Z' H') : ∀ {vs : List V} (ds : List D), RpA K Z H vs ds → RpA K Z' H' vs ds
  | _, [], .nil => .nil
  | _, d :: ds, .cons h t => .cons (Rp.ext e d h) (RpA.ext e ds t)
theorem RpK.ext (e : Ext O Z H Z' H') : ∀ {kvs : List (Key × V)} (es : List (D × D)), RpK K Z H kvs es → RpK K Z' H' kvs es
  | _, [], .nil => .nil
  | _, (_, d) :: es, .cons h t => .cons (Rp.ext e d h) (RpK.ext e es t)
end
mutual
theorem Rp.dp : ∀ {v : V} (d : D), d.plain = true → Rp K Z H v d → Dp K H v d
  | _, .none, _, .non => .non
  | _, .bool _, _, .bl b => .bl b
  | _, .int _, _, .int i => .int i
  | _, .str _, _, .str x _ => .str x
  | _, .list ds, h, .lst _ r _ q => .lst (.inl (.inl r)) (RpA.dp ds h q)
  | _, .tuple ds, h, .tup r _ q => .tup r (RpA.dp ds h q)
theorem RpA.dp : ∀ {vs : List V} (ds : List D), PyData.plainAll ds = true → RpA K Z H vs ds → DpAll K H vs ds
  | _, [], _, .nil => .nil
  | _, d :: ds, h, .cons a t => by
    have h' : d.plain = true ∧ PyData.plainAll ds = true := by simpa [PyData.plainAll] using h
    exact .cons (Rp.dp d h'.1 a) (RpA.dp ds h'.2 t)
end
theorem RpA.length : ∀ {vs : List V} {ds : List D}, RpA K Z H vs ds → vs.length = ds.length
  | _, _, .nil => rfl
  | _, _, .cons _ t => by rw [List.length_cons, List.length_cons, RpA.length t]
theorem RpK.length : ∀ {kvs : List (Key × V)} {es : List (D × D)}, RpK K Z H kvs es → kvs.length = es.length
  | _, _, .nil => rfl
  | _, _, .cons _ t => by rw [List.length_cons, List.length_cons, RpK.length t]
theorem RpA.append : ∀ {vs ws : List V} {ds es : List D}, RpA K Z H vs ds → RpA K Z H ws es → RpA K Z H (vs ++ ws) (ds ++ es)
  | _, _, _, _, .nil, q => q
  | _, _, _, _, .cons h t, q => .cons h (RpA.append t q)
theorem RpA.get : ∀ {vs : List V} {ds : List D} {i : Nat} {d : D}, RpA K Z H vs ds → ds[i]? = some d → ∃ v, vs[i]? = some v ∧ Rp K Z H v d
  | _, _, _, _, .nil, e => by simp at e
  | _, _, 0, _, .cons h _, e => by simp at e; subst e; exact ⟨_, rfl, h⟩
  | _, _, i + 1, _, .cons _ t, e => by
    obtain ⟨v, h1, h2⟩ := RpA.get (i := i) t (by simpa using e)
    exact ⟨v, by simpa using h1, h2⟩
theorem RpA.take : ∀ {vs : List V} {ds : List D} (n : Nat), RpA K Z H vs ds → RpA K Z H (vs.take n) (ds.take n)
  | _, _, 0, _ => .nil
  | _, _, _ + 1, .nil => .nil
  | _, _, n + 1, .cons h t => .cons h (RpA.take n t)
theorem RpA.drop : ∀ {vs : List V} {ds : List D} (n : Nat), RpA K Z H vs ds → RpA K Z H (vs.drop n) (ds.drop n)
  | _, _, 0, q => q
  | _, _, _ + 1, .nil => .nil
  | _, _, n + 1, .cons _ t => RpA.drop n t
theorem RpA.reverse : ∀ {vs : List V} {ds : List D}, RpA K Z H vs ds → RpA K Z H vs.reverse ds.reverse
  | _, _, .nil => .nil
  | _, _, .cons h t => by
    rw [List.reverse_cons, List.reverse_cons]
    exact RpA.append (RpA.reverse t) (.cons h .nil)
theorem RpA.set : ∀ {vs : List V} {ds : List D} (i : Nat) {v : V} {d : D}, RpA K Z H vs ds → Rp K Z H v d → RpA K Z H (vs.set i v) (ds.set i d)
  | _, _, _, _, _, .nil, _ => .nil
  | _, _, 0, _, _, .cons _ t, q => .cons q t
  | _, _, i + 1, _, _, .cons h t, q => .cons h (RpA.set i t q)
theorem RpA.rep {vs : List V} {ds : List D} (q : RpA K Z H vs ds) (n : Nat) : RpA K Z H (List.replicate n vs).flatten (List.replicate n ds).flatten := by
  induction n with
  | zero => exact .nil
  | succ n ih =>
    rw [List.replicate_succ, List.replicate_succ, List.flatten_cons, List.flatten_cons]
    exact q.append ih
/-- what may be read: shared, or owned -/
inductive Rr (K : PySem.W.Frag) (Z : Addr → Prop) (H : Hp) : V → D → Prop
  | sh {v : V} {d : D} (h : Rp K Z H v d) : Rr K Z H v d
  | lst {a : Addr} {xs : List V} {ds : List D} (r : H a = some (.lst xs)) (n : xs.length ≤ LIM) (q : RpA K Z H xs ds) : Rr K Z H (.ref a) (.list ds)
  | dic {a : Addr} {kvs : List (Key × V)} {es : List (D × D)} (r : Rd H a (.dK kvs)) (n : kvs.length ≤ LIM) (q : RpK K Z H kvs es) : Rr K Z H (.ref a) (.dict es)
theorem Rr.dp (h : d.plain = true) (r : Rr K Z H v d) : Dp K H v d := by
  cases r with
  | sh q => exact q.dp d h
  | @lst a xs ds r n q =>
    have h' : PyData.plainAll ds = true := by simpa only [PyData.plain] using h
    exact .lst (.inl (.inl r)) (q.dp _ h')
  | dic r _ q => simp only [PyData.plain] at h; cases h
/-- what stands at an owned place's address -/
inductive Oc (K : PySem.W.Frag) (Z : Addr → Prop) (H : Hp) (a : Addr) : D → Prop
  | lst {xs : List V} {ds : List D} (e : H a = some (.lst xs)) (n : xs.length ≤ LIM) (q : RpA K Z H xs ds) : Oc K Z H a (.list ds)
  | dic {kvs : List (Key × V)} {es : List (D × D)} (e : H a = some (.dK kvs)) (n : kvs.length ≤ LIM) (q : RpK K Z H kvs es) : Oc K Z H a (.dict es)
theorem Oc.rr (h : Oc K Z H a d) : Rr K Z H (.ref a) d := by
  cases h with
  | lst e n q => exact .lst e n q
  | dic e n q => exact .dic (.inl e) n q
theorem Oc.obj (h : Oc K Z H a d) : ∃ o, H a = some o ∧ Mut (some o) := by
  cases h with
  | lst e => exact ⟨_, e, trivial⟩
  | dic e => exact ⟨_, e, trivial⟩
theorem Oc.stands (h : Oc K Z H a d) : ∃ o, H a = some o ∧ ∀ ps, o ≠ .tbl ps := by
  cases h with
  | lst e => exact ⟨_, e, fun _ z => by cases z⟩
  | dic e => exact ⟨_, e, fun _ z => by cases z⟩
theorem Oc.ext (e : Ext O Z H Z' H') (k : ∀ o, H a = some o → H' a = some o) (h : Oc K Z H a d) : Oc K Z' H' a d := by
  cases h with
  | lst e1 n q => exact .lst (k _ e1) n (q.ext e)
  | dic e1 n q => exact .dic (k _ e1) n (q.ext e)
/-- it is let go: from now on it stands still -/
def addZ (Z : Addr → Prop) (p : Addr) : Addr → Prop := fun a => Z a ∨ a = p
theorem Oc.freeze (h : Oc K Z H a d) : Rp K (addZ Z a) H (.ref a) d := by
  have e : Ext (fun _ => True) Z H (addZ Z a) H := ⟨fun _ h => .inl h, fun _ _ _ h => h, fun _ _ _ h => h, fun _ _ h _ _ => h, fun _ _ _ n => (n trivial).elim⟩
  cases h with
  | lst e1 n q => exact .lst (.inr rfl) e1 n (q.ext e)
  | dic e1 n q => exact .dic (.inr rfl) (.inl e1) n (q.ext e)
/-- a call's entry: the heap, what stood still, the owned arguments' addresses, the tables of code objects -/
structure Ent where
  H0 : Hp
  Z0 : Addr → Prop
  pa : List Addr
  tb : List (Addr × Str)
/-- the addresses in the owned places' slots -/
def Ow (own : List Nat) (σ : L2.St) : Addr → Prop := fun a => ∃ i, i ∈ own ∧ σ[i]? = some (some (.ref a))
/-- the state: own: the owned places' slots, the owned arguments' first -/
structure Sx (K : PySem.W.Frag) (own : List Nat) (T : Ent) (Z : Addr → Prop) (ρ : Env) (ω : Om) (σ : L2.St) (H : Hp) : Prop where
  len : ρ.length = σ.length
  nd : own.Nodup
  sh : ∀ (i : Nat) d, ρ[i]? = some (some d) → i ∉ own ∧ ∃ v, σ[i]? = some (some v) ∧ Rp K Z H v d
  wl : ω.length = own.length
  ow : ∀ (j : Nat) i d, own[j]? = some i → ω[j]? = some (some d) → ∃ a, σ[i]? = some (some (.ref a)) ∧ ¬ Z a ∧ Oc K Z H a d ∧ (a ∈ T.pa ∨ T.H0 a = none)
  dj : ∀ (j j' : Nat) i i' d d' a, j ≠ j' → own[j]? = some i → own[j']? = some i' → ω[j]? = some (some d) → ω[j']? = some (some d') → σ[i]? = some (some (.ref a)) → σ[i']? ≠ some (some (.ref a))
  zd : ∀ a, Z a → ∃ o, H a = some o ∧ ∀ ps, o ≠ .tbl ps
  z0 : ∀ a, T.Z0 a → Z a
  zz : ∀ a, Z a → T.Z0 a ∨ T.H0 a = none
  keep : ∀ a o, T.H0 a = some o → a ∉ T.pa → (∀ ps, o ≠ .tbl ps) → H a = some o
  par : ∀ (j : Nat) a, T.pa[j]? = some a → ∃ i d, own[j]? = some i ∧ σ[i]? = some (some (.ref a)) ∧ ω[j]? = some (some d)
  tabs : LamX.Tabs T.tb H
  kt0 : ∀ a ps, T.H0 a = some (.tbl ps) → ∃ q, (a, q) ∈ T.tb
  st : ∀ a, Ow own σ a → ∃ o, H a = some o ∧ ∀ ps, o ≠ .tbl ps
  ol : ∀ i ∈ own, i < σ.length

section
variable {own : List Nat} {T : Ent} {ρ : Env} {ω : Om} {σ : L2.St}
theorem addZ_ext (hp : O p) : Ext O Z H (addZ Z p) H := ⟨fun _ h => .inl h, fun _ _ _ h => h, fun _ _ _ h => h, fun _ _ h _ _ => h, fun a o z n _ _ => z.elim id fun e => (n (e ▸ hp)).elim⟩
/-- a new object: nothing that stands is touched -/
theorem Ext.new {o : HO} (hp : H p = none) : Ext O Z H Z (upd H p o) :=
  ⟨fun _ h => h, fun a u _ e => by rw [upd_ne (ne_of_none e hp)]; exact e, fun a u _ e => by rw [upd_ne (ne_of_none e hp)]; exact e, fun a u e _ _ => by rw [upd_ne (ne_of_none e hp)]; exact e, fun _ _ z _ _ _ => z⟩
theorem Sx.fresh0 (S : Sx K own T Z ρ ω σ H) (hp : H p = none) : T.H0 p = none := by
  cases e : T.H0 p with
  | none => rfl
  | some o =>
    by_cases hm : p ∈ T.pa
    · obtain ⟨j, hj⟩ := List.getElem?_of_mem hm
      obtain ⟨i, d, h1, h2, h3⟩ := S.par j p hj
      obtain ⟨a, h4, _, h5, _⟩ := S.ow j i d h1 h3
      rw [h2] at h4; cases h4
      obtain ⟨u, hu, _⟩ := h5.obj
      rw [hp] at hu; cases hu
    · cases o with
      | tbl ps =>
        obtain ⟨q, hq⟩ := S.kt0 p ps e
        obtain ⟨ps', e', _⟩ := S.tabs _ hq
        rw [hp] at e'; cases e'
      | _ => rw [S.keep p _ e hm (by intro ps z; cases z)] at hp; cases hp
/-- the heap grows by an object that is none of ours -/
theorem Sx.new {o : HO} (S : Sx K own T Z ρ ω σ H) (hp : H p = none) : Sx K own T Z ρ ω σ (upd H p o) := by
  have e : Ext (fun _ => False) Z H Z (upd H p o) := .new hp
  have k : ∀ a u, H a = some u → upd H p o a = some u := fun a u h => by rw [upd_ne (ne_of_none h hp)]; exact h
  refine ⟨S.len, S.nd, fun i d h => ?_, S.wl, fun j i d h1 h2 => ?_, S.dj, fun a z => ?_, S.z0, S.zz, fun a u h m t => k _ _ (S.keep a u h m t), S.par, S.tabs.ext k, S.kt0, fun a h => let ⟨u, hu, n⟩ := S.st a h; ⟨u, k _ _ hu, n⟩, S.ol⟩
  · obtain ⟨ni, v, h1, h2⟩ := S.sh i d h
    exact ⟨ni, v, h1, h2.ext e⟩
  · obtain ⟨a, h3, nz, c, f⟩ := S.ow j i d h1 h2
    exact ⟨a, h3, nz, c.ext e fun o h => k _ _ h, f⟩
  · obtain ⟨u, h, nt⟩ := S.zd a z
    exact ⟨u, k _ _ h, nt⟩
/-- what stands still from now on: an object that is no owned place's -/
theorem Sx.still {o : HO} (S : Sx K own T Z ρ ω σ H) (hp : H p = some o) (h0 : T.H0 p = none) (no : ∀ (j : Nat) i d, own[j]? = some i → ω[j]? = some (some d) → σ[i]? ≠ some (some (.ref p))) (nt : ∀ ps, o ≠ .tbl ps := by intro _ h; cases h) : Sx K own T (addZ Z p) ρ ω σ H := by
  have e : Ext (fun _ => True) Z H (addZ Z p) H := addZ_ext trivial
  refine ⟨S.len, S.nd, fun i d h => ?_, S.wl, fun j i d h1 h2 => ?_, S.dj, fun a z => ?_, fun a z => .inl (S.z0 a z), fun a z => ?_, S.keep, S.par, S.tabs, S.kt0, S.st, S.ol⟩
  · obtain ⟨ni, v, h1, h2⟩ := S.sh i d h
    exact ⟨ni, v, h1, h2.ext e⟩
  · obtain ⟨a, h3, nz, c, f⟩ := S.ow j i d h1 h2
    refine ⟨a, h3, fun z => ?_, c.ext e fun _ h => h, f⟩
    rcases z with z | z
    · exact nz z
    · exact no j i d h1 h2 (z ▸ h3)
  · rcases z with z | z
    · exact S.zd a z
    · exact ⟨o, z ▸ hp, nt⟩
  · rcases z with z | z
    · exact S.zz a z
    · exact .inr (z ▸ h0)
/-- a new object that stands still at once -/
theorem Sx.newZ {o : HO} (S : Sx K own T Z ρ ω σ H) (hp : H p = none) (nt : ∀ ps, o ≠ .tbl ps := by intro _ h; cases h) : Sx K own T (addZ Z p) ρ ω σ (upd H p o) := by
  refine (S.new hp).still upd_same (S.fresh0 hp) (nt := nt) fun j i d h1 h2 h3 => ?_
  obtain ⟨a, h4, _, c, _⟩ := S.ow j i d h1 h2
  rw [h3] at h4; cases h4
  obtain ⟨u, hu, _⟩ := c.obj
  rw [hp] at hu; cases hu
theorem Ext.newZ {o : HO} (hp : H p = none) : Ext O Z H (addZ Z p) (upd H p o) :=
  let e := Ext.new (O := O) (Z := Z) (o := o) hp
  ⟨fun _ h => .inl h, e.h, e.t, e.f, fun a u z _ h _ => z.elim id fun q => by rw [q, hp] at h; cases h⟩
/-- a slot takes a shared value -/
theorem Sx.set {i : Nat} (S : Sx K own T Z ρ ω σ H) (hi : i ∉ own) (h : Rp K Z H v d) : Sx K own T Z (ρ.set i (some d)) ω (σ.set i (some v)) H := by
  have nj : ∀ {j k : Nat}, own[j]? = some k → k ≠ i := fun h e => hi (e ▸ List.mem_of_getElem? h)
  refine ⟨by simpa using S.len, S.nd, fun k e hk => ?_, S.wl, fun j k e h1 h2 => ?_, fun j j' k k' e e' a hj h1 h2 h3 h4 h5 => ?_, S.zd, S.z0, S.zz, S.keep, fun j a h => ?_, S.tabs, S.kt0, fun a ⟨k, hk, e⟩ => S.st a ⟨k, hk, by rw [List.getElem?_set_ne (show i ≠ k from fun q => hi (by rw [q]; exact hk))] at e; exact e⟩, fun k hk => by rw [List.length_set]; exact S.ol k hk⟩
  · by_cases hik : k = i
    · subst hik
      have hl : k < ρ.length := by
        rcases Nat.lt_or_ge k ρ.length with q | q
        · exact q
        · rw [List.getElem?_eq_none (by simpa using q)] at hk; cases hk
      rw [List.getElem?_set_self hl] at hk
      cases hk
      exact ⟨hi, v, by rw [List.getElem?_set_self (S.len ▸ hl)], h⟩
    · rw [List.getElem?_set_ne (Ne.symm hik)] at hk ⊢
      exact S.sh k e hk
  · rw [List.getElem?_set_ne (Ne.symm (nj h1))]
    exact S.ow j k e h1 h2
  · rw [List.getElem?_set_ne (Ne.symm (nj h1))] at h5
    rw [List.getElem?_set_ne (Ne.symm (nj h2))]
    exact S.dj j j' k k' e e' a hj h1 h2 h3 h4 h5
  · obtain ⟨k, e, h1, h2, h3⟩ := S.par j a h
    exact ⟨k, e, h1, by rw [List.getElem?_set_ne (Ne.symm (nj h1))]; exact h2, h3⟩
/-- an owned place's object is changed -/
theorem Sx.mut {j i : Nat} {d' : D} {o : HO} (S : Sx K own T Z ρ ω σ H) (hj : own[j]? = some i) (hd : ω[j]? = some (some d)) (ha : σ[i]? = some (some (.ref a)))
    (c : Oc K Z (upd H a o) a d') : Sx K own T Z ρ (ω.set j (some d')) σ (upd H a o) ∧ Ext (fun b => b = a) Z H Z (upd H a o) := by
  obtain ⟨a', ha', nz, c0, f⟩ := S.ow j i d hj hd
  rw [ha] at ha'; cases ha'
  obtain ⟨o0, ho0, mu⟩ := c0.obj
  have e : Ext (fun b => b = a) Z H Z (upd H a o) := ⟨fun _ h => h, fun b u z h => by
      have q : b ≠ a := by rintro rfl; exact nz z
      rw [upd_ne q]; exact h, fun b u m h => by
      have q : b ≠ a := by
        rintro rfl
        rw [ho0] at h
        have q := Option.some.inj h
        subst q
        cases o0 <;> first | exact mu | exact m
      rw [upd_ne q]; exact h, fun b u h n _ => by rw [upd_ne n]; exact h, fun _ _ z _ _ _ => z⟩
  have hl : j < ω.length := (List.getElem?_eq_some_iff.mp hd).1
  have oth : ∀ {j' i' d''}, j' ≠ j → own[j']? = some i' → ω[j']? = some (some d'') → ∀ {b}, σ[i']? = some (some (.ref b)) → b ≠ a := fun {j' i' d''} hne h1 h2 {b} h3 q => by
    subst q
    exact S.dj j' j i' i d'' d b hne h1 hj h2 hd h3 ha
  refine ⟨⟨S.len, S.nd, fun k u h => ?_, by simpa using S.wl, fun j' i' d'' h1 h2 => ?_, fun j1 j2 i1 i2 d1 d2 b hne h1 h2 h3 h4 h5 => ?_, fun b z => ?_, S.z0, S.zz, fun b u h m t => ?_, fun j' b h => ?_, ?_, S.kt0, fun b h => ?_, S.ol⟩, e⟩
  · obtain ⟨ni, w, h1, h2⟩ := S.sh k u h
    exact ⟨ni, w, h1, h2.ext e⟩
  · by_cases q : j' = j
    · subst q
      rw [hj] at h1; cases h1
      rw [List.getElem?_set_self hl] at h2; cases h2
      exact ⟨a, ha, nz, c, f⟩
    · rw [List.getElem?_set_ne (Ne.symm q)] at h2
      obtain ⟨b, h3, nz', c', f'⟩ := S.ow j' i' d'' h1 h2
      exact ⟨b, h3, nz', c'.ext e fun u h => by rw [upd_ne (oth q h1 h2 h3)]; exact h, f'⟩
  · have g : ∀ {k x}, (ω.set j (some d'))[k]? = some (some x) → ∃ y, ω[k]? = some (some y) := fun {k x} h => by
      by_cases q : k = j
      · subst q; exact ⟨d, hd⟩
      · rw [List.getElem?_set_ne (Ne.symm q)] at h; exact ⟨x, h⟩
    obtain ⟨y1, h3'⟩ := g h3
    obtain ⟨y2, h4'⟩ := g h4
    exact S.dj j1 j2 i1 i2 y1 y2 b hne h1 h2 h3' h4' h5
  · obtain ⟨u, h, nt⟩ := S.zd b z
    exact ⟨u, e.h b u z h, nt⟩
  · have h' := S.keep b u h m t
    rw [upd_ne]
    · exact h'
    · intro q; subst q
      rcases f with f | f
      · exact m f
      · rw [f] at h; cases h
  · obtain ⟨k, x, h1, h2, h3⟩ := S.par j' b h
    by_cases q : j' = j
    · subst q; exact ⟨k, d', h1, h2, by rw [List.getElem?_set_self hl]⟩
    · exact ⟨k, x, h1, h2, by rw [List.getElem?_set_ne (Ne.symm q)]; exact h3⟩
  · intro p hp
    obtain ⟨ps, h1, h2, h3⟩ := S.tabs p hp
    have nt : ∀ {b u}, H b = some u → (¬ Mut (some u)) → b ≠ a := fun {b u} h nm q => by subst q; rw [ho0] at h; cases h; exact nm mu
    refine ⟨ps, by rw [upd_ne (nt h1 fun z => z)]; exact h1, h2, fun pos cv hc => ?_⟩
    obtain ⟨c1, e1, e2⟩ := h3 pos cv hc
    refine ⟨c1, e1, ?_⟩
    rw [upd_ne]
    · exact e2
    · intro q; subst q
      cases c0 with
      | lst e3 => rw [e2] at e3; cases e3
      | dic e3 => rw [e2] at e3; cases e3
  · by_cases q : b = a
    · subst q; exact c.stands
    · obtain ⟨u, hu, n⟩ := S.st b h
      exact ⟨u, by rw [upd_ne q]; exact hu, n⟩
/-- an owned place takes a new object -/
theorem Sx.give {j i : Nat} (S : Sx K own T Z ρ ω σ H) (hj : own[j]? = some i) (np : T.pa.length ≤ j) (hi : i < σ.length) (nz : ¬ Z a) (c : Oc K Z H a d) (f : T.H0 a = none)
    (no : ∀ (j : Nat) i d, own[j]? = some i → ω[j]? = some (some d) → σ[i]? ≠ some (some (.ref a))) : Sx K own T Z ρ (ω.set j (some d)) (σ.set i (some (.ref a))) H := by
  have hl : j < ω.length := by rw [S.wl]; exact (List.getElem?_eq_some_iff.mp hj).1
  have ij : ∀ {k : Nat}, own[k]? = some i → k = j := fun {k} h => by
    obtain ⟨h1, e1⟩ := List.getElem?_eq_some_iff.mp h
    obtain ⟨h2, e2⟩ := List.getElem?_eq_some_iff.mp hj
    exact (List.getElem_inj S.nd).mp (e1.trans e2.symm)
  refine ⟨by simpa using S.len, S.nd, fun k u h => ?_, by simpa using S.wl, fun j' i' d'' h1 h2 => ?_, fun j1 j2 i1 i2 d1 d2 b hne h1 h2 h3 h4 h5 => ?_, S.zd, S.z0, S.zz, S.keep, fun j' b h => ?_, S.tabs, S.kt0, fun b ⟨k, hk, e⟩ => ?_, fun k hk => by rw [List.length_set]; exact S.ol k hk⟩
  · obtain ⟨ni, w, h1, h2⟩ := S.sh k u h
    have : k ≠ i := fun q => ni (q ▸ List.mem_of_getElem? hj)
    exact ⟨ni, w, by rw [List.getElem?_set_ne (Ne.symm this)]; exact h1, h2⟩
  · by_cases q : j' = j
    · subst q
      rw [hj] at h1; cases h1
      rw [List.getElem?_set_self hl] at h2; cases h2
      exact ⟨a, by rw [List.getElem?_set_self hi], nz, c, .inr f⟩
    · rw [List.getElem?_set_ne (Ne.symm q)] at h2
      have : i' ≠ i := fun z => q (ij (z ▸ h1))
      rw [List.getElem?_set_ne (Ne.symm this)]
      exact S.ow j' i' d'' h1 h2
  · by_cases q1 : j1 = j
    · subst q1
      rw [hj] at h1; cases h1
      rw [List.getElem?_set_self hi] at h5; cases h5
      have q2 : j2 ≠ j1 := fun z => hne z.symm
      have : i2 ≠ i := fun z => q2 (ij (z ▸ h2))
      rw [List.getElem?_set_ne (Ne.symm q2)] at h4
      rw [List.getElem?_set_ne (Ne.symm this)]
      exact no j2 i2 d2 h2 h4
    · have hi1 : i1 ≠ i := fun z => q1 (ij (z ▸ h1))
      rw [List.getElem?_set_ne (Ne.symm q1)] at h3
      rw [List.getElem?_set_ne (Ne.symm hi1)] at h5
      by_cases q2 : j2 = j
      · subst q2
        rw [hj] at h2; cases h2
        rw [List.getElem?_set_self hi]
        intro z; cases z
        exact no j1 i1 d1 h1 h3 h5
      · have hi2 : i2 ≠ i := fun z => q2 (ij (z ▸ h2))
        rw [List.getElem?_set_ne (Ne.symm q2)] at h4
        rw [List.getElem?_set_ne (Ne.symm hi2)]
        exact S.dj j1 j2 i1 i2 d1 d2 b hne h1 h2 h3 h4 h5
  · obtain ⟨k, x, h1, h2, h3⟩ := S.par j' b h
    have q : j' ≠ j := fun z => by
      have := (List.getElem?_eq_some_iff.mp h).1
      omega
    have : k ≠ i := fun z => q (ij (z ▸ h1))
    exact ⟨k, x, h1, by rw [List.getElem?_set_ne (Ne.symm this)]; exact h2, by rw [List.getElem?_set_ne (Ne.symm q)]; exact h3⟩
  · by_cases q : i = k
    · subst q
      rw [List.getElem?_set_self hi] at e
      cases e
      exact c.stands
    · rw [List.getElem?_set_ne q] at e
      exact S.st b ⟨k, hk, e⟩
/-- an owned place is let go: it stands still from now on -/
theorem Sx.letgo {j i : Nat} (S : Sx K own T Z ρ ω σ H) (hj : own[j]? = some i) (np : T.pa.length ≤ j) (hd : ω[j]? = some (some d)) (ha : σ[i]? = some (some (.ref a))) :
    Sx K own T (addZ Z a) ρ (ω.set j none) σ H ∧ Rp K (addZ Z a) H (.ref a) d := by
  obtain ⟨a', ha', nz, c0, f⟩ := S.ow j i d hj hd
  rw [ha] at ha'; cases ha'
  obtain ⟨o, ho, nto⟩ := c0.stands
  have hl : j < ω.length := (List.getElem?_eq_some_iff.mp hd).1
  have e : Ext (fun _ => True) Z H (addZ Z a) H := addZ_ext trivial
  have g : ∀ {k x}, (ω.set j none)[k]? = some (some x) → k ≠ j ∧ ω[k]? = some (some x) := fun {k x} h => by
    by_cases q : k = j
    · subst q; rw [List.getElem?_set_self hl] at h; cases h
    · rw [List.getElem?_set_ne (Ne.symm q)] at h; exact ⟨q, h⟩
  have f0 : T.H0 a = none := by
    rcases f with f | f
    · exfalso
      obtain ⟨j', hj'⟩ := List.getElem?_of_mem f
      obtain ⟨k, x, h1, h2, h3⟩ := S.par j' a hj'
      have q : j' ≠ j := fun z => by
        have := (List.getElem?_eq_some_iff.mp hj').1
        omega
      exact S.dj j' j k i x d a q h1 hj h3 hd h2 ha
    · exact f
  refine ⟨⟨S.len, S.nd, fun k u h => ?_, by simpa using S.wl, fun k i' u h1 h2 => ?_, fun j1 j2 i1 i2 d1 d2 b hne h1 h2 h3 h4 h5 => ?_, fun b z => ?_, fun b z => .inl (S.z0 b z), fun b z => ?_, S.keep, fun j' b h => ?_, S.tabs, S.kt0, S.st, S.ol⟩, c0.freeze⟩
  · obtain ⟨ni, w, h1, h2⟩ := S.sh k u h
    exact ⟨ni, w, h1, h2.ext e⟩
  · obtain ⟨q, h2'⟩ := g h2
    obtain ⟨b, h3, nz', c', f'⟩ := S.ow k i' u h1 h2'
    refine ⟨b, h3, fun z => ?_, c'.ext e fun _ h => h, f'⟩
    rcases z with z | z
    · exact nz' z
    · exact S.dj k j i' i u d b q h1 hj h2' hd h3 (z ▸ ha)
  · exact S.dj j1 j2 i1 i2 d1 d2 b hne h1 h2 (g h3).2 (g h4).2 h5
  · rcases z with z | z
    · exact S.zd b z
    · exact ⟨o, z ▸ ho, nto⟩
  · rcases z with z | z
    · exact S.zz b z
    · exact .inr (z ▸ f0)
  · obtain ⟨k, x, h1, h2, h3⟩ := S.par j' b h
    have q : j' ≠ j := fun z => by
      have := (List.getElem?_eq_some_iff.mp h).1
      omega
    exact ⟨k, x, h1, h2, by rw [List.getElem?_set_ne (Ne.symm q)]; exact h3⟩
/-- behind a block with names of its own: the slots as they were -/
theorem Sx.back {ρ2 : Env} {ω' : Om} {σ2 : L2.St} (S : Sx K own T Z ρ ω σ H) (e : Ext O Z H Z' H') (S' : Sx K own T Z' ρ2 ω' σ2 H') (ag : ∀ i ∈ own, σ2[i]? = σ[i]?) : Sx K own T Z' ρ ω' σ H' := by
  have m : ∀ {j i : Nat}, own[j]? = some i → σ2[i]? = σ[i]? := fun h => ag _ (List.mem_of_getElem? h)
  refine ⟨S.len, S.nd, fun k u h => ?_, S'.wl, fun j i u h1 h2 => ?_, fun j1 j2 i1 i2 d1 d2 b hne h1 h2 h3 h4 h5 => ?_, S'.zd, S'.z0, S'.zz, S'.keep, fun j b h => ?_, S'.tabs, S'.kt0, fun a ⟨k, hk, h⟩ => S'.st a ⟨k, hk, (ag k hk) ▸ h⟩, S.ol⟩
  · obtain ⟨ni, w, h1, h2⟩ := S.sh k u h
    exact ⟨ni, w, h1, h2.ext e⟩
  · rw [← m h1]; exact S'.ow j i u h1 h2
  · rw [← m h2]; rw [← m h1] at h5; exact S'.dj j1 j2 i1 i2 d1 d2 b hne h1 h2 h3 h4 h5
  · obtain ⟨k, x, h1, h2, h3⟩ := S'.par j b h
    exact ⟨k, x, h1, (m h1) ▸ h2, h3⟩
theorem wipe_at {i : Nat} : ∀ {vs : List Nat}, i ∉ vs → (wipe σ vs)[i]? = σ[i]?
  | [], _ => rfl
  | w :: vs, h => by
    unfold wipe
    rw [List.getElem?_set_ne (fun e => h (by rw [← e]; exact List.mem_cons_self))]
    exact wipe_at fun m => h (List.mem_cons_of_mem _ m)
theorem wipeE_at {i : Nat} : ∀ {vs : List Nat}, i ∉ vs → (wipeE ρ vs)[i]? = ρ[i]?
  | [], _ => rfl
  | w :: vs, h => by
    unfold wipeE
    rw [List.getElem?_set_ne (fun e => h (by rw [← e]; exact List.mem_cons_self))]
    exact wipeE_at fun m => h (List.mem_cons_of_mem _ m)
theorem wipeE_length : ∀ vs : List Nat, (wipeE ρ vs).length = ρ.length
  | [] => rfl
  | v :: vs => by unfold wipeE; rw [List.length_set, wipeE_length vs]
theorem wipeE_some {i : Nat} {d : D} : ∀ {vs : List Nat}, (wipeE ρ vs)[i]? = some (some d) → i ∉ vs ∧ ρ[i]? = some (some d)
  | [], h => ⟨by simp, h⟩
  | w :: vs, h => by
    unfold wipeE at h
    by_cases q : w = i
    · subst q
      by_cases hl : w < (wipeE ρ vs).length
      · rw [List.getElem?_set_self hl] at h; cases h
      · rw [List.getElem?_eq_none (by simpa using hl)] at h; cases h
    · rw [List.getElem?_set_ne q] at h
      obtain ⟨h1, h2⟩ := wipeE_some h
      exact ⟨by simp only [List.mem_cons, not_or]; exact ⟨fun e => q e.symm, h1⟩, h2⟩
theorem Sx.wipe {vs : List Nat} (S : Sx K own T Z ρ ω σ H) (no : ∀ i ∈ own, i ∉ vs) : Sx K own T Z (wipeE ρ vs) ω (wipe σ vs) H := by
  have m : ∀ {j i : Nat}, own[j]? = some i → (L2.wipe σ vs)[i]? = σ[i]? := fun h => wipe_at (no _ (List.mem_of_getElem? h))
  refine ⟨by rw [wipeE_length, wipe_length]; exact S.len, S.nd, fun k u h => ?_, S.wl, fun j i u h1 h2 => ?_, fun j1 j2 i1 i2 d1 d2 b hne h1 h2 h3 h4 h5 => ?_, S.zd, S.z0, S.zz, S.keep, fun j b h => ?_, S.tabs, S.kt0, fun a ⟨k, hk, h⟩ => S.st a ⟨k, hk, by rw [wipe_at (no k hk)] at h; exact h⟩, fun k hk => by rw [wipe_length]; exact S.ol k hk⟩
  · obtain ⟨h1, h2⟩ := wipeE_some h
    obtain ⟨ni, w, h3, h4⟩ := S.sh k u h2
    exact ⟨ni, w, by rw [wipe_at h1]; exact h3, h4⟩
  · rw [m h1]; exact S.ow j i u h1 h2
  · rw [m h2]; rw [m h1] at h5; exact S.dj j1 j2 i1 i2 d1 d2 b hne h1 h2 h3 h4 h5
  · obtain ⟨k, x, h1, h2, h3⟩ := S.par j b h
    exact ⟨k, x, h1, (m h1) ▸ h2, h3⟩
end
section
variable {own : List Nat} {T : Ent} {ρ : Env} {ω : Om} {σ : L2.St}
/-- a stands not at H (but for a table that is not told) -/
def Nw (tb : List (Addr × Str)) (H : Hp) (a : Addr) : Prop := ∀ o, H a = some o → (∃ ps, o = .tbl ps) ∧ ∀ q, (a, q) ∉ tb
theorem nw_none {tb : List (Addr × Str)} {a : Addr} (h : H a = none) : Nw tb H a := fun o ho => by rw [h] at ho; cases ho
theorem Sx.nw {a : Addr} (S : Sx K own T Z ρ ω σ H) (n : Nw T.tb H a) : T.H0 a = none ∧ ¬ Ow own σ a := by
  constructor
  · cases e : T.H0 a with
    | none => rfl
    | some o =>
      exfalso
      by_cases hm : a ∈ T.pa
      · obtain ⟨j, hj⟩ := List.getElem?_of_mem hm
        obtain ⟨i, d, h1, h2, h3⟩ := S.par j a hj
        obtain ⟨b, h4, _, h5, _⟩ := S.ow j i d h1 h3
        rw [h2] at h4; cases h4
        obtain ⟨u, hu, nt⟩ := h5.stands
        obtain ⟨⟨ps, q⟩, _⟩ := n u hu
        exact nt ps q
      · by_cases ht : ∃ ps, o = .tbl ps
        · obtain ⟨ps, rfl⟩ := ht
          obtain ⟨q, hq⟩ := S.kt0 a ps e
          obtain ⟨ps', e', _⟩ := S.tabs _ hq
          exact (n _ e').2 q hq
        · have := S.keep a o e hm fun ps z => ht ⟨ps, z⟩
          exact ht (n o this).1
  · intro h
    obtain ⟨o, ho, nt⟩ := S.st a h
    obtain ⟨⟨ps, q⟩, _⟩ := n o ho
    exact nt ps q
end
/-! ### what a part's reading is -/
/-- an own exception -/
def XRp (K : PySem.W.Frag) (mg : Str → Option Value) (Z : Addr → Prop) (H : Hp) (c : Value) (dd : Option Addr) (x : Exn) : Prop :=
  ∃ C, c = .ref C ∧ mg (Str.ofString x.cls) = some (.ref C) ∧ (x.fs = [] ∨ ∃ a fs, dd = some a ∧ H a = some (.xd fs) ∧ ∀ n d, x.fs.lookup n = some d → ∃ v, fs.lookup (Str.ofString n) = some v ∧ Rp K Z H v d)
section
variable {α β γ δ : Type}
def Pg (K : PySem.W.Frag) (mg : Str → Option Value) (own : List Nat) (T : Ent) (W : WX) (R : (Addr → Prop) → Hp → β → α → Prop) (r : Res α) (ρ : Env) (σ : L2.St) (Z : Addr → Prop) (H : Hp) (Q : β → Hp → Prop) : Prop :=
  match r with
  | .ok a ω => ∀ b H' Z', Ext (Ow own σ) Z H Z' H' → Sx K own T Z' ρ ω σ H' → R Z' H' b a → Q b H'
  | .ex x ω => ∀ c dd H' Z', Ext (Ow own σ) Z H Z' H' → Sx K own T Z' ρ ω σ H' → XRp K mg Z' H' c dd x → W c dd σ H'
  | .bad => False
def tG (K : PySem.W.Frag) (mg : Str → Option Value) (own : List Nat) (T : Ent) (W : WX) (R : (Addr → Prop) → Hp → β → α → Prop) (f : Env → M α) : L2.St → Hp → (β → Hp → Prop) → Prop :=
  fun σ H Q => ∃ Z ρ ω, Sx K own T Z ρ ω σ H ∧ Pg K mg own T W R (f ρ ω) ρ σ Z H Q
variable {mg : Str → Option Value} {own : List Nat} {T : Ent} {W : WX} {ρ : Env} {ω : Om} {σ : L2.St} {R : (Addr → Prop) → Hp → β → α → Prop} {R' : (Addr → Prop) → Hp → δ → γ → Prop}
theorem Pg.ext {r : Res α} {Q : β → Hp → Prop} (e : Ext (Ow own σ) Z H Z' H') (h : Pg K mg own T W R r ρ σ Z H Q) : Pg K mg own T W R r ρ σ Z' H' Q := by
  cases r with
  | ok a ω => exact fun b H2 Z2 e2 => h b H2 Z2 (e.trans e2)
  | ex x ω => exact fun c dd H2 Z2 e2 => h c dd H2 Z2 (e.trans e2)
  | bad => exact h
/-- a part, then the rest -/
theorem Pg.bind {m : M α} {k : α → M γ} {Q : β → Hp → Prop} {Q' : δ → Hp → Prop} (h : Pg K mg own T W R' (M.bind m k ω) ρ σ Z H Q')
    (f : ∀ a ω' b H' Z', Ext (Ow own σ) Z H Z' H' → Sx K own T Z' ρ ω' σ H' → R Z' H' b a → Pg K mg own T W R' (k a ω') ρ σ Z' H' Q' → Q b H') : Pg K mg own T W R (m ω) ρ σ Z H Q := by
  unfold M.bind at h
  cases q : m ω with
  | ok a ω' =>
    rw [q] at h
    exact fun b H2 Z2 e S r => f a ω' b H2 Z2 e S r (h.ext e)
  | ex x ω' => rw [q] at h; exact h
  | bad => rw [q] at h; exact h
theorem tG.bind {a : Env → M α} {k : α → Env → M γ} {Q : β → Hp → Prop} {Q' : δ → Hp → Prop} (h : tG K mg own T W R' (fun ρ => M.bind (a ρ) fun x => k x ρ) σ H Q')
    (f : ∀ x ρ ω b H' Z', Sx K own T Z' ρ ω σ H' → R Z' H' b x → Pg K mg own T W R' (k x ρ ω) ρ σ Z' H' Q' → Q b H') : tG K mg own T W R a σ H Q := by
  obtain ⟨Z, ρ, ω, S, h⟩ := h
  exact ⟨Z, ρ, ω, S, h.bind fun x ω' b H' Z' _ S' r p => f x ρ ω' b H' Z' S' r p⟩
/-- the end: a value -/
theorem Pg.pure {a : α} {b : β} {Q : β → Hp → Prop} (h : Pg K mg own T W R (M.pure a ω) ρ σ Z H Q) (e : Ext (Ow own σ) Z H Z' H') (S : Sx K own T Z' ρ ω σ H') (r : R Z' H' b a) : Q b H' := h b H' Z' e S r
theorem Pg.lift {o : Option α} {Q : β → Hp → Prop} (h : Pg K mg own T W R (M.lift o ω) ρ σ Z H Q) : ∃ a, o = some a ∧ Pg K mg own T W R (.ok a ω) ρ σ Z H Q := by
  cases o with
  | none => exact (show False from h).elim
  | some a => exact ⟨a, rfl, h⟩
end
end Wc

set_option Elab.async false
set_option linter.all false
set_option maxRecDepth 100000
set_option maxHeartbeats 1000000
/-! Wc.Ops: operators, comparisons, indexes, slices, built-ins, by data. -/
namespace Wc
open PySem PySem.Spec PyProof.Rows L2
section
variable {X : Cx} {pins : List (Addr × Obj)} {σ : L2.St} {H : Hp} {s : Shared}
/-- a list that is read, tracked or known -/
theorem Inv.lstR {l : Addr} {xs : List V} (I : Inv X pins σ H s) (h : Rd H l (.lst xs)) : xs.length ≤ sizeLine ∧ ∃ (its : List Value) (n : Nat), Vals xs its ∧ xs.length = its.length ∧ s.heap.get? l = some { cls := .type "list", data := .seq its.toArray n } := by
  obtain ⟨z, its, n, r, e⟩ := h.ok I.hok
  exact ⟨z, its, n, r, r.length, e⟩
def rCat' : R2 := fun x y H Q => ∃ l b xs zs, x = .ref l ∧ y = .ref b ∧ Rd H l (.lst xs) ∧ Rd H b (.lst zs) ∧ xs.length + zs.length ≤ sizeLine ∧ ∀ p, H p = none → Q (.ref p) (upd H p (.lst (xs ++ zs)))
theorem op_cat' : OpR X (binaryOp .Add) rCat' := by
  intro pins s σ H x y v u Q I rx ry ⟨l, b, xs, zs, ex, ey, hl, hb, hz, q⟩
  subst ex ey
  cases rx
  cases ry
  obtain ⟨_, its, n, r, e1, g1⟩ := Inv.lstR I hl
  obtain ⟨_, its2, n2, r2, e2, g2⟩ := Inv.lstR I hb
  refine PySem.P.add_list g1 g2 ?_ (by simp only [List.size_toArray]; omega)
  rw [show its.toArray ++ its2.toArray = (its ++ its2).toArray by simp]
  exact ⟨.ref _, _, I.lnew (t' := s.toks) (r.append r2) (by rw [List.length_append]; omega), rfl, q _ I.fresh⟩
end
/-! ### the rules' forms -/
section
variable (X : Cx) (own : List Nat) (T : Ent)
/-- by values: what a two-place operation asks is shown by data -/
def OpS (r : R2) (g : D → D → Option D) : Prop := ∀ Z ρ ω σ H x y d1 d2 d Q, Sx X.K own T Z ρ ω σ H → Rr X.K Z H x d1 → Rr X.K Z H y d2 → g d1 d2 = some d →
  (∀ v H' Z', Ext (Ow own σ) Z H Z' H' → Sx X.K own T Z' ρ ω σ H' → Rp X.K Z' H' v d → Q v H') → r x y H Q
def UnS (r : V → Hp → VK → Prop) (g : D → Option D) : Prop := ∀ Z ρ ω σ H x d1 d Q, Sx X.K own T Z ρ ω σ H → Rr X.K Z H x d1 → g d1 = some d →
  (∀ v H' Z', Ext (Ow own σ) Z H Z' H' → Sx X.K own T Z' ρ ω σ H' → Rp X.K Z' H' v d → Q v H') → r x H Q
end
section
variable {X : Cx} {own : List Nat} {T : Ent} {Z : Addr → Prop} {ρ : Env} {ω : Om} {σ : L2.St} {H : Hp} {K : PySem.W.Frag} {Q : VK} {d : D} {ds : List D} {p : Addr} {v : V} {vs : List V}
/-- ends: a value that lies nowhere -/
theorem fin_v (S : Sx K own T Z ρ ω σ H) (r : Rp K Z H v d) (q : ∀ v H' Z', Ext (Ow own σ) Z H Z' H' → Sx K own T Z' ρ ω σ H' → Rp K Z' H' v d → Q v H') : Q v H := q v H Z (.refl Z H) S r
theorem fin_tup (S : Sx K own T Z ρ ω σ H) (hp : H p = none) (n : vs.length ≤ LIM) (r : RpA K Z H vs ds) (q : ∀ v H' Z', Ext (Ow own σ) Z H Z' H' → Sx K own T Z' ρ ω σ H' → Rp K Z' H' v (.tuple ds) → Q v H') : Q (.ref p) (upd H p (.tup vs)) :=
  q _ _ Z (.new hp) (S.new hp) (.tup (.inl (.inl upd_same)) n (r.ext (Ext.new (O := Ow own σ) hp)))
theorem fin_lst (S : Sx K own T Z ρ ω σ H) (hp : H p = none) (n : vs.length ≤ LIM) (r : RpA K Z H vs ds) (q : ∀ v H' Z', Ext (Ow own σ) Z H Z' H' → Sx K own T Z' ρ ω σ H' → Rp K Z' H' v (.list ds) → Q v H') : Q (.ref p) (upd H p (.lst vs)) :=
  q _ _ (addZ Z p) (.newZ hp) (S.newZ hp) (.lst (.inr rfl) upd_same n (r.ext (Ext.newZ (O := Ow own σ) hp)))
/-- the shapes -/
theorem Rr.int {x : V} {i : Int} (h : Rr K Z H x (.int i)) : x = .int i := by cases h with | sh h => cases h; rfl
theorem Rr.bl {x : V} {b : Bool} (h : Rr K Z H x (.bool b)) : x = .bl b := by cases h with | sh h => cases h; rfl
theorem Rr.non {x : V} (h : Rr K Z H x .none) : x = .non := by cases h with | sh h => cases h; rfl
theorem Rr.str {x : V} {z : Str} (h : Rr K Z H x (.str z)) : x = .str z ∧ z.length ≤ LIM := by cases h with | sh h => cases h with | str _ n => exact ⟨rfl, n⟩
theorem Rr.list {x : V} {ds : List D} (h : Rr K Z H x (.list ds)) : ∃ a xs, x = .ref a ∧ Rd H a (.lst xs) ∧ xs.length ≤ LIM ∧ RpA K Z H xs ds := by
  cases h with
  | sh h => cases h with | lst z r n q => exact ⟨_, _, rfl, .inl r, n, q⟩
  | lst r n q => exact ⟨_, _, rfl, .inl r, n, q⟩
theorem Rr.listH {x : V} {ds : List D} (h : Rr K Z H x (.list ds)) : ∃ a xs, x = .ref a ∧ H a = some (.lst xs) ∧ xs.length ≤ LIM ∧ RpA K Z H xs ds := by
  cases h with
  | sh h => cases h with | lst z r n q => exact ⟨_, _, rfl, r, n, q⟩
  | lst r n q => exact ⟨_, _, rfl, r, n, q⟩
theorem Rr.tuple {x : V} {ds : List D} (h : Rr K Z H x (.tuple ds)) : ∃ a xs, x = .ref a ∧ SqT K H a xs ∧ xs.length ≤ LIM ∧ RpA K Z H xs ds := by
  cases h with
  | sh h => cases h with | tup r n q => exact ⟨_, _, rfl, r, n, q⟩
theorem Rr.dict {x : V} {es : List (D × D)} (h : Rr K Z H x (.dict es)) : ∃ a kvs, x = .ref a ∧ Rd H a (.dK kvs) ∧ kvs.length ≤ LIM ∧ RpK K Z H kvs es := by
  cases h with
  | sh h => cases h with | dic z r n q => exact ⟨_, _, rfl, r, n, q⟩
  | dic r n q => exact ⟨_, _, rfl, r, n, q⟩
theorem str_len {x y : Str} : (x ++ y).length = x.length + y.length := by
  show (x.cps ++ y.cps).size = _
  rw [Array.size_append]; rfl
theorem nil_len (r : RpA K Z H vs ds) : vs = [] ↔ ds = [] := by cases r <;> simp
/-- + -/
def rAdd' (K : PySem.W.Frag) : R2 := fun x y H Q => rI0 (fun i j => .int (i + j)) x y H Q ∨ (∃ i j, x = .str i ∧ y = .str j ∧ i.length + j.length ≤ sizeLine ∧ Q (.str (i ++ j)) H) ∨ rCatA K x y H Q ∨ rCat' x y H Q
theorem op_add' : OpR X (binaryOp .Add) (rAdd' X.K) := op_add.or (op_add_str.or (op_catA.or op_cat'))
theorem os_add : OpS X own T (rAdd' X.K) (opD .add) := by
  intro Z ρ ω σ H x y d1 d2 d Q S h1 h2 e q
  cases d1 <;> cases d2 <;> simp only [opD] at e <;> try contradiction
  · cases h1.int; cases h2.int; cases e
    exact .inl ⟨_, _, rfl, rfl, fin_v S (.int _) q⟩
  · obtain ⟨rfl, n1⟩ := h1.str
    obtain ⟨rfl, n2⟩ := h2.str
    split at e
    · cases e
      rename_i hn
      exact .inr (.inl ⟨_, _, rfl, rfl, lim_le hn, fin_v S (.str _ (by rw [str_len]; exact hn)) q⟩)
    · cases e
  · obtain ⟨a, xs, rfl, r1, n1, q1⟩ := h1.list
    obtain ⟨b, ys, rfl, r2, n2, q2⟩ := h2.list
    split at e
    · cases e
      rename_i hn
      rw [← q1.length, ← q2.length] at hn
      exact .inr (.inr (.inr ⟨a, b, xs, ys, rfl, rfl, r1, r2, lim_le hn, fun p hp => fin_lst S hp (by rw [List.length_append]; exact hn) (q1.append q2) q⟩))
    · cases e
  · obtain ⟨a, xs, rfl, r1, n1, q1⟩ := h1.tuple
    obtain ⟨b, ys, rfl, r2, n2, q2⟩ := h2.tuple
    split at e
    · cases e
      rename_i hn
      rw [← q1.length, ← q2.length] at hn
      refine .inr (.inr (.inl ⟨a, b, xs, ys, rfl, rfl, r1, r2, lim_le hn, fun z => ?_, fun _ z => ?_, fun _ _ p hp => fin_tup S hp (by rw [List.length_append]; exact hn) (q1.append q2) q⟩))
      · have z' := (nil_len q1).mp z
        subst z'
        exact fin_v S (.tup r2 n2 q2) q
      · have z' := (nil_len q2).mp z
        subst z'
        rw [List.append_nil] at q
        exact fin_v S (.tup r1 n1 q1) q
    · cases e
theorem os_sub : OpS X own T (rI0 fun i j => .int (i - j)) (opD .sub) := by
  intro Z ρ ω σ H x y d1 d2 d Q S h1 h2 e q
  cases d1 <;> cases d2 <;> simp only [opD] at e <;> try contradiction
  cases h1.int; cases h2.int; cases e
  exact ⟨_, _, rfl, rfl, fin_v S (.int _) q⟩
theorem small64_iff {i : Int} (h : small64 i = true) : -(2 ^ 64) < i ∧ i < 2 ^ 64 := by
  unfold small64 at h
  rw [Bool.and_eq_true] at h
  exact ⟨of_decide_eq_true h.1, of_decide_eq_true h.2⟩
def rRep' (K : PySem.W.Frag) : R2 := fun x y H Q => rI CMul (fun i j => .int (i * j)) x y H Q ∨ rRepT K x y H Q
theorem op_mul' : OpR X (binaryOp .Mult) (rRep' X.K) := op_mul.or op_repT
theorem os_mul : OpS X own T (rRep' X.K) (opD .mul) := by
  intro Z ρ ω σ H x y d1 d2 d Q S h1 h2 e q
  cases d1 <;> cases d2 <;> simp only [opD] at e <;> try contradiction
  · cases h1.int; cases h2.int
    split at e
    · cases e
      rename_i hn
      rw [Bool.or_eq_true] at hn
      exact .inl ⟨_, _, rfl, rfl, hn.imp small64_iff small64_iff, fin_v S (.int _) q⟩
    · cases e
  · obtain ⟨a, xs, rfl, r1, n1, q1⟩ := h1.tuple
    cases h2.int
    split at e
    · cases e
      rename_i j hn
      simp only [Bool.and_eq_true, decide_eq_true_eq] at hn
      obtain ⟨⟨⟨k1, k2⟩, k3⟩, k4⟩ := hn
      rw [← q1.length] at k4
      refine .inr ⟨a, j, xs, rfl, rfl, r1, fun z => k1 ((nil_len q1).mp z), k2, k3, k4, fun p hp => fin_tup S hp ?_ (q1.rep _) q⟩
      rw [List.length_flatten, List.map_replicate, List.sum_replicate_nat]
      have : j.toNat ≤ 1000 := by omega
      have := Nat.mul_le_mul this k4
      show _ ≤ 16777216
      omega
    · cases e
theorem os_fdiv : OpS X own T (rI CDivN fun i j => .int (i.fdiv j)) (opD .fdiv) := by
  intro Z ρ ω σ H x y d1 d2 d Q S h1 h2 e q
  cases d1 <;> cases d2 <;> simp only [opD] at e <;> try contradiction
  cases h1.int; cases h2.int
  split at e
  · cases e
    rename_i hn
    simp only [Bool.and_eq_true, decide_eq_true_eq] at hn
    exact ⟨_, _, rfl, rfl, hn, fin_v S (.int _) q⟩
  · cases e
theorem os_mod : OpS X own T (rI (fun _ j => j ≠ 0) fun i j => .int (i.fmod j)) (opD .mod) := by
  intro Z ρ ω σ H x y d1 d2 d Q S h1 h2 e q
  cases d1 <;> cases d2 <;> simp only [opD] at e <;> try contradiction
  cases h1.int; cases h2.int
  split at e
  · cases e
    rename_i hn
    exact ⟨_, _, rfl, rfl, hn, fin_v S (.int _) q⟩
  · cases e
theorem os_pow : OpS X own T (rI CPow fun i j => .int (i ^ j.toNat)) (opD .pow) := by
  intro Z ρ ω σ H x y d1 d2 d Q S h1 h2 e q
  cases d1 <;> cases d2 <;> simp only [opD] at e <;> try contradiction
  cases h1.int; cases h2.int
  split at e
  · cases e
    rename_i hn
    simp only [Bool.and_eq_true, decide_eq_true_eq] at hn
    exact ⟨_, _, rfl, rfl, ⟨hn.1.1, hn.1.2, hn.2⟩, fin_v S (.int _) q⟩
  · cases e
/-! ### comparisons -/
def rCmp (K : PySem.W.Frag) (c : Cmp) : R2 := fun x y H Q => ∃ Z d e b, Rr K Z H x d ∧ Rr K Z H y e ∧ cmpB c d e = some b ∧ Q (.bl b) H
theorem os_cmp {c : Cmp} : OpS X own T (rCmp X.K c) (cmpD c) := by
  intro Z ρ ω σ H x y d1 d2 d Q S h1 h2 e q
  unfold cmpD at e
  cases eb : cmpB c d1 d2 with
  | none => rw [eb] at e; cases e
  | some b => rw [eb] at e; cases e; exact ⟨Z, d1, d2, b, h1, h2, eb, fin_v S (.bl b) q⟩
theorem eqOk_iff {d e : D} (h : eqOk d e = true) : d.plain = true ∧ e.plain = true ∧ d.depth ≤ 64 ∧ e.depth ≤ 64 := by
  unfold eqOk at h
  simp only [Bool.and_eq_true, decide_eq_true_eq] at h
  exact ⟨h.1.1.1, h.1.1.2, h.1.2, h.2⟩
theorem reads_of {pins : List (Addr × Obj)} {s : Shared} {x : V} {v : Value} (I : Inv X pins σ H s) (rx : RelV x v) (h : Rr X.K Z H x d) (pl : d.plain = true) : ∃ as, Reads s.heap v d as := Dp.reads I d x v (h.dp pl) rx
theorem op_eqC (hu : X.A.units + 65 < cLine) : OpR X (compareOp .Eq) (rCmp X.K .eq) := by
  intro pins s σ H x y v u Q I rx ry ⟨Z, d, e, b, h1, h2, eb, q⟩
  simp only [cmpB] at eb
  split at eb
  · rename_i ok
    cases eb
    obtain ⟨p1, p2, n1, n2⟩ := eqOk_iff ok
    obtain ⟨as, r1⟩ := reads_of I rx h1 p1
    obtain ⟨bs, r2⟩ := reads_of I ry h2 p2
    exact PySem.SeqAt.eq_plain r1 r2 p1 p2 (by omega) ⟨.bl _, H, I, rfl, q⟩
  · cases eb
theorem op_neC (hu : X.A.units + 65 < cLine) : OpR X (compareOp .NotEq) (rCmp X.K .ne) := by
  intro pins s σ H x y v u Q I rx ry ⟨Z, d, e, b, h1, h2, eb, q⟩
  simp only [cmpB] at eb
  split at eb
  · rename_i ok
    cases eb
    obtain ⟨p1, p2, n1, n2⟩ := eqOk_iff ok
    obtain ⟨as, r1⟩ := reads_of I rx h1 p1
    obtain ⟨bs, r2⟩ := reads_of I ry h2 p2
    exact PySem.SeqAt.ne_plain r1 r2 p1 p2 (by omega) ⟨.bl _, H, I, rfl, q⟩
  · cases eb
theorem ltOk_iff {d e : D} (h : (eqOk d e && PySem.W.alike d e && notNone d) = true) : eqOk d e = true ∧ PySem.W.alike d e = true ∧ d ≠ .none := by
  simp only [Bool.and_eq_true] at h
  exact ⟨h.1.1, h.1.2, fun z => by subst z; exact absurd h.2 Bool.false_ne_true⟩
/-- the four orders of data -/
theorem lt_any (hu : X.A.units + 65 < cLine) {pins : List (Addr × Obj)} {s : Shared} {x y : V} {v u : Value} {d e : D} {b : Bool} (I : Inv X pins σ H s) (rx : RelV x v) (ry : RelV y u) (h1 : Rr X.K Z H x d) (h2 : Rr X.K Z H y e) (eb : ltD d e = some b) (q : Q (.bl b) H) :
    wpAny (model X.prog X.w) X.A (compareOp .Lt v u) (EP X pins σ Q) X.xe s := by
  unfold ltD at eb
  split at eb
  · rename_i ok
    cases eb
    obtain ⟨o1, o2, o3⟩ := ltOk_iff ok
    obtain ⟨p1, p2, n1, n2⟩ := eqOk_iff o1
    obtain ⟨as, r1⟩ := reads_of I rx h1 p1
    obtain ⟨bs, r2⟩ := reads_of I ry h2 p2
    exact PySem.W.lt_data r1 r2 o2 o3 (by omega) ⟨.bl _, H, I, rfl, q⟩
  · cases eb
theorem ge_any (hu : X.A.units + 65 < cLine) {pins : List (Addr × Obj)} {s : Shared} {x y : V} {v u : Value} {d e : D} {b : Bool} (I : Inv X pins σ H s) (rx : RelV x v) (ry : RelV y u) (h1 : Rr X.K Z H x d) (h2 : Rr X.K Z H y e) (eb : (ltD d e).map (!·) = some b) (q : Q (.bl b) H) :
    wpAny (model X.prog X.w) X.A (compareOp .GtE v u) (EP X pins σ Q) X.xe s := by
  unfold ltD at eb
  split at eb
  · rename_i ok
    cases eb
    obtain ⟨o1, o2, o3⟩ := ltOk_iff ok
    obtain ⟨p1, p2, n1, n2⟩ := eqOk_iff o1
    obtain ⟨as, r1⟩ := reads_of I rx h1 p1
    obtain ⟨bs, r2⟩ := reads_of I ry h2 p2
    exact PySem.W.ge_data r1 r2 o2 o3 (by omega) ⟨.bl _, H, I, rfl, q⟩
  · cases eb
theorem gt_any (hu : X.A.units + 65 < cLine) {pins : List (Addr × Obj)} {s : Shared} {x y : V} {v u : Value} {d e : D} {b : Bool} (I : Inv X pins σ H s) (rx : RelV x v) (ry : RelV y u) (h1 : Rr X.K Z H x d) (h2 : Rr X.K Z H y e) (eb : gtD d e = some b) (q : Q (.bl b) H) :
    wpAny (model X.prog X.w) X.A (compareOp .Gt v u) (EP X pins σ Q) X.xe s := by
  unfold gtD at eb
  split at eb
  · rename_i ok
    cases eb
    obtain ⟨o1, o2, o3⟩ := ltOk_iff ok
    obtain ⟨p1, p2, n1, n2⟩ := eqOk_iff o1
    obtain ⟨as, r1⟩ := reads_of I rx h1 p1
    obtain ⟨bs, r2⟩ := reads_of I ry h2 p2
    exact PySem.W.gt_data r1 r2 o2 o3 (by omega) ⟨.bl _, H, I, rfl, q⟩
  · cases eb
theorem le_any (hu : X.A.units + 65 < cLine) {pins : List (Addr × Obj)} {s : Shared} {x y : V} {v u : Value} {d e : D} {b : Bool} (I : Inv X pins σ H s) (rx : RelV x v) (ry : RelV y u) (h1 : Rr X.K Z H x d) (h2 : Rr X.K Z H y e) (eb : (gtD d e).map (!·) = some b) (q : Q (.bl b) H) :
    wpAny (model X.prog X.w) X.A (compareOp .LtE v u) (EP X pins σ Q) X.xe s := by
  unfold gtD at eb
  split at eb
  · rename_i ok
    cases eb
    obtain ⟨o1, o2, o3⟩ := ltOk_iff ok
    obtain ⟨p1, p2, n1, n2⟩ := eqOk_iff o1
    obtain ⟨as, r1⟩ := reads_of I rx h1 p1
    obtain ⟨bs, r2⟩ := reads_of I ry h2 p2
    exact PySem.W.le_data r1 r2 o2 o3 (by omega) ⟨.bl _, H, I, rfl, q⟩
  · cases eb
theorem op_ltC (hu : X.A.units + 65 < cLine) : OpR X (compareOp .Lt) (rCmp X.K .lt) := by
  intro pins s σ H x y v u Q I rx ry ⟨Z, d, e, b, h1, h2, eb, q⟩
  cases d <;> cases e <;> first
    | (simp only [cmpB] at eb; cases h1.int; cases h2.int; cases eb; exact op_lt pins s σ H _ _ v u Q I rx ry ⟨_, _, rfl, rfl, q⟩)
    | exact lt_any hu I rx ry h1 h2 eb q
theorem op_leC (hu : X.A.units + 65 < cLine) : OpR X (compareOp .LtE) (rCmp X.K .le) := by
  intro pins s σ H x y v u Q I rx ry ⟨Z, d, e, b, h1, h2, eb, q⟩
  cases d <;> cases e <;> first
    | (simp only [cmpB] at eb; cases h1.int; cases h2.int; cases eb; exact op_le pins s σ H _ _ v u Q I rx ry ⟨_, _, rfl, rfl, q⟩)
    | exact le_any hu I rx ry h1 h2 eb q
theorem op_gtC (hu : X.A.units + 65 < cLine) : OpR X (compareOp .Gt) (rCmp X.K .gt) := by
  intro pins s σ H x y v u Q I rx ry ⟨Z, d, e, b, h1, h2, eb, q⟩
  cases d <;> cases e <;> first
    | (simp only [cmpB] at eb; cases h1.int; cases h2.int; cases eb; exact op_gt pins s σ H _ _ v u Q I rx ry ⟨_, _, rfl, rfl, q⟩)
    | exact gt_any hu I rx ry h1 h2 eb q
theorem op_geC (hu : X.A.units + 65 < cLine) : OpR X (compareOp .GtE) (rCmp X.K .ge) := by
  intro pins s σ H x y v u Q I rx ry ⟨Z, d, e, b, h1, h2, eb, q⟩
  cases d <;> cases e <;> first
    | (simp only [cmpB] at eb; cases h1.int; cases h2.int; cases eb; exact op_ge pins s σ H _ _ v u Q I rx ry ⟨_, _, rfl, rfl, q⟩)
    | exact ge_any hu I rx ry h1 h2 eb q
/-! is None -/
theorem none_dec {x : V} {d : D} (h : Rr K Z H x d) : decide (x = .non) = !notNone d := by
  cases h with
  | sh h => cases h <;> rfl
  | _ => rfl
theorem none_decN {x : V} {d : D} (h : Rr K Z H x d) : (!decide (x = .non)) = notNone d := by
  cases h with
  | sh h => cases h <;> rfl
  | _ => rfl
theorem is_bool {M : Model} {A : Around} {E : Value → Shared → Prop} {s : Shared} {Q : Value → Shared → Prop} {c b : Bool} (h : Q (.bool (c == b)) s) : wpAny M A (compareOp .Is (.bool c) (.bool b)) Q E s := by
  cases c <;> cases b <;> exact wpAny_pure h
theorem isnot_bool {M : Model} {A : Around} {E : Value → Shared → Prop} {s : Shared} {Q : Value → Shared → Prop} {c b : Bool} (h : Q (.bool (!(c == b))) s) : wpAny M A (compareOp .IsNot (.bool c) (.bool b)) Q E s := by
  cases c <;> cases b <;> exact wpAny_pure h
theorem op_isC : OpR X (compareOp .Is) (rCmp X.K .isN) := by
  intro pins s σ H x y v u Q I rx ry ⟨Z, d, e, b, h1, h2, eb, q⟩
  cases e with
  | none =>
    simp only [cmpB] at eb
    cases h2.non
    cases eb
    exact op_isN pins s σ H _ _ v u Q I rx ry ⟨rfl, by rw [none_dec h1]; exact q⟩
  | bool b2 =>
    cases d <;> simp only [cmpB] at eb <;> try contradiction
    cases eb
    cases h1.bl
    cases h2.bl
    cases rx
    cases ry
    exact is_bool ⟨.bl _, H, I, rfl, q⟩
  | _ => simp only [cmpB] at eb; contradiction
theorem op_isNotC : OpR X (compareOp .IsNot) (rCmp X.K .notN) := by
  intro pins s σ H x y v u Q I rx ry ⟨Z, d, e, b, h1, h2, eb, q⟩
  cases e with
  | none =>
    simp only [cmpB] at eb
    cases h2.non
    cases eb
    exact op_notN pins s σ H _ _ v u Q I rx ry ⟨rfl, by rw [none_decN h1]; exact q⟩
  | bool b2 =>
    cases d <;> simp only [cmpB] at eb <;> try contradiction
    cases eb
    cases h1.bl
    cases h2.bl
    cases rx
    cases ry
    exact isnot_bool ⟨.bl _, H, I, rfl, q⟩
  | _ => simp only [cmpB] at eb; contradiction
/-! in -/
theorem str_one {z : Str} {c : Nat} (h : z.cps.toList = [c]) : z = ⟨#[c]⟩ := by
  cases z
  congr 1
  exact Array.ext' h
theorem kV_of {k : Key} {x : V} {d : D} (e : keyOf d = some k) (h : Rr K Z H x d) : x = kV k ∧ d = kD k := by
  cases d <;> simp only [keyOf] at e <;> try contradiction
  · cases e; exact ⟨h.int, rfl⟩
  · cases e; exact ⟨h.str.1, rfl⟩
theorem eqv_kD (k k' : Key) : PyData.eqv (kD k) (kD k') = decide (k = k') := by
  cases k <;> cases k' <;> simp [kD, PyData.eqv, Bool.beq_eq_decide_eq]
theorem dget_val : ∀ {kvs : List (Key × V)} {es : List (D × D)} (k : Key), RpK K Z H kvs es → (valV kvs k = none ∧ dget es (kD k) = none) ∨ ∃ v d, valV kvs k = some v ∧ dget es (kD k) = some d ∧ Rp K Z H v d
  | [], [], k, .nil => .inl ⟨rfl, rfl⟩
  | (k', v) :: kvs, (_, d) :: es, k, .cons h t => by
    have e2 : PyData.eqv (kD k') (kD k) = decide (k' = k) := eqv_kD k' k
    by_cases q : k' = k
    · right
      refine ⟨v, d, by rw [valV_pos (p := (k', v)) q], ?_, h⟩
      unfold dget
      rw [List.find?_cons, e2, decide_eq_true q]
      rfl
    · have e3 : valV ((k', v) :: kvs) k = valV kvs k := valV_neg (p := (k', v)) q
      have e4 : dget ((kD k', d) :: es) (kD k) = dget es (kD k) := by
        unfold dget
        rw [List.find?_cons, e2, decide_eq_false q]
      rw [e3, e4]
      exact dget_val k t
theorem dget_some {kvs : List (Key × V)} {es : List (D × D)} (k : Key) (h : RpK K Z H kvs es) : (valV kvs k).isSome = (dget es (kD k)).isSome := by
  rcases dget_val k h with ⟨h1, h2⟩ | ⟨v, d, h1, h2, _⟩ <;> rw [h1, h2] <;> rfl
theorem in_any (hu : X.A.units + 65 < cLine) {pins : List (Addr × Obj)} {s : Shared} {x y : V} {v u : Value} {d e : D} {b : Bool} (I : Inv X pins σ H s) (rx : RelV x v) (ry : RelV y u) (h1 : Rr X.K Z H x d) (h2 : Rr X.K Z H y e) (eb : memD d e = some b) (q : Q (.bl b) H) :
    wpAny (model X.prog X.w) X.A (compareOp .In v u) (EP X pins σ Q) X.xe s := by
  cases e <;> simp only [memD] at eb <;> try contradiction
  · cases d <;> simp only at eb <;> try contradiction
    obtain ⟨rfl, _⟩ := h1.str
    obtain ⟨rfl, _⟩ := h2.str
    split at eb
    · rename_i c hc
      cases eb
      exact op_in_sign pins s σ H _ _ v u Q I rx ry ⟨c, _, congrArg V.str (str_one hc), rfl, q⟩
    · cases eb
  · split at eb
    · rename_i ok
      cases eb
      obtain ⟨p1, p2, n1, n2⟩ := eqOk_iff ok
      obtain ⟨as, r1⟩ := reads_of I rx h1 p1
      obtain ⟨bs, r2⟩ := reads_of I ry h2 p2
      simp only [PyData.plain] at p2
      exact PySem.SeqAt.in_list_data r2 r1 p2 p1 (by omega) ⟨.bl _, H, I, rfl, q⟩
    · cases eb
  · split at eb
    · rename_i ok
      cases eb
      obtain ⟨p1, p2, n1, n2⟩ := eqOk_iff ok
      obtain ⟨as, r1⟩ := reads_of I rx h1 p1
      obtain ⟨bs, r2⟩ := reads_of I ry h2 p2
      simp only [PyData.plain] at p2
      exact PySem.SeqAt.in_tuple_data r2 r1 p2 p1 (by omega) ⟨.bl _, H, I, rfl, q⟩
    · cases eb
  · split at eb
    · rename_i k hk
      cases eb
      obtain ⟨a, kvs, rfl, r, n, qk⟩ := h2.dict
      obtain ⟨rfl, rfl⟩ := kV_of hk h1
      cases ry
      rw [← dget_some k qk] at q
      exact d_in (by omega) I (.inl ⟨kvs, k, r, rfl, rfl⟩) rx fun s3 I3 => ⟨.bl _, H, I3, rfl, q⟩
    · cases eb
theorem notIn_any (hu : X.A.units + 65 < cLine) {pins : List (Addr × Obj)} {s : Shared} {x y : V} {v u : Value} {d e : D} {b : Bool} (I : Inv X pins σ H s) (rx : RelV x v) (ry : RelV y u) (h1 : Rr X.K Z H x d) (h2 : Rr X.K Z H y e) (eb : memD d e = some b) (q : Q (.bl (!b)) H) :
    wpAny (model X.prog X.w) X.A (compareOp .NotIn v u) (EP X pins σ Q) X.xe s := by
  cases e <;> simp only [memD] at eb <;> try contradiction
  · cases d <;> simp only at eb <;> try contradiction
    obtain ⟨rfl, _⟩ := h1.str
    obtain ⟨rfl, _⟩ := h2.str
    split at eb
    · rename_i c hc
      cases eb
      exact op_notIn_sign pins s σ H _ _ v u Q I rx ry ⟨c, _, congrArg V.str (str_one hc), rfl, q⟩
    · cases eb
  · split at eb
    · rename_i ok
      cases eb
      obtain ⟨p1, p2, n1, n2⟩ := eqOk_iff ok
      obtain ⟨as, r1⟩ := reads_of I rx h1 p1
      obtain ⟨bs, r2⟩ := reads_of I ry h2 p2
      simp only [PyData.plain] at p2
      exact PySem.SeqAt.notIn_list_data r2 r1 p2 p1 (by omega) ⟨.bl _, H, I, rfl, q⟩
    · cases eb
  · split at eb
    · rename_i ok
      cases eb
      obtain ⟨p1, p2, n1, n2⟩ := eqOk_iff ok
      obtain ⟨as, r1⟩ := reads_of I rx h1 p1
      obtain ⟨bs, r2⟩ := reads_of I ry h2 p2
      simp only [PyData.plain] at p2
      exact PySem.SeqAt.notIn_tuple_data r2 r1 p2 p1 (by omega) ⟨.bl _, H, I, rfl, q⟩
    · cases eb
  · split at eb
    · rename_i k hk
      cases eb
      obtain ⟨a, kvs, rfl, r, n, qk⟩ := h2.dict
      obtain ⟨rfl, rfl⟩ := kV_of hk h1
      cases ry
      rw [← dget_some k qk] at q
      exact d_notIn (by omega) I (.inl ⟨kvs, k, r, rfl, rfl⟩) rx fun s3 I3 => ⟨.bl _, H, I3, rfl, q⟩
    · cases eb
theorem op_inC (hu : X.A.units + 65 < cLine) : OpR X (compareOp .In) (rCmp X.K .mem) := by
  intro pins s σ H x y v u Q I rx ry ⟨Z, d, e, b, h1, h2, eb, q⟩
  exact in_any hu I rx ry h1 h2 eb q
theorem op_notInC (hu : X.A.units + 65 < cLine) : OpR X (compareOp .NotIn) (rCmp X.K .nmem) := by
  intro pins s σ H x y v u Q I rx ry ⟨Z, d, e, b, h1, h2, eb, q⟩
  cases em : memD d e with
  | none => simp only [cmpB, em] at eb; cases eb
  | some b' =>
    simp only [cmpB, em] at eb
    cases eb
    exact notIn_any hu I rx ry h1 h2 em q
end
end Wc

set_option Elab.async false
set_option linter.all false
set_option maxRecDepth 100000
set_option maxHeartbeats 1000000
/-! Wc.Ops2: built-ins of one argument, isinstance, indexes. -/
namespace Wc
open PySem PySem.Spec PyProof.Rows L2
section
variable {X : Cx} {own : List Nat} {T : Ent} {Z : Addr → Prop} {ρ : Env} {ω : Om} {σ : L2.St} {H : Hp} {K : PySem.W.Frag} {Q : VK} {d : D} {ds : List D} {p : Addr} {v : V} {vs : List V}
/-- a call's reading of one argument -/
def one1 (r : List V → Hp → VK → Prop) : V → Hp → VK → Prop := fun x H Q => r [x] H Q
def rLen' (K : PySem.W.Frag) : List V → Hp → VK → Prop := fun xs H Q => (∃ p ys, xs = [.ref p] ∧ (SqL K H p ys ∨ SqT K H p ys) ∧ Q (.int ys.length) H) ∨ (∃ z, xs = [.str z] ∧ z.length ≤ sizeLine ∧ Q (.int z.length) H) ∨ (∃ a kvs, xs = [.ref a] ∧ Rd H a (.dK kvs) ∧ Q (.int kvs.length) H)
theorem us_neg : UnS X own T (rU fun i => .int (-i)) negD := by
  intro Z ρ ω σ H x d1 d Q S h e q
  cases d1 <;> simp only [negD] at e <;> try contradiction
  cases h.int
  cases e
  exact ⟨_, rfl, fin_v S (.int _) q⟩
def rInt' : List V → Hp → VK → Prop := fun xs H Q => (∃ i, xs = [.int i] ∧ Q (.int i) H) ∨ ∃ k, xs = [.bl k] ∧ Q (.int (if k then 1 else 0)) H
theorem us_int : UnS X own T (one1 rInt') intD := by
  intro Z ρ ω σ H x d1 d Q S h e q
  cases d1 <;> simp only [intD] at e <;> try contradiction
  · cases h.bl; cases e
    exact .inr ⟨_, rfl, fin_v S (.int _) q⟩
  · cases h.int; cases e
    exact .inl ⟨_, rfl, fin_v S (.int _) q⟩
def rAbs' : List V → Hp → VK → Prop := fun xs H Q => ∃ i, xs = [.int i] ∧ Q (.int (if i < 0 then -i else i)) H
theorem us_abs : UnS X own T (one1 rAbs') absD := by
  intro Z ρ ω σ H x d1 d Q S h e q
  cases d1 <;> simp only [absD] at e <;> try contradiction
  cases h.int; cases e
  exact ⟨_, rfl, fin_v S (.int _) q⟩
def rLst' (K : PySem.W.Frag) : List V → Hp → VK → Prop := fun xs H Q => ∃ p ys, xs = [.ref p] ∧ (SqL K H p ys ∨ SqT K H p ys) ∧ ∀ l, H l = none → Q (.ref l) (upd H l (.lst ys))
theorem us_lst : UnS X own T (one1 (rLst' X.K)) lstD := by
  intro Z ρ ω σ H x d1 d Q S h e q
  cases d1 <;> simp only [lstD, seqD] at e <;> try contradiction
  · obtain ⟨a, xs, rfl, r, n, q1⟩ := h.list
    cases e
    exact ⟨a, xs, rfl, .inl (.inl r), fun p hp => fin_lst S hp n q1 q⟩
  · obtain ⟨a, xs, rfl, r, n, q1⟩ := h.tuple
    cases e
    exact ⟨a, xs, rfl, .inr r, fun p hp => fin_lst S hp n q1 q⟩
def rTup' (K : PySem.W.Frag) : List V → Hp → VK → Prop := fun xs H Q => ∃ p ys, xs = [.ref p] ∧ ((SqL K H p ys ∧ ∀ l, H l = none → Q (.ref l) (upd H l (.tup ys))) ∨ (SqT K H p ys ∧ Q (.ref p) H))
theorem us_tup : UnS X own T (one1 (rTup' X.K)) tupD := by
  intro Z ρ ω σ H x d1 d Q S h e q
  cases d1 <;> simp only [tupD, seqD] at e <;> try contradiction
  · obtain ⟨a, xs, rfl, r, n, q1⟩ := h.list
    cases e
    exact ⟨a, xs, rfl, .inl ⟨.inl r, fun p hp => fin_tup S hp n q1 q⟩⟩
  · obtain ⟨a, xs, rfl, r, n, q1⟩ := h.tuple
    cases e
    exact ⟨a, xs, rfl, .inr ⟨r, fin_v S (.tup r n q1) q⟩⟩
theorem bools_of : ∀ {vs : List V} {ds : List D} {bs : List Bool}, RpA K Z H vs ds → ds.mapM boolOf = some bs → vs = bs.map V.bl
  | [], [], bs, .nil, e => by simp at e; subst e; rfl
  | v :: vs, d :: ds, bs, .cons h t, e => by
    rw [List.mapM_cons] at e
    cases hb : boolOf d with
    | none => rw [hb] at e; cases e
    | some b =>
      cases hr : ds.mapM boolOf with
      | none => rw [hb, hr] at e; cases e
      | some bs' =>
        rw [hb, hr] at e
        cases e
        rw [bools_of t hr, List.map_cons]
        cases d <;> simp only [boolOf] at hb <;> try contradiction
        cases hb; cases h; rfl
theorem us_all : UnS X own T (one1 (rAll X.K)) allD := by
  intro Z ρ ω σ H x d1 d Q S h e q
  cases d1 <;> simp only [allD] at e <;> try contradiction
  obtain ⟨a, xs, rfl, r, n, q1⟩ := h.list
  rw [Option.map_eq_some_iff] at e
  obtain ⟨bs, hb, rfl⟩ := e
  exact ⟨a, bs, rfl, by rw [← bools_of q1 hb]; exact .inl r, fin_v S (.bl _) q⟩
theorem us_any : UnS X own T (one1 (rAny X.K)) anyD := by
  intro Z ρ ω σ H x d1 d Q S h e q
  cases d1 <;> simp only [anyD] at e <;> try contradiction
  obtain ⟨a, xs, rfl, r, n, q1⟩ := h.list
  rw [Option.map_eq_some_iff] at e
  obtain ⟨bs, hb, rfl⟩ := e
  exact ⟨a, bs, rfl, by rw [← bools_of q1 hb]; exact .inl r, fin_v S (.bl _) q⟩
/-- len of a dict that is read -/
theorem call_len_dR : CallR X (.builtin "len") (fun xs H Q => ∃ a kvs, xs = [.ref a] ∧ Rd H a (.dK kvs) ∧ Q (.int kvs.length) H) := by
  intro pins s σ H xs us Q I r ⟨a, kvs, ex, hd, q⟩
  subst ex
  obtain ⟨u, rfl, rx⟩ := vals1 r
  cases rx
  exact d_len I hd fun t s3 I3 => ⟨.int kvs.length, H, I3, ⟨t, rfl⟩, q⟩
theorem call_len' : CallR X (.builtin "len") (rLen' X.K) := call_len_seq.or (call_len_str.or call_len_dR)
theorem us_len : UnS X own T (one1 (rLen' X.K)) lenD := by
  intro Z ρ ω σ H x d1 d Q S h e q
  cases d1 <;> simp only [lenD] at e <;> try contradiction
  · obtain ⟨rfl, n⟩ := h.str
    cases e
    refine .inr (.inl ⟨_, rfl, lim_le n, ?_⟩)
    rw [Array.length_toList] at q
    exact fin_v S (.int _) q
  · obtain ⟨a, xs, rfl, r, n, q1⟩ := h.list
    cases e
    rw [← q1.length] at q
    exact .inl ⟨a, xs, rfl, .inl (.inl r), fin_v S (.int _) q⟩
  · obtain ⟨a, xs, rfl, r, n, q1⟩ := h.tuple
    cases e
    rw [← q1.length] at q
    exact .inl ⟨a, xs, rfl, .inr r, fin_v S (.int _) q⟩
  · obtain ⟨a, kvs, rfl, r, n, q1⟩ := h.dict
    cases e
    rw [← q1.length] at q
    exact .inr (.inr ⟨a, kvs, rfl, r, fin_v S (.int _) q⟩)
/-! ### isinstance -/
def tyS : D → String
  | .none => "NoneType"
  | .bool _ => "bool"
  | .int _ => "int"
  | .str _ => "str"
  | .list _ => "list"
  | .tuple _ => "tuple"
  | .dict _ => "dict"
def Ty.s : Ty → String
  | .int => "int"
  | .bool => "bool"
  | .str => "str"
  | .tuple => "tuple"
  | .list => "list"
  | .dict => "dict"
theorem tyX_of {x : V} (h : Rr K Z H x d) : TyX K H x (.type (tyS d)) := by
  cases d with
  | none => cases h.non; exact .base .non
  | bool b => cases h.bl; exact .base (.bl b)
  | int i => cases h.int; exact .base (.int i)
  | str z => obtain ⟨rfl, _⟩ := h.str; exact .base (.str z)
  | list ds =>
    obtain ⟨a, xs, rfl, r, _⟩ := h.list
    rcases r with r | ⟨o, r⟩
    · exact .base (.lst r)
    · exact .base (.frz r)
  | tuple ds =>
    obtain ⟨a, xs, rfl, r, _⟩ := h.tuple
    rcases r with (r | ⟨o, r⟩) | ⟨o, its, n, hk, hc, _⟩
    · exact .base (.tup r)
    · exact .fTuple r
    · exact .kTuple hk hc
  | dict es =>
    obtain ⟨a, kvs, rfl, r, _⟩ := h.dict
    rcases r with r | ⟨o, r⟩
    · exact .base (.dK r)
    · exact .fDict r
theorem kit_tys (t : Ty) (d : D) : PySem.W.kitOne K (.type (tyS d)) (.type t.s) = some (isTy t d) := by
  cases t <;> cases d <;> refine kit_ty ?_ <;> simp only [tyS, Ty.s, isTy] <;> decide +kernel
def isTys (ts : List Ty) (d : D) : Option D := some (.bool (ts.any fun t => isTy t d))
theorem kit_any (d : D) : ∀ ts : List Ty, PySem.W.kitAny K (.type (tyS d)) (ts.map fun t => Value.type t.s) = some (ts.any fun t => isTy t d)
  | [] => rfl
  | t :: ts => by
    rw [List.map_cons, List.any_cons]
    refine kitAny_cons (kit_tys t d) (fun h => ?_) fun h => by rw [h, Bool.true_or]
    rw [h, Bool.false_or]
    exact kit_any d ts
/-! ### indexes -/
theorem atI_D {vs : List V} {i : Int} (r : RpA K Z H vs ds) (e : ((ixN ds.length i).bind fun k => ds[k]?) = some d) : ∃ v, atI vs i = some v ∧ Rp K Z H v d := by
  rw [Option.bind_eq_some_iff] at e
  obtain ⟨k, h1, h2⟩ := e
  obtain ⟨v, h3, h4⟩ := r.get h2
  refine ⟨v, ?_, h4⟩
  unfold atI
  rw [show L2.ixN vs.length i = some k by rw [r.length]; exact h1]
  exact h3
theorem os_idx : OpS X own T (rIx X.K) idxD := by
  intro Z ρ ω σ H x y d1 d2 d Q S h1 h2 e q
  cases d1 <;> cases d2 <;> simp only [idxD] at e <;> try contradiction
  · obtain ⟨rfl, n⟩ := h1.str
    cases h2.int
    rename_i z i
    rw [Option.bind_eq_some_iff] at e
    obtain ⟨k, e1, e2⟩ := e
    rw [Option.map_eq_some_iff] at e2
    obtain ⟨c, e3, rfl⟩ := e2
    refine .inr (.inr ⟨z, i, c, rfl, rfl, lim_le n, ?_, fin_v S (.str _ ?_) q⟩)
    · unfold atI
      rw [show L2.ixN z.cps.toList.length i = some k from e1]
      exact e3
    · show 1 ≤ 16777216
      decide
  · obtain ⟨a, xs, rfl, r, n, q1⟩ := h1.list
    cases h2.int
    obtain ⟨v, e1, r1⟩ := atI_D q1 e
    exact .inl ⟨a, xs, _, v, rfl, rfl, .inl r, e1, fin_v S r1 q⟩
  · obtain ⟨a, xs, rfl, r, n, q1⟩ := h1.tuple
    cases h2.int
    obtain ⟨v, e1, r1⟩ := atI_D q1 e
    exact .inr (.inl ⟨a, xs, _, v, rfl, rfl, r, e1, fin_v S r1 q⟩)
end
end Wc

set_option Elab.async false
set_option linter.all false
set_option maxRecDepth 100000
set_option maxHeartbeats 1000000
/-! Wc.Exp: expressions and tests. -/
namespace Wc
open PySem PySem.Spec PyProof.Rows L2
theorem PE.imp {X : Cx} {e : Expr} {t t' : TE} (h : PE X e t) (i : ∀ σ H Q, t' σ H Q → t σ H Q) : PE X e t' := ⟨fun pins s σ H Q I q => h.run pins s σ H Q I (i σ H Q q)⟩
theorem PT.imp {X : Cx} {e : Expr} {t t' : L2.TT} (h : PT X e t) (i : ∀ σ H Q, t' σ H Q → t σ H Q) : PT X e t' := ⟨fun pins s σ H Q I q => h.run pins s σ H Q I (i σ H Q q)⟩
theorem PW.imp {X : Cx} {e : Expr} {t t' : L2.TT} (h : PW X e t) (i : ∀ σ H Q, t' σ H Q → t σ H Q) : PW X e t' := ⟨fun wh pins s σ H Q I q => h.run wh pins s σ H Q I (i σ H Q q)⟩
theorem PA.imp {X : Cx} {es : List Expr} {t t' : TA} (h : PA X es t) (i : ∀ σ H Q, t' σ H Q → t σ H Q) : PA X es t' := ⟨fun pos pins s σ H Q I q => h.run pos pins s σ H Q I (i σ H Q q)⟩
theorem PO.imp {X : Cx} {e : Option Expr} {t t' : TO} (h : PO X e t) (i : ∀ σ H Q, t' σ H Q → t σ H Q) : PO X e t' := ⟨fun pins s σ H Q I q => h.run pins s σ H Q I (i σ H Q q)⟩
section
variable (X : Cx) (own : List Nat) (T : Ent) (W : WX)
/-- readings: a shared value; one that may be read; a test; a row of values -/
abbrev vE (f : EE) : TE := tG X.K X.mg own T W (Rp X.K) f
abbrev vR (f : EE) : TE := tG X.K X.mg own T W (Rr X.K) f
abbrev vT (f : TT) : L2.TT := tG X.K X.mg own T W (fun _ _ (b a : Bool) => b = a) f
abbrev vA (f : Env → M (List D)) : TA := tG X.K X.mg own T W (RpA X.K) f
abbrev vO (f : Env → M (Option Int)) : TO := tG X.K X.mg own T W (fun _ _ (b a : Option Int) => b = a) f
/-- what a context gives -/
structure Cf (k : Nat) : Prop where
  calm : X.calm = true
  nd : X.N.Nodup
  room : Room k X.A
  tk : Takes X W
end
section
variable {X : Cx} {own : List Nat} {T : Ent} {W : WX} {a b c e : Expr} {fa fb fc f : EE} {pos p2 : Pos} {k : Nat} {x : Str}
theorem Cf.hu (C : Cf X W k) : X.A.units + 65 < cLine := by have := C.room.un; omega
theorem Cf.hu0 (C : Cf X W k) : X.A.units + 64 < cLine := by have := C.room.un; omega
theorem tG.weaken {α β : Type} {K : PySem.W.Frag} {mg : Str → Option Value} {R R' : (Addr → Prop) → Hp → β → α → Prop} {f : Env → M α} {σ : L2.St} {H : Hp} {Q : β → Hp → Prop} (h : tG K mg own T W R' f σ H Q) (i : ∀ Z H b a, R Z H b a → R' Z H b a) : tG K mg own T W R f σ H Q := by
  obtain ⟨Z, ρ, ω, S, h⟩ := h
  refine ⟨Z, ρ, ω, S, ?_⟩
  cases q : f ρ ω with
  | ok a ω' => rw [q] at h; exact fun b H' Z' e S' r => h b H' Z' e S' (i _ _ _ _ r)
  | ex x ω' => rw [q] at h; exact h
  | bad => rw [q] at h; exact h
/-- a shared value may be read -/
theorem rd (h : PE X e (vE X own T W f)) : PE X e (vR X own T W f) := PE.imp h fun _ _ _ q => tG.weaken q fun _ _ _ _ r => .sh r
/-! ### names, constants -/
theorem eVar_cases (i : Nat) (ρ : Env) (ω : Om) : (∃ d, ρ[i]? = some (some d) ∧ eVar i ρ ω = .ok d ω) ∨ eVar i ρ ω = .bad := by
  unfold eVar
  cases h : ρ[i]? with
  | none => exact .inr rfl
  | some o => cases o with
    | none => exact .inr rfl
    | some d => exact .inl ⟨d, rfl, rfl⟩
theorem eOwn_cases (j : Nat) (ρ : Env) (ω : Om) : (∃ d, ω[j]? = some (some d) ∧ eOwn j ρ ω = .ok d ω) ∨ eOwn j ρ ω = .bad := by
  unfold eOwn
  cases h : ω[j]? with
  | none => exact .inr rfl
  | some o => cases o with
    | none => exact .inr rfl
    | some d => exact .inl ⟨d, rfl, rfl⟩
theorem e_var {i : Nat} (hN : X.N[i]? = some x) (hv : Vis X.env.scope x) (hd : (x == ("__debug__" : Str)) = false) (hcd : (x == ("__classdict__" : Str)) = false) : PE X (.Name x pos) (vE X own T W (eVar i)) := by
  refine PE.imp (pe_var hN hv hd hcd) fun σ H Q h => ?_
  obtain ⟨Z, ρ, ω, S, h⟩ := h
  rcases eVar_cases i ρ ω with ⟨d, hd, e⟩ | e
  · rw [e] at h
    obtain ⟨_, v, h1, h2⟩ := S.sh i d hd
    exact ⟨v, h1, h v H Z (.refl Z H) S h2⟩
  · rw [e] at h; exact h.elim
theorem e_own {i j : Nat} (hj : own[j]? = some i) (hN : X.N[i]? = some x) (hv : Vis X.env.scope x) (hd : (x == ("__debug__" : Str)) = false) (hcd : (x == ("__classdict__" : Str)) = false) : PE X (.Name x pos) (vR X own T W (eOwn j)) := by
  refine PE.imp (pe_var hN hv hd hcd) fun σ H Q h => ?_
  obtain ⟨Z, ρ, ω, S, h⟩ := h
  rcases eOwn_cases j ρ ω with ⟨d, hd, e⟩ | e
  · rw [e] at h
    obtain ⟨a, h1, _, c, _⟩ := S.ow j i d hj hd
    exact ⟨.ref a, h1, h _ H Z (.refl Z H) S c.rr⟩
  · rw [e] at h; exact h.elim
theorem e_int {i : Int} {j : Nat} : PE X (.Constant (.int i) j pos) (vE X own T W (eC (.int i))) := PE.imp pe_int fun σ H Q ⟨Z, ρ, ω, S, h⟩ => h _ H Z (.refl Z H) S (.int i)
theorem e_bl {b : Bool} {j : Nat} : PE X (.Constant (.bool b) j pos) (vE X own T W (eC (.bool b))) := PE.imp pe_bl fun σ H Q ⟨Z, ρ, ω, S, h⟩ => h _ H Z (.refl Z H) S (.bl b)
theorem e_non {j : Nat} : PE X (.Constant .none j pos) (vE X own T W (eC .none)) := PE.imp pe_non fun σ H Q ⟨Z, ρ, ω, S, h⟩ => h _ H Z (.refl Z H) S .non
theorem e_str {z : Str} {j : Nat} (n : z.length ≤ LIM) : PE X (.Constant (.str z) j pos) (vE X own T W (eC (.str z))) := PE.imp pe_str fun σ H Q ⟨Z, ρ, ω, S, h⟩ => h _ H Z (.refl Z H) S (.str z n)
/-- a module's constant -/
inductive Con' (X : Cx) (x : Str) : D → Prop
  | int {i : Int} {t : Tok} (h : X.mg x = some (.int i t)) : Con' X x (.int i)
  | str {z : Str} {t : Tok} (h : X.mg x = some (.str z t)) (n : z.length ≤ LIM) : Con' X x (.str z)
theorem e_glob {d : D} (hg : Gl X x) (c : Con' X x d) (hd : (x == ("__debug__" : Str)) = false) : PE X (.Name x pos) (vE X own T W (eC d)) := by
  cases c with
  | @int i t h => exact PE.imp (pe_glob (v := .int i) hg h ⟨t, rfl⟩ hd) fun σ H Q ⟨Z, ρ, ω, S, h⟩ => h _ H Z (.refl Z H) S (.int _)
  | @str z t h n => exact PE.imp (pe_glob (v := .str z) hg h ⟨t, rfl⟩ hd) fun σ H Q ⟨Z, ρ, ω, S, h⟩ => h _ H Z (.refl Z H) S (.str _ n)
/-! ### operators -/
theorem two {g : D → D → Option D} {r : R2} (hs : OpS X own T r g) {σ : L2.St} {H : Hp} {Q : VK} (h : vE X own T W (e2 g fa fb) σ H Q) : tOp r (vE X own T W fa) (vR X own T W fb) σ H Q := by
  refine tG.bind (k := fun x ρ => M.bind (fb ρ) fun y => M.lift (g x y)) h fun d1 ρ ω v H1 Z1 S1 r1 h1 => ?_
  refine ⟨Z1, ρ, ω, S1, h1.bind fun d2 ω2 u H2 Z2 e2 S2 r2 h2 => ?_⟩
  obtain ⟨d, eg, h3⟩ := h2.lift
  exact hs Z2 ρ ω2 σ H2 v u d1 d2 d Q S2 (.sh (r1.ext e2)) r2 eg fun v' H' Z' e' S' r' => h3 v' H' Z' e' S' r'
/-- the first operand an owned place -/
theorem ownO {α β : Type} {R : (Addr → Prop) → Hp → β → α → Prop} {g : D → D → Option α} {i j : Nat} {Q : β → Hp → Prop} {tb : V → V → Hp → Prop} (hj : own[j]? = some i) {σ : L2.St} {H : Hp}
    (hs : ∀ Z ρ ω H x y d1 d2 d, Sx X.K own T Z ρ ω σ H → Rr X.K Z H x d1 → Rr X.K Z H y d2 → g d1 d2 = some d → (∀ v H' Z', Ext (Ow own σ) Z H Z' H' → Sx X.K own T Z' ρ ω σ H' → R Z' H' v d → Q v H') → tb x y H)
    (h : tG X.K X.mg own T W R (fun ρ => M.bind (eOwn j ρ) fun _ => M.bind (fb ρ) fun y => M.bind (eOwn j ρ) fun x => M.lift (g x y)) σ H Q) : tVar i σ H fun x H1 => vR X own T W fb σ H1 fun y H2 => tb x y H2 := by
  obtain ⟨Z, ρ, ω, S, h⟩ := h
  rcases eOwn_cases j ρ ω with ⟨d, hd, e⟩ | e
  · simp only [M.bind, e] at h
    obtain ⟨a, h1, _, c, _⟩ := S.ow j i _ hj hd
    refine ⟨.ref a, h1, Z, ρ, ω, S, Pg.bind (k := fun y => M.bind (eOwn j ρ) fun x => M.lift (g x y)) h fun d2 ω2 u H2 Z2 e2 S2 r2 h2 => ?_⟩
    rcases eOwn_cases j ρ ω2 with ⟨d', hd', e'⟩ | e'
    · simp only [M.bind, e'] at h2
      obtain ⟨a', h1', _, c', _⟩ := S2.ow j i _ hj hd'
      rw [h1] at h1'; cases h1'
      obtain ⟨d, eg, h3⟩ := Pg.lift h2
      exact hs Z2 ρ ω2 H2 _ u d' d2 d S2 c'.rr r2 eg fun v' H' Z' e' S' r' => h3 v' H' Z' e' S' r'
    · simp only [M.bind, e'] at h2; exact h2.elim
  · simp only [M.bind, e] at h; exact h.elim
theorem twoO {g : D → D → Option D} {r : R2} {i j : Nat} (hs : OpS X own T r g) (hj : own[j]? = some i) {σ : L2.St} {H : Hp} {Q : VK} (h : vE X own T W (e2o g j fb) σ H Q) : tOp r (tVar i) (vR X own T W fb) σ H Q :=
  ownO hj (fun Z ρ ω H x y d1 d2 d S r1 r2 eg q => hs Z ρ ω σ H x y d1 d2 d Q S r1 r2 eg q) h
theorem one {g : D → Option D} {r : V → Hp → VK → Prop} (hs : UnS X own T r g) {σ : L2.St} {H : Hp} {Q : VK} (h : vE X own T W (e1 g fa) σ H Q) : vR X own T W fa σ H fun x H1 => r x H1 Q := by
  refine tG.bind (k := fun x _ => M.lift (g x)) h fun d1 ρ ω v H1 Z1 S1 r1 h1 => ?_
  obtain ⟨d, eg, h3⟩ := h1.lift
  exact hs Z1 ρ ω σ H1 v d1 d Q S1 r1 eg fun v' H' Z' e' S' r' => h3 v' H' Z' e' S' r'
def opOf : Op → Operator
  | .add => .Add | .sub => .Sub | .mul => .Mult | .fdiv => .FloorDiv | .mod => .Mod | .pow => .Pow
def rOf (K : PySem.W.Frag) : Op → R2
  | .add => rAdd' K
  | .sub => rI0 fun i j => .int (i - j)
  | .mul => rRep' K
  | .fdiv => rI CDivN fun i j => .int (i.fdiv j)
  | .mod => rI (fun _ j => j ≠ 0) fun i j => .int (i.fmod j)
  | .pow => rI CPow fun i j => .int (i ^ j.toNat)
theorem op_of : ∀ o : Op, OpR X (binaryOp (opOf o)) (rOf X.K o)
  | .add => op_add' | .sub => op_sub | .mul => op_mul' | .fdiv => op_fdivN | .mod => op_modN | .pow => op_pow
theorem os_of : ∀ o : Op, OpS X own T (rOf X.K o) (opD o)
  | .add => os_add | .sub => os_sub | .mul => os_mul | .fdiv => os_fdiv | .mod => os_mod | .pow => os_pow
theorem e_op (o : Op) (ha : PE X a (vE X own T W fa)) (hb : PE X b (vR X own T W fb)) : PE X (.BinOp a (opOf o) b pos) (vE X own T W (e2 (opD o) fa fb)) := PE.imp (pe_op (op_of o) ha hb) fun _ _ _ h => two (os_of o) h
theorem e_opO {i j : Nat} (o : Op) (hj : own[j]? = some i) (hN : X.N[i]? = some x) (hv : Vis X.env.scope x) (hb : PE X b (vR X own T W fb)) (hd : (x == ("__debug__" : Str)) = false) (hcd : (x == ("__classdict__" : Str)) = false) :
    PE X (.BinOp (.Name x p2) (opOf o) b pos) (vE X own T W (e2o (opD o) j fb)) := PE.imp (pe_op (op_of o) (pe_var hN hv hd hcd) hb) fun _ _ _ h => twoO (os_of o) hj h
theorem e_neg (ha : PE X a (vE X own T W fa)) : PE X (.UnaryOp .USub a pos) (vE X own T W (e1 negD fa)) := PE.imp (pe_un un_neg (rd ha)) fun _ _ _ h => one us_neg h
/-! ### comparisons -/
def cmpOf : Cmp → CmpOp
  | .eq => .Eq | .ne => .NotEq | .lt => .Lt | .le => .LtE | .gt => .Gt | .ge => .GtE | .mem => .In | .nmem => .NotIn | .isN => .Is | .notN => .IsNot
theorem op_cmp (hu : X.A.units + 65 < cLine) : ∀ c : Cmp, OpR X (compareOp (cmpOf c)) (rCmp X.K c)
  | .eq => op_eqC hu | .ne => op_neC hu | .lt => op_ltC hu | .le => op_leC hu | .gt => op_gtC hu | .ge => op_geC hu | .mem => op_inC hu | .nmem => op_notInC hu | .isN => op_isC | .notN => op_isNotC
theorem e_cmp (c : Cmp) (C : Cf X W k) (ha : PE X a (vE X own T W fa)) (hb : PE X b (vR X own T W fb)) (hm : behindInMarks (cmpOf c) b = false) : PE X (.Compare a [cmpOf c] [b] pos) (vE X own T W (e2 (cmpD c) fa fb)) :=
  PE.imp (pe_cmpR (op_cmp C.hu c) ha hb hm) fun _ _ _ h => two os_cmp h
theorem e_cmpO {i j : Nat} (c : Cmp) (C : Cf X W k) (hj : own[j]? = some i) (hN : X.N[i]? = some x) (hv : Vis X.env.scope x) (hb : PE X b (vR X own T W fb)) (hm : behindInMarks (cmpOf c) b = false) (hd : (x == ("__debug__" : Str)) = false) (hcd : (x == ("__classdict__" : Str)) = false) :
    PE X (.Compare (.Name x p2) [cmpOf c] [b] pos) (vE X own T W (e2o (cmpD c) j fb)) := PE.imp (pe_cmpR (op_cmp C.hu c) (pe_var hN hv hd hcd) hb hm) fun _ _ _ h => twoO os_cmp hj h
/-! tests -/
theorem truV {Z : Addr → Prop} {H : Hp} {v : V} {d : D} {k : Bool} {K : PySem.W.Frag} (h : Rr K Z H v d) (e : truth d = some k) : TruV K v H k := by
  cases d <;> simp only [truth] at e <;> try contradiction
  · cases e; cases h.non; rfl
  · cases e; cases h.bl; rfl
  · cases e; cases h.int; rfl
  · obtain ⟨rfl, n⟩ := h.str
    cases e
    refine ⟨lim_le n, ?_⟩
    rw [Bool.eq_iff_iff]
    simp
  · obtain ⟨a, xs, rfl, r, n, q⟩ := h.list
    cases e
    refine .inl ⟨xs, .inl r, ?_⟩
    cases q <;> rfl
  · obtain ⟨a, xs, rfl, r, n, q⟩ := h.tuple
    cases e
    refine .inr (.inl ⟨xs, r, ?_⟩)
    cases q <;> rfl
theorem t_tru (ha : PE X a (vR X own T W fa)) (he : ∀ whole, isTrue a X.env whole = (do let v ← whole; standAt a.pos; holding [v] (truthy v))) : PT X a (vT X own T W (tB fa)) := by
  refine PT.imp (pt_truth ha he) fun σ H Q h => ?_
  refine tG.bind (k := fun x _ => M.lift (truth x)) h fun d ρ ω v H1 Z1 S1 r1 h1 => ?_
  obtain ⟨k, e, h2⟩ := h1.lift
  exact ⟨k, truV r1 e, h2 k H1 Z1 (.refl _ _) S1 rfl⟩
/-- a comparison's reading, its answer told -/
theorem cmp_b {c : Cmp} {σ : L2.St} {H : Hp} {R : Bool → Hp → Prop} {Q : VK} (h : tG X.K X.mg own T W (fun _ _ (b a : Bool) => b = a) (tC c fa fb) σ H R) (q : ∀ b H, R b H → Q (.bl b) H) : tOp (rCmp X.K c) (vE X own T W fa) (vR X own T W fb) σ H Q := by
  refine tG.bind (k := fun x ρ => M.bind (fb ρ) fun y => M.lift (cmpB c x y)) h fun d1 ρ ω v H1 Z1 S1 r1 h1 => ?_
  refine ⟨Z1, ρ, ω, S1, h1.bind fun d2 ω2 u H2 Z2 e2 S2 r2 h2 => ?_⟩
  obtain ⟨b, eg, h3⟩ := h2.lift
  exact ⟨Z2, d1, d2, b, .sh (r1.ext e2), r2, eg, q b H2 (h3 b H2 Z2 (.refl _ _) S2 rfl)⟩
theorem t_cmp (c : Cmp) (C : Cf X W k) (ha : PE X a (vE X own T W fa)) (hb : PE X b (vR X own T W fb)) (hm : behindInMarks (cmpOf c) b = false) : PT X (.Compare a [cmpOf c] [b] pos) (vT X own T W (tC c fa fb)) :=
  PT.imp (pt_cmpR (op_cmp C.hu c) ha hb hm) fun σ H Q h => cmp_b h fun b H q => ⟨b, rfl, q⟩
theorem t_cmpO {i j : Nat} (c : Cmp) (C : Cf X W k) (hj : own[j]? = some i) (hN : X.N[i]? = some x) (hv : Vis X.env.scope x) (hb : PE X b (vR X own T W fb)) (hm : behindInMarks (cmpOf c) b = false) (hd : (x == ("__debug__" : Str)) = false) (hcd : (x == ("__classdict__" : Str)) = false) :
    PT X (.Compare (.Name x p2) [cmpOf c] [b] pos) (vT X own T W (tCo c j fb)) :=
  PT.imp (pt_cmpR (op_cmp C.hu c) (pe_var hN hv hd hcd) hb hm) fun σ H Q h => ownO (tb := fun x y H2 => rCmp X.K c x y H2 fun x H' => ∃ k, x = .bl k ∧ Q k H') hj (fun Z ρ ω H x y d1 d2 d S r1 r2 eg q => ⟨Z, d1, d2, d, r1, r2, eg, d, rfl, q d H Z (.refl _ _) S rfl⟩) h
theorem ch_b {o o' : Cmp} {σ : L2.St} {H : Hp} {R : Bool → Hp → Prop} {Q : VK} (h : tG X.K X.mg own T W (fun _ _ (b a : Bool) => b = a) (tCh o o' fa fb fc) σ H R) (q : ∀ b H, R b H → Q (.bl b) H) : tChain (rCmp X.K o) (rCmp X.K o') (vE X own T W fa) (vE X own T W fb) (vR X own T W fc) σ H Q := by
  refine tG.bind (k := fun x ρ => M.bind (fb ρ) fun y => M.bind (M.lift (cmpB o x y)) fun k => if k = true then M.bind (fc ρ) fun z => M.lift (cmpB o' y z) else M.pure false) h fun d1 ρ ω v H1 Z1 S1 r1 h1 => ?_
  refine ⟨Z1, ρ, ω, S1, h1.bind fun d2 ω2 u H2 Z2 e2 S2 r2 h2 => ?_⟩
  cases eg : cmpB o d1 d2 with
  | none => simp only [M.bind, eg, M.lift] at h2; exact h2.elim
  | some b =>
    simp only [M.bind, eg, M.lift] at h2
    refine ⟨Z2, d1, d2, b, .sh (r1.ext e2), .sh r2, eg, b, rfl, ?_⟩
    cases b with
    | false => exact q false H2 (h2 false H2 Z2 (.refl _ _) S2 rfl)
    | true =>
      refine ⟨Z2, ρ, ω2, S2, Pg.bind (k := fun z => M.lift (cmpB o' d2 z)) h2 fun d3 ω3 u3 H3 Z3 e3 S3 r3 h3 => ?_⟩
      obtain ⟨b', eg', h4⟩ := h3.lift
      exact ⟨Z3, d2, d3, b', .sh (r2.ext e3), r3, eg', q b' H3 (h4 b' H3 Z3 (.refl _ _) S3 rfl)⟩
theorem t_ch (o o' : Cmp) (C : Cf X W k) (ha : PE X a (vE X own T W fa)) (hb : PE X b (vE X own T W fb)) (hc : PE X c (vR X own T W fc)) (hm : lastMarks [cmpOf o, cmpOf o'] [b, c] = false) : PT X (.Compare a [cmpOf o, cmpOf o'] [b, c] pos) (vT X own T W (tCh o o' fa fb fc)) :=
  PT.imp (pt_chain (op_cmp C.hu o) (op_cmp C.hu o') ha hb hc hm) fun σ H Q h => ch_b h fun b H q => ⟨b, rfl, q⟩
/-- a test's answer as a value -/
theorem eT_b {f : TT} {σ : L2.St} {H : Hp} {Q : VK} (h : vE X own T W (eT f) σ H Q) : tG X.K X.mg own T W (fun _ _ (b a : Bool) => b = a) f σ H fun b H => Q (.bl b) H := by
  refine tG.bind (k := fun c _ => M.pure (PyData.bool c)) h fun b ρ ω b' H1 Z1 S1 r1 h1 => ?_
  subst r1
  exact h1 _ H1 Z1 (.refl _ _) S1 (.bl _)
theorem e_ch (o o' : Cmp) (C : Cf X W k) (ha : PE X a (vE X own T W fa)) (hb : PE X b (vE X own T W fb)) (hc : PE X c (vR X own T W fc)) (hm : lastMarks [cmpOf o, cmpOf o'] [b, c] = false) : PE X (.Compare a [cmpOf o, cmpOf o'] [b, c] pos) (vE X own T W (eT (tCh o o' fa fb fc))) :=
  PE.imp (pe_chain (op_cmp C.hu o) (op_cmp C.hu o') ha hb hc hm) fun σ H Q h => ch_b (eT_b h) fun b H q => q
/-! and, or, not -/
variable {ta tb : TT} {rest : List Expr}
theorem t_and1 (ha : PT X a (vT X own T W ta)) : PW X (.BoolOp .And [a] pos) (vT X own T W ta) := pw_and1 ha
theorem t_or1 (ha : PT X a (vT X own T W ta)) : PW X (.BoolOp .Or [a] pos) (vT X own T W ta) := pw_or1 ha
theorem t_and (ha : PT X a (vT X own T W ta)) (hb : PW X (.BoolOp .And (b :: rest) pos) (vT X own T W tb)) : PW X (.BoolOp .And (a :: b :: rest) pos) (vT X own T W (Wc.tAnd ta tb)) := by
  refine PW.imp (pw_and ha hb) fun σ H Q h => ?_
  refine tG.bind (k := fun c ρ => if c = true then tb ρ else M.pure false) h fun c ρ ω c' H1 Z1 S1 r1 h1 => ?_
  subst r1
  cases c' with
  | true => exact ⟨Z1, ρ, ω, S1, h1⟩
  | false => exact h1 false H1 Z1 (.refl _ _) S1 rfl
theorem t_or (ha : PT X a (vT X own T W ta)) (hb : PW X (.BoolOp .Or (b :: rest) pos) (vT X own T W tb)) : PW X (.BoolOp .Or (a :: b :: rest) pos) (vT X own T W (Wc.tOr ta tb)) := by
  refine PW.imp (pw_or ha hb) fun σ H Q h => ?_
  refine tG.bind (k := fun c ρ => if c = true then M.pure true else tb ρ) h fun c ρ ω c' H1 Z1 S1 r1 h1 => ?_
  subst r1
  cases c' with
  | false => exact ⟨Z1, ρ, ω, S1, h1⟩
  | true => exact h1 true H1 Z1 (.refl _ _) S1 rfl
theorem t_not (ha : PT X a (vT X own T W ta)) : PT X (.UnaryOp .Not a pos) (vT X own T W (Wc.tNot ta)) := by
  refine PT.imp (pt_not ha) fun σ H Q h => ?_
  refine tG.bind (k := fun c _ => M.pure (!c)) h fun c ρ ω c' H1 Z1 S1 r1 h1 => ?_
  subst r1
  exact h1 _ H1 Z1 (.refl _ _) S1 rfl
theorem e_one {o : BoolOp} (h : PE X a (vE X own T W fa)) : PE X (.BoolOp o [a] pos) (vE X own T W fa) := pe_one h
theorem e_and (ha : PE X a (vE X own T W fa)) (hb : PE X (.BoolOp .And (b :: rest) pos) (vE X own T W fb)) : PE X (.BoolOp .And (a :: b :: rest) pos) (vE X own T W (eAnd fa fb)) := by
  refine PE.imp (pe_andT ha hb) fun σ H Q h => ?_
  refine tG.bind (k := fun x ρ => M.bind (M.lift (truth x)) fun c => if c = true then fb ρ else M.pure x) h fun d ρ ω v H1 Z1 S1 r1 h1 => ?_
  cases e : truth d with
  | none => simp only [M.bind, e, M.lift] at h1; exact h1.elim
  | some c =>
    simp only [M.bind, e, M.lift] at h1
    refine ⟨c, truV (.sh r1) e, ?_⟩
    cases c with
    | true => exact ⟨Z1, ρ, ω, S1, h1⟩
    | false => exact h1 v H1 Z1 (.refl _ _) S1 r1
theorem e_or (ha : PE X a (vE X own T W fa)) (hb : PE X (.BoolOp .Or (b :: rest) pos) (vE X own T W fb)) : PE X (.BoolOp .Or (a :: b :: rest) pos) (vE X own T W (eOr fa fb)) := by
  refine PE.imp (pe_orT ha hb) fun σ H Q h => ?_
  refine tG.bind (k := fun x ρ => M.bind (M.lift (truth x)) fun c => if c = true then M.pure x else fb ρ) h fun d ρ ω v H1 Z1 S1 r1 h1 => ?_
  cases e : truth d with
  | none => simp only [M.bind, e, M.lift] at h1; exact h1.elim
  | some c =>
    simp only [M.bind, e, M.lift] at h1
    refine ⟨c, truV (.sh r1) e, ?_⟩
    cases c with
    | false => exact ⟨Z1, ρ, ω, S1, h1⟩
    | true => exact h1 v H1 Z1 (.refl _ _) S1 r1
theorem e_not (ha : PE X a (vR X own T W fa)) : PE X (.UnaryOp .Not a pos) (vE X own T W (eNot fa)) := by
  refine PE.imp (pe_notT ha) fun σ H Q h => ?_
  refine tG.bind (k := fun x _ => M.bind (M.lift (truth x)) fun c => M.pure (PyData.bool (!c))) h fun d ρ ω v H1 Z1 S1 r1 h1 => ?_
  cases e : truth d with
  | none => simp only [M.bind, e, M.lift] at h1; exact h1.elim
  | some c =>
    simp only [M.bind, e, M.lift] at h1
    exact ⟨c, truV r1 e, h1 _ H1 Z1 (.refl _ _) S1 (.bl _)⟩
theorem e_if (hc : PT X c (vT X own T W ta)) (ha : PE X a (vE X own T W fa)) (hb : PE X b (vE X own T W fb)) : PE X (.IfExp c a b pos) (vE X own T W (eIf ta fa fb)) := by
  refine PE.imp (pe_ifExp hc ha hb) fun σ H Q h => ?_
  refine tG.bind (k := fun k ρ => if k = true then fa ρ else fb ρ) h fun c ρ ω c' H1 Z1 S1 r1 h1 => ?_
  subst r1
  cases c' with
  | true => exact ⟨Z1, ρ, ω, S1, h1⟩
  | false => exact ⟨Z1, ρ, ω, S1, h1⟩
end
end Wc

set_option Elab.async false
set_option linter.all false
set_option maxRecDepth 100000
set_option maxHeartbeats 1000000
/-! Wc.Exp2: displays, calls of built-ins, subscripts, slices. -/
namespace Wc
open PySem PySem.Spec PyProof.Rows L2
section
variable {prog : Program} {w : World} {A : Around} {E : Value → Shared → Prop} {s : Shared}
theorem adj_rev (n : Nat) : Builtin.Slice.sliceAdjust none none (-1) (n : Int) = ((n : Int) - 1, -1) := by
  unfold Builtin.Slice.sliceAdjust
  simp
theorem places_rev (n : Nat) : Builtin.Slice.slicePlaces ((n : Int) - 1) (-1) (-1) = n := by
  unfold Builtin.Slice.slicePlaces
  by_cases h : n = 0
  · subst h; rfl
  · have h1 : ¬ ((-1 : Int) > 0) := by omega
    have h2 : ((n : Int) - 1) > -1 := by omega
    rw [if_neg h1, if_pos h2, show (-(-1) : Int) = 1 by rfl, Int.ediv_one]
    omega
theorem sliceApplied_rev {sl : Addr} {t : Tok} {n : Nat} {Q : Int × Int × Nat → Shared → Prop} (hs : s.heap.IsSliceOf sl .none .none (.int (-1) t))
    (h : Q ((n : Int) - 1, -1, n) s) : wpAny (model prog w) A (Builtin.Slice.sliceApplied (.ref sl) (pure (n : Int))) Q E s := by
  obtain ⟨os, hos, hcs, hds⟩ := id hs
  unfold Builtin.Slice.sliceApplied Builtin.Slice.sliceFields
  refine wpAny_bind (wpAny_bind (wpAny_field hos hds (x := .none) rfl (wpAny_bind (wpAny_field hos hds (x := .none) rfl (wpAny_bind (wpAny_field hos hds (x := .int (-1) t) rfl (wpAny_pure ?_)))))))
  refine wpAny_bind (HT.slicePart_ (.int (-1) t) ?_)
  show wpAny _ _ (if ((-1 : Int) == 0) = true then _ else _) _ _ s
  rw [if_neg (by decide)]
  refine wpAny_bind (HT.slicePart_ .none (wpAny_bind (HT.slicePart_ .none (wpAny_bind (wpAny_pure ?_)))))
  show wpAny _ _ (match Builtin.Slice.sliceAdjust none none (-1) (n : Int) with | (lo, hi) => pure (lo, (-1 : Int), Builtin.Slice.slicePlaces lo hi (-1))) _ _ s
  rw [adj_rev n]
  show wpAny _ _ (pure ((n : Int) - 1, (-1 : Int), Builtin.Slice.slicePlaces ((n : Int) - 1) (-1) (-1))) _ _ s
  rw [places_rev]
  exact wpAny_pure h
theorem fmap_congr {α β : Type} {f g : α → Option β} : ∀ {l : List α}, (∀ a ∈ l, f a = g a) → l.filterMap f = l.filterMap g
  | [], _ => rfl
  | a :: l, h => by
    rw [List.filterMap_cons, List.filterMap_cons, h a List.mem_cons_self, fmap_congr fun b hb => h b (List.mem_cons_of_mem _ hb)]
theorem pick_rev (xs : Array Value) : ((List.range xs.size).filterMap fun (m : Nat) => xs[((xs.size : Int) - 1 + (m : Int) * (-1)).toNat]?).toArray = xs.toList.reverse.toArray := by
  have e : (List.range xs.size).filterMap (fun (m : Nat) => xs[((xs.size : Int) - 1 + (m : Int) * (-1)).toNat]?) = (List.range xs.size).filterMap (fun (m : Nat) => xs.toList.reverse.toArray[(((0 : Nat) : Int) + (m : Int) * 1).toNat]?) := by
    refine fmap_congr fun m hm => ?_
    have hm := List.mem_range.mp hm
    have e1 : ((xs.size : Int) - 1 + (m : Int) * (-1)).toNat = xs.size - 1 - m := by omega
    have e2 : (((0 : Nat) : Int) + (m : Int) * 1).toNat = m := by omega
    rw [e1, e2]
    show _ = xs.toList.reverse.toArray[m]?
    have h1 : xs.toList.reverse.toArray[m]? = xs.toList.reverse[m]? := by simp
    have h2 : xs.toList.reverse[m]? = xs.toList[xs.toList.length - 1 - m]? := List.getElem?_reverse (by rw [Array.length_toList]; exact hm)
    rw [h1, h2, Array.length_toList, Array.getElem?_toList]
  rw [e, HT.pick_gen]
  show ((xs.toList.reverse.drop 0).take xs.size).toArray = _
  rw [List.drop_zero, List.take_of_length_le (by rw [List.length_reverse, Array.length_toList]; exact Nat.le_refl _)]
theorem getItem_tuple_rev {t sl : Addr} {items : Array Value} {tk : Tok} {Q : Value → Shared → Prop} (ht : IsTup s.heap t items) (hs : s.heap.IsSliceOf sl .none .none (.int (-1) tk))
    (h : Q (.ref s.heap.objs.size) { s with heap := s.heap.push { cls := .type "tuple", data := .seq items.toList.reverse.toArray } })
    (hsz : items.size ≤ sizeLine) : wpAny (model prog w) A (getItem (.ref t) (.ref sl)) Q E s := by
  have htake : sizeOk (.seq items.toList.reverse.toArray) := by
    show items.toList.reverse.toArray.size ≤ sizeLine
    rw [List.size_toArray, List.length_reverse, Array.length_toList]
    exact hsz
  obtain ⟨os, hos, hcs, hds⟩ := id hs
  have hTs : s.TypeIs (.ref sl) "slice" := ⟨os, hos, hcs⟩
  unfold getItem
  try with_reducible refine wpAny_holding ?_
  first | refine wpAny_bind (wpAny_pure ?_) | skip
  refine wpAny_bind (wpAny_sequenceKey ht.typeIs (by decide) ?_)
  refine wpAny_bind (wpAny_callSpecial?_slot (name := Str.ofString "__getitem__") ht.typeIs PyProof.Rows.slot_tuple_getitem
    (wpAny_call_entry PyProof.Rows.slot_tuple_getitem ht.typeIs entry_tuple_getitem ?_ (args_tuple_getitem _ _)))
  show wpAny _ _ (Builtin.Tuple.tupleItemsOf (.ref t) >>= _) _ _ s
  refine wpAny_bind (tupleItemsOf_ ht ?_)
  refine wpAny_bind (wpAny_typeOf hTs ?_)
  rw [if_pos (by decide)]
  refine wpAny_bind (sliceApplied_rev hs ?_)
  have hno : ¬ ((((items.size : Int) - 1) == 0 && (-1 : Int) == 1 && items.size == items.size) = true) := by
    intro q
    rw [Bool.and_eq_true, Bool.and_eq_true] at q
    exact absurd q.1.2 (by decide)
  show wpAny _ _ (if (((items.size : Int) - 1) == 0 && (-1 : Int) == 1 && items.size == items.size) = true then _ else _) _ _ s
  rw [if_neg hno, pick_rev]
  first
    | exact wpAny_bind (m := Builtin.Tuple.tupleExact _) (wpAny_newObj_type (wpAny_pure ⟨_, rfl, wpAny_pure h⟩) htake)
    | exact wpAny_bind (m := Builtin.Tuple.tupleExact _) (wpAny_newObj_type (wpAny_bind (wpAny_pure (wpAny_pure ⟨_, rfl, wpAny_pure h⟩))) htake)
    | exact wpAny_bind (wpAny_bind (m := Builtin.Tuple.tupleExact _) (wpAny_newObj_type (wpAny_pure (wpAny_pure ⟨_, rfl, wpAny_pure h⟩)) htake))
    | exact wpAny_bind (wpAny_bind (m := Builtin.Tuple.tupleExact _) (wpAny_newObj_type (wpAny_pure ⟨_, rfl, wpAny_pure h⟩) htake))
end
section
variable {X : Cx}
/-- x[::-1] of a list or a tuple -/
def tRev' (K : PySem.W.Frag) (te : TE) : TE := fun σ H Q => te σ H fun x H1 => ∃ a xs, x = .ref a ∧ ((SqL K H1 a xs ∧ ∀ p, H1 p = none → Q (.ref p) (upd H1 p (.lst xs.reverse))) ∨ (SqT K H1 a xs ∧ ∀ p, H1 p = none → Q (.ref p) (upd H1 p (.tup xs.reverse))))
theorem pe_rev' {e : Expr} {te : TE} {k : Nat} {p1 p2 p3 pos : Pos} (he : PE X e te) : PE X (.Subscript e (.Slice none none (some (.UnaryOp .USub (.Constant (.int 1) k p1) p2)) p3) pos) (tRev' X.K te) := by
  refine ⟨fun pins s σ H Q I h => ?_⟩
  refine Subscript_ (thn (he.run pins s σ H _ I h) fun v s1 ⟨x, H1, I1, r1, a, xs, ex, q⟩ => ?_)
  subst ex
  cases r1
  have hst : PO X (some (.UnaryOp .USub (.Constant (.int 1) k p1) p2)) (tPart (tUn (rU fun i => .int (-i)) (L2.tC (V.int 1)))) := po_some (pe_un un_neg pe_int)
  refine wpAny_Slice (thn (po_none.run pins s1 σ H1 (fun o H2 => o = none ∧ H2 = H1) I1 ⟨rfl, rfl⟩) fun vl s2 ⟨l, H2, I2, pl, el, e2⟩ => ?_)
  subst el e2
  refine thn (po_none.run pins s2 σ H2 (fun o H3 => o = none ∧ H3 = H2) I2 ⟨rfl, rfl⟩) fun vu s3 ⟨u, H3, I3, pu, eu, e3⟩ => ?_
  subst eu e3
  refine thn (hst.run pins s3 σ H3 (fun o H4 => o = some (-1) ∧ H4 = H3) I3 ⟨1, rfl, -1, rfl, rfl, rfl⟩) fun vs s4 ⟨o, H4, I4, ps, eo, e4⟩ => ?_
  subst eo e4
  have I5 : Inv X pins σ H4 { s4 with heap := s4.heap.push { cls := .type "slice", data := .fields #[vl, vu, vs] } } := I4.kept (t' := s4.toks) fun b ob q => Heap.get?_push_of_some _ q
  show wpAny (model X.prog X.w) X.A (subscriptTail e (.Slice none none (some (.UnaryOp .USub (.Constant (.int 1) k p1) p2)) p3) (.ref a) (.ref s4.heap.objs.size)) (EP X pins σ Q) X.xe { s4 with heap := s4.heap.push { cls := .type "slice", data := .fields #[vl, vu, vs] } }
  rcases q with ⟨hx, q⟩ | ⟨hx, q⟩
  · obtain ⟨its, r, ht, hz⟩ := I5.list hx
    have hlen := r.length
    refine tail_any (ops := [.ref a, .ref s4.heap.objs.size]) ht.isList.typeIs (PySem.slot_list_getitem.lookup) ?_ (by with_unfolding_all rfl)
    refine wpAny_getItem_list_slice ht.isList (Heap.IsSliceOf.new _ vl vu vs) pl pu ps (by decide) ?_ (by rw [List.size_toArray]; omega)
    rw [PySem.W.krv_pick]
    refine ⟨.ref _, _, I5.laid (t' := s4.toks) (o := .lst xs.reverse) (fun b ob q => Heap.get?_push_of_some _ q) (Nat.le_refl _) ?_, rfl, q _ (I5.hok.fresh (Nat.le_refl _))⟩
    exact ⟨by rw [List.length_reverse]; exact hz, _, 0, r.reverse, Heap.get?_push_size _ rfl⟩
  · obtain ⟨its, r, ht, hz⟩ := I5.tuple hx
    have hlen := r.length
    cases pl
    cases pu
    cases ps
    refine tail_any (ops := [.ref a, .ref s4.heap.objs.size]) ht.typeIs (PyProof.Rows.slot_tuple_getitem.lookup) ?_ (by with_unfolding_all rfl)
    refine getItem_tuple_rev ht (Heap.IsSliceOf.new _ _ _ _) ?_ (by rw [List.size_toArray]; omega)
    refine ⟨.ref _, _, I5.laid (t' := s4.toks) (o := .tup xs.reverse) (fun b ob q => Heap.get?_push_of_some _ q) (Nat.le_refl _) ?_, rfl, q _ (I5.hok.fresh (Nat.le_refl _))⟩
    exact ⟨by rw [List.length_reverse]; exact hz, _, r.reverse, IsTup.new _ _⟩
end
section
variable {X : Cx} {own : List Nat} {T : Ent} {W : WX} {a b c e : Expr} {es : List Expr} {fa fb fc f : EE} {pos p2 p3 p4 : Pos} {k : Nat} {x : Str}
theorem e_rev {j : Nat} {p1 : Pos} (ha : PE X a (vR X own T W fa)) : PE X (.Subscript a (.Slice none none (some (.UnaryOp .USub (.Constant (.int 1) j p1) p2)) p3) pos) (vE X own T W (e1 revD fa)) := by
  refine PE.imp (pe_rev' ha) fun σ H Q h => ?_
  refine tG.bind (k := fun x _ => M.lift (revD x)) h fun d1 ρ ω v H1 Z1 S1 r1 h1 => ?_
  obtain ⟨d, eg, h3⟩ := h1.lift
  cases d1 <;> simp only [revD] at eg <;> try contradiction
  · obtain ⟨a, xs, rfl, r, n, q1⟩ := r1.list
    cases eg
    exact ⟨a, xs, rfl, .inl ⟨.inl r, fun p hp => fin_lst S1 hp (by rw [List.length_reverse]; exact n) q1.reverse fun v' H' Z' e' S' r' => h3 v' H' Z' e' S' r'⟩⟩
  · obtain ⟨a, xs, rfl, r, n, q1⟩ := r1.tuple
    cases eg
    exact ⟨a, xs, rfl, .inr ⟨r, fun p hp => fin_tup S1 hp (by rw [List.length_reverse]; exact n) q1.reverse fun v' H' Z' e' S' r' => h3 v' H' Z' e' S' r'⟩⟩
/-! ### displays -/
theorem a_nil : PA X [] (vA X own T W (items [])) := PA.imp pa_nil fun σ H Q ⟨Z, ρ, ω, S, h⟩ => h [] H Z (.refl Z H) S .nil
theorem a_one {l : List It1} (ha : PE X a (vE X own T W fa)) (hr : PA X es (vA X own T W (items l))) (hs : starEach (a :: es) X.env = (false, eval a X.env) :: starEach es X.env) : PA X (a :: es) (vA X own T W (items (.one fa :: l))) := by
  refine PA.imp (pa_cons ha hr hs) fun σ H Q h => ?_
  refine tG.bind (k := fun x ρ => M.bind (items l ρ) fun xs => M.pure (x :: xs)) h fun d ρ ω v H1 Z1 S1 r1 h1 => ?_
  exact ⟨Z1, ρ, ω, S1, h1.bind fun ds ω2 vs H2 Z2 e2 S2 r2 h2 => h2 (v :: vs) H2 Z2 (.refl _ _) S2 (.cons (r1.ext e2) r2)⟩
theorem a_star {l : List It1} (ha : PE X a (vE X own T W fa)) (hr : PA X es (vA X own T W (items l))) (hs : starEach (.Starred a p2 :: es) X.env = (true, eval a X.env) :: starEach es X.env) : PA X (.Starred a p2 :: es) (vA X own T W (items (.star fa :: l))) := by
  refine PA.imp (StX.pa_star ha hr hs) fun σ H Q h => ?_
  refine tG.bind (k := fun x ρ => M.bind (M.lift (seqD x)) fun ys => M.bind (items l ρ) fun xs => M.pure (ys ++ xs)) h fun d ρ ω v H1 Z1 S1 r1 h1 => ?_
  cases eg : seqD d with
  | none => simp only [M.bind, eg, M.lift] at h1; exact h1.elim
  | some ys =>
    simp only [M.bind, eg, M.lift] at h1
    have key : ∃ p xs, v = V.ref p ∧ (SqT X.K H1 p xs ∨ SqL X.K H1 p xs) ∧ RpA X.K Z1 H1 xs ys := by
      cases d <;> simp only [seqD] at eg <;> try contradiction
      · cases eg
        obtain ⟨p, xs, e1, r, _, q⟩ := (Rr.sh r1).list
        exact ⟨p, xs, e1, .inr (.inl r), q⟩
      · cases eg
        obtain ⟨p, xs, e1, r, _, q⟩ := (Rr.sh r1).tuple
        exact ⟨p, xs, e1, .inl r, q⟩
    obtain ⟨p, xs, e1, hq, rr⟩ := key
    exact ⟨p, xs, e1, hq, Z1, ρ, ω, S1, Pg.bind (k := fun xs => M.pure (ys ++ xs)) h1 fun ds ω2 vs H2 Z2 e2 S2 r2 h2 => h2 (xs ++ vs) H2 Z2 (.refl _ _) S2 ((rr.ext e2).append r2)⟩
theorem limited_iff {α β : Type} {K : PySem.W.Frag} {mg : Str → Option Value} {R : (Addr → Prop) → Hp → β → α → Prop} {xs : List D} {kk : List D → M α} {ω : Om} {ρ : Env} {σ : L2.St} {Z : Addr → Prop} {H : Hp} {Q : β → Hp → Prop}
    (h : Pg K mg own T W R (M.bind (limited xs) kk ω) ρ σ Z H Q) : xs.length ≤ LIM ∧ Pg K mg own T W R (kk xs ω) ρ σ Z H Q := by
  unfold limited at h
  split at h
  · rename_i n; exact ⟨n, h⟩
  · exact h.elim
theorem e_tup {l : List It1} {j : Nat} (h : PA X es (vA X own T W (items l))) : PE X (.Tuple es j pos) (vE X own T W (eTup l)) := by
  refine PE.imp (pe_tup h) fun σ H Q h => ?_
  refine tG.bind (k := fun xs _ => M.bind (limited xs) fun xs => M.pure (PyData.tuple xs)) h fun ds ρ ω vs H1 Z1 S1 r1 h1 => ?_
  obtain ⟨n, h2⟩ := limited_iff h1
  rw [← r1.length] at n
  exact ⟨lim_le n, fun p hp => fin_tup S1 hp n r1 fun v' H' Z' e' S' r' => h2 v' H' Z' e' S' r'⟩
theorem e_lst {l : List It1} (h : PA X es (vA X own T W (items l))) : PE X (.List es pos) (vE X own T W (eLst l)) := by
  refine PE.imp (pe_lst h) fun σ H Q h => ?_
  refine tG.bind (k := fun xs _ => M.bind (limited xs) fun xs => M.pure (PyData.list xs)) h fun ds ρ ω vs H1 Z1 S1 r1 h1 => ?_
  obtain ⟨n, h2⟩ := limited_iff h1
  rw [← r1.length] at n
  exact ⟨lim_le n, fun p hp => fin_lst S1 hp n r1 fun v' H' Z' e' S' r' => h2 v' H' Z' e' S' r'⟩
/-! ### built-ins of one argument -/
theorem un1 {g : D → Option D} {r : List V → Hp → VK → Prop} (hs : UnS X own T (one1 r) g) {σ : L2.St} {H : Hp} {Q : VK} (h : vE X own T W (e1 g fa) σ H Q) : tCB r (tCons (vR X own T W fa) tNil) σ H Q := one hs h
section
variable (hg : Gl X x) (hm : X.mg x = none) (ha : PE X a (vR X own T W fa)) (hs : starEach [a] X.env = (false, eval a X.env) :: starEach [] X.env) (hd : (x == ("__debug__" : Str)) = false) (hn : x ≠ "__name__")
include hg hm ha hs hd hn
theorem e_bi {id : String} {g : D → Option D} {r : List V → Hp → VK → Prop} (hc : CallR X (.builtin id) r) (hu : UnS X own T (one1 r) g) (hv : bootBuiltins x = some (.builtin id)) : PE X (.Call (.Name x p2) [a] [] pos) (vE X own T W (e1 g fa)) :=
  PE.imp (pe_callB hc hg hm hv (pa_cons ha pa_nil hs) hn hd hs (by rfl)) fun _ _ _ h => un1 hu h
theorem e_bty {id : String} {g : D → Option D} {r : List V → Hp → VK → Prop} (hc : CallR X (.type id) r) (hu : UnS X own T (one1 r) g) (hv : bootBuiltins x = some (.type id)) : PE X (.Call (.Name x p2) [a] [] pos) (vE X own T W (e1 g fa)) :=
  PE.imp (pe_callTy hc hg hm hv (pa_cons ha pa_nil hs) hn hd hs (by rfl)) fun _ _ _ h => un1 hu h
end
theorem e_len (hg : Gl X "len") (hm : X.mg "len" = none) (ha : PE X a (vR X own T W fa)) (hs : starEach [a] X.env = (false, eval a X.env) :: starEach [] X.env) : PE X (.Call (.Name "len" p2) [a] [] pos) (vE X own T W (e1 lenD fa)) := e_bi hg hm ha hs (by decide +kernel) (by decide +kernel) call_len' us_len PySem.boot_len
theorem e_tuple (hg : Gl X "tuple") (hm : X.mg "tuple" = none) (ha : PE X a (vR X own T W fa)) (hs : starEach [a] X.env = (false, eval a X.env) :: starEach [] X.env) : PE X (.Call (.Name "tuple" p2) [a] [] pos) (vE X own T W (e1 tupD fa)) := e_bty hg hm ha hs (by decide +kernel) (by decide +kernel) call_tuple_of us_tup (by decide +kernel)
theorem e_list (hg : Gl X "list") (hm : X.mg "list" = none) (ha : PE X a (vR X own T W fa)) (hs : starEach [a] X.env = (false, eval a X.env) :: starEach [] X.env) : PE X (.Call (.Name "list" p2) [a] [] pos) (vE X own T W (e1 lstD fa)) := e_bty hg hm ha hs (by decide +kernel) (by decide +kernel) call_list_of us_lst (by decide +kernel)
theorem e_intc (hg : Gl X "int") (hm : X.mg "int" = none) (ha : PE X a (vR X own T W fa)) (hs : starEach [a] X.env = (false, eval a X.env) :: starEach [] X.env) : PE X (.Call (.Name "int" p2) [a] [] pos) (vE X own T W (e1 intD fa)) := e_bty hg hm ha hs (by decide +kernel) (by decide +kernel) call_int1 us_int (by decide +kernel)
theorem e_abs (hg : Gl X "abs") (hm : X.mg "abs" = none) (ha : PE X a (vR X own T W fa)) (hs : starEach [a] X.env = (false, eval a X.env) :: starEach [] X.env) : PE X (.Call (.Name "abs" p2) [a] [] pos) (vE X own T W (e1 absD fa)) := e_bi hg hm ha hs (by decide +kernel) (by decide +kernel) call_abs us_abs (by decide +kernel)
theorem e_all (C : Cf X W k) (hg : Gl X "all") (hm : X.mg "all" = none) (ha : PE X a (vR X own T W fa)) (hs : starEach [a] X.env = (false, eval a X.env) :: starEach [] X.env) : PE X (.Call (.Name "all" p2) [a] [] pos) (vE X own T W (e1 allD fa)) := e_bi hg hm ha hs (by decide +kernel) (by decide +kernel) (cr_all C.calm) us_all (by decide +kernel)
theorem e_any (C : Cf X W k) (hg : Gl X "any") (hm : X.mg "any" = none) (ha : PE X a (vR X own T W fa)) (hs : starEach [a] X.env = (false, eval a X.env) :: starEach [] X.env) : PE X (.Call (.Name "any" p2) [a] [] pos) (vE X own T W (e1 anyD fa)) := e_bi hg hm ha hs (by decide +kernel) (by decide +kernel) (cr_any C.calm) us_any (by decide +kernel)
/-! isinstance -/
def isT (ts : List Ty) (d : D) : Option D := some (.bool (ts.any fun t => isTy t d))
theorem e_isi (t : Ty) (hg : Gl X "isinstance") (hm : X.mg "isinstance" = none) (hg2 : Gl X (Str.ofString t.s)) (hm2 : X.mg (Str.ofString t.s) = none) (ha : PE X a (vR X own T W fa))
    (hs : starEach [a, .Name (Str.ofString t.s) p3] X.env = (false, eval a X.env) :: starEach [.Name (Str.ofString t.s) p3] X.env) : PE X (.Call (.Name "isinstance" p2) [a, .Name (Str.ofString t.s) p3] [] pos) (vE X own T W (e1 (isT [t]) fa)) := by
  have hv : bootBuiltins (Str.ofString t.s) = some (.type t.s) := by cases t <;> decide +kernel
  have hn : (Str.ofString t.s) ≠ "__name__" := by cases t <;> decide +kernel
  have hd : ((Str.ofString t.s) == ("__debug__" : Str)) = false := by cases t <;> decide +kernel
  refine PE.imp (pe_callB call_isi hg hm (by decide +kernel) (pa_cons ha (pa_cons (pe_bltn (v := .ty t.s) hg2 hm2 hv rfl hn hd) pa_nil) hs) (by decide +kernel) (by decide +kernel) hs (by rfl)) fun σ H Q h => ?_
  refine tG.bind (k := fun x _ => M.lift (isT [t] x)) h fun d ρ ω v H1 Z1 S1 r1 h1 => ?_
  obtain ⟨d', eg, h3⟩ := h1.lift
  cases eg
  refine ⟨v, .ty t.s, _, _, _, rfl, .ty _, tyX_of r1, kit_tys t d, ?_⟩
  have := h3 (.bl (isTy t d || false)) H1 Z1 (.refl _ _) S1 (.bl _)
  rw [Bool.or_false] at this
  exact this
theorem e_isi2 {p5 : Pos} {j : Nat} (t u : Ty) (hg : Gl X "isinstance") (hm : X.mg "isinstance" = none) (hg2 : Gl X (Str.ofString t.s)) (hm2 : X.mg (Str.ofString t.s) = none) (hg3 : Gl X (Str.ofString u.s)) (hm3 : X.mg (Str.ofString u.s) = none) (ha : PE X a (vR X own T W fa))
    (hs : starEach [a, .Tuple [.Name (Str.ofString t.s) p3, .Name (Str.ofString u.s) p4] j p5] X.env = (false, eval a X.env) :: starEach [.Tuple [.Name (Str.ofString t.s) p3, .Name (Str.ofString u.s) p4] j p5] X.env) :
    PE X (.Call (.Name "isinstance" p2) [a, .Tuple [.Name (Str.ofString t.s) p3, .Name (Str.ofString u.s) p4] j p5] [] pos) (vE X own T W (e1 (isT [t, u]) fa)) := by
  have hv : ∀ t : Ty, bootBuiltins (Str.ofString t.s) = some (.type t.s) := fun t => by cases t <;> decide +kernel
  have hn : ∀ t : Ty, (Str.ofString t.s) ≠ "__name__" := fun t => by cases t <;> decide +kernel
  have hd : ∀ t : Ty, ((Str.ofString t.s) == ("__debug__" : Str)) = false := fun t => by cases t <;> decide +kernel
  refine PE.imp (pe_callB call_isiT hg hm (by decide +kernel) (pa_cons ha (pa_cons (pe_tup (pa_cons (pe_bltn (v := .ty t.s) hg2 hm2 (hv t) rfl (hn t) (hd t)) (pa_cons (pe_bltn (v := .ty u.s) hg3 hm3 (hv u) rfl (hn u) (hd u)) pa_nil))) pa_nil) hs) (by decide +kernel) (by decide +kernel) hs (by rfl)) fun σ H Q h => ?_
  refine tG.bind (k := fun x _ => M.lift (isT [t, u] x)) h fun d ρ ω v H1 Z1 S1 r1 h1 => ?_
  obtain ⟨d', eg, h3⟩ := h1.lift
  cases eg
  refine ⟨by show 2 ≤ sizeLine; decide, fun p hp => ?_⟩
  have e : Ext (Ow own σ) Z1 H1 Z1 (upd H1 p (.tup [.ty t.s, .ty u.s])) := .new hp
  have S2 := S1.new (o := .tup [.ty t.s, .ty u.s]) hp
  have r2 : Rr X.K Z1 (upd H1 p (.tup [.ty t.s, .ty u.s])) v d := by
    cases r1 with
    | sh r => exact .sh (r.ext e)
    | lst r n q =>
      exact .lst (by rw [upd_ne (ne_of_none r hp)]; exact r) n (q.ext e)
    | dic r n q =>
      refine .dic ?_ n (q.ext e)
      rcases r with r | ⟨o, r⟩
      · exact .inl (by rw [upd_ne (ne_of_none r hp)]; exact r)
      · exact .inr ⟨o, by rw [upd_ne (ne_of_none r hp)]; exact r⟩
  exact ⟨v, p, [.ty t.s, .ty u.s], _, [.type t.s, .type u.s], _, rfl, upd_same, .cons (.ty _) (.cons (.ty _) .nil), tyX_of r2, kit_any d [t, u], h3 _ _ Z1 e S2 (.bl _)⟩
/-! ### subscripts -/
theorem e_idx (ha : PE X a (vE X own T W fa)) (hb : PE X b (vR X own T W fb)) (hs : PlainIx b) : PE X (.Subscript a b pos) (vE X own T W (e2 idxD fa fb)) := PE.imp (pe_ix ix_seq ha hb hs) fun _ _ _ h => two os_idx h
theorem e_idxO {i j : Nat} (hj : own[j]? = some i) (hN : X.N[i]? = some x) (hv : Vis X.env.scope x) (hb : PE X b (vR X own T W fb)) (hs : PlainIx b) (hd : (x == ("__debug__" : Str)) = false) (hcd : (x == ("__classdict__" : Str)) = false) :
    PE X (.Subscript (.Name x p2) b pos) (vE X own T W (e2o idxD j fb)) := PE.imp (pe_ix ix_seq (pe_var hN hv hd hcd) hb hs) fun _ _ _ h => twoO os_idx hj h
theorem e_dget (C : Cf X W k) (ha : PE X a (vE X own T W fa)) (hb : PE X b (vR X own T W fb)) (hs : NoSl b) : PE X (.Subscript a b pos) (vE X own T W (e2 dgetD fa fb)) := by
  refine PE.imp (pe_dget (by have := C.hu; omega) ha hb hs) fun σ H Q h => ?_
  refine tG.bind (k := fun x ρ => M.bind (fb ρ) fun y => M.lift (dgetD x y)) h fun d1 ρ ω v H1 Z1 S1 r1 h1 => ?_
  refine ⟨Z1, ρ, ω, S1, h1.bind fun d2 ω2 u H2 Z2 e2 S2 r2 h2 => ?_⟩
  obtain ⟨d, eg, h3⟩ := h2.lift
  cases d1 <;> simp only [dgetD] at eg <;> try contradiction
  split at eg
  · rename_i es kk hk
    obtain ⟨a, kvs, rfl, r, n, q⟩ := (Rr.sh (r1.ext e2)).dict
    obtain ⟨rfl, rfl⟩ := kV_of hk r2
    rcases dget_val kk q with ⟨_, h⟩ | ⟨w', d', g1, g2, g3⟩
    · rw [h] at eg; cases eg
    · rw [g2] at eg; cases eg
      exact ⟨a, w', rfl, .inl ⟨kvs, kk, r, rfl, g1.symm⟩, h3 w' H2 Z2 (.refl _ _) S2 g3⟩
  · cases eg
/-! slices -/
theorem o_none : PO X none (vO X own T W (part none)) := PO.imp po_none fun σ H Q ⟨Z, ρ, ω, S, h⟩ => h none H Z (.refl Z H) S rfl
theorem o_some (ha : PE X a (vE X own T W fa)) : PO X (some a) (vO X own T W (part (some fa))) := by
  refine PO.imp (po_some ha) fun σ H Q h => ?_
  refine tG.bind (k := fun x _ => match x with | .int i => M.pure (some i) | _ => fun _ => .bad) h fun d ρ ω v H1 Z1 S1 r1 h1 => ?_
  cases d <;> first | exact h1.elim | skip
  cases r1
  exact ⟨_, rfl, h1 (some _) H1 Z1 (.refl _ _) S1 rfl⟩
def rSl' (K : PySem.W.Frag) : V → Option Int → Option Int → Hp → VK → Prop := fun x lo hi H Q => rSlL K x lo hi H Q ∨ rSlA K x lo hi H Q ∨ rSlS x lo hi H Q
theorem sl_all : SlR X (rSl' X.K) := sl_list.or (sl_tupA.or sl_str)
theorem cut_rep {K : PySem.W.Frag} {Z : Addr → Prop} {H : Hp} {vs : List V} {ds : List D} (r : RpA K Z H vs ds) (lo hi : Option Int) : RpA K Z H (cutV vs lo hi) (cutL ds lo hi) := by
  unfold cutV cutL
  rw [← r.length]
  exact (r.drop _).take _
theorem cut_all {α : Type} {xs : List α} {lo hi : Option Int} (h : HT.sIx xs.length 0 lo = 0 ∧ HT.sIx xs.length xs.length hi = xs.length) : cutL xs lo hi = xs := by
  have h1 : sB xs.length 0 lo = 0 := h.1
  have h2 : sB xs.length xs.length hi = xs.length := h.2
  unfold cutL
  rw [h1, h2, List.drop_zero, Nat.sub_zero, List.take_length]
theorem sl_rd {K : PySem.W.Frag} {Z : Addr → Prop} {ρ : Env} {ω : Om} {σ : L2.St} {H : Hp} {v : V} {d d' : D} {l h : Option Int} {Q : VK} (S : Sx K own T Z ρ ω σ H) (r : Rr K Z H v d) (e : slD d l h = some d')
    (q : ∀ v H' Z', Ext (Ow own σ) Z H Z' H' → Sx K own T Z' ρ ω σ H' → Rp K Z' H' v d' → Q v H') : rSl' K v l h H Q := by
  cases d <;> simp only [slD] at e <;> try contradiction
  · rename_i z
    obtain ⟨rfl, n⟩ := r.str
    cases e
    refine .inr (.inr ⟨z, rfl, lim_le n, ?_⟩)
    have e1 : cutS z l h = ⟨(cutL z.cps.toList l h).toArray⟩ := by
      show (⟨((z.cps.toList.drop (HT.sIx z.length 0 l)).take (HT.sIx z.length z.length h - HT.sIx z.length 0 l)).toArray⟩ : Str) = ⟨(cutL z.cps.toList l h).toArray⟩
      unfold cutL
      rw [Array.length_toList]
      rfl
    rw [e1]
    refine fin_v S (.str _ ?_) q
    show ((cutL z.cps.toList l h).toArray).size ≤ LIM
    have n' : z.cps.size ≤ LIM := n
    rw [List.size_toArray]
    unfold cutL
    rw [List.length_take, List.length_drop, Array.length_toList]
    omega
  · obtain ⟨a, xs, rfl, r1, n, q1⟩ := r.list
    cases e
    exact .inl ⟨a, xs, rfl, .inl r1, fun p hp => fin_lst S hp (Nat.le_trans (cutV_length _ _ _) n) (cut_rep q1 l h) q⟩
  · obtain ⟨a, xs, rfl, r1, n, q1⟩ := r.tuple
    cases e
    refine .inr (.inl ⟨a, xs, rfl, r1, fun w => ?_, fun _ p hp => fin_tup S hp (Nat.le_trans (cutV_length _ _ _) n) (cut_rep q1 l h) q⟩)
    rw [q1.length] at w
    rw [cut_all w] at q
    exact fin_v S (.tup r1 n q1) q
theorem e_sl {lo hi : Option Expr} {fl fh : Option EE} (ha : PE X a (vE X own T W fa)) (hl : PO X lo (vO X own T W (part fl))) (hh : PO X hi (vO X own T W (part fh))) : PE X (.Subscript a (.Slice lo hi none p2) pos) (vE X own T W (eSl fa fl fh)) := by
  refine PE.imp (pe_slice sl_all ha hl hh) fun σ H Q h => ?_
  refine tG.bind (k := fun x ρ => M.bind (part fl ρ) fun l => M.bind (part fh ρ) fun h => M.lift (slD x l h)) h fun d ρ ω v H1 Z1 S1 r1 h1 => ?_
  refine ⟨Z1, ρ, ω, S1, h1.bind fun l ω2 l' H2 Z2 e2 S2 r2 h2 => ⟨Z2, ρ, ω2, S2, h2.bind fun hh' ω3 hh2 H3 Z3 e3 S3 r3 h3 => ?_⟩⟩
  subst r2 r3
  obtain ⟨d', eg, h4⟩ := h3.lift
  exact sl_rd S3 (.sh (r1.ext (e2.trans e3))) eg fun v' H' Z' e' S' r' => h4 v' H' Z' e' S' r'
end
end Wc

set_option Elab.async false
set_option linter.all false
set_option maxRecDepth 100000
set_option maxHeartbeats 1000000
/-! Wc.Call: what a def promises, its call. -/
namespace Wc
open PySem PySem.Spec PyProof.Rows L2
section
variable {K : PySem.W.Frag} {mg : Str → Option Value} {Z Z' : Addr → Prop} {H H' : Hp} {own : List Nat} {T : Ent} {ρ : Env} {ω : Om} {σ : L2.St} {W : WX}
/-- the arguments: mask: which are owned; ds: the shared ones' data; as: the owned ones' addresses, os: their data -/
inductive ArgsR (K : PySem.W.Frag) (Z : Addr → Prop) (H : Hp) : List Bool → List V → List D → List Addr → List D → Prop
  | nil : ArgsR K Z H [] [] [] [] []
  | sh {m : List Bool} {v : V} {vs : List V} {d : D} {ds : List D} {as : List Addr} {os : List D} (h : Rp K Z H v d) (t : ArgsR K Z H m vs ds as os) : ArgsR K Z H (false :: m) (v :: vs) (d :: ds) as os
  | ow {m : List Bool} {a : Addr} {vs : List V} {o : D} {ds : List D} {as : List Addr} {os : List D} (nz : ¬ Z a) (c : Oc K Z H a o) (na : a ∉ as) (t : ArgsR K Z H m vs ds as os) : ArgsR K Z H (true :: m) (.ref a :: vs) ds (a :: as) (o :: os)
structure PostC (K : PySem.W.Frag) (tb : List (Addr × Str)) (as : List Addr) (Z : Addr → Prop) (H : Hp) (Z' : Addr → Prop) (H' : Hp) (ω : Om) : Prop where
  e : Ext (fun a => a ∈ as) Z H Z' H'
  keep : ∀ a o, H a = some o → a ∉ as → (∀ ps, o ≠ .tbl ps) → H' a = some o
  zz : ∀ a, Z' a → Z a ∨ Nw tb H a
  zd : ∀ a, Z' a → ∃ o, H' a = some o ∧ ∀ ps, o ≠ .tbl ps
  tabs : LamX.Tabs tb H'
  len : ω.length = as.length
  ow : ∀ (t : Nat) a, as[t]? = some a → ∃ d, ω[t]? = some (some d) ∧ ¬ Z' a ∧ Oc K Z' H' a d
/-- the promise of a def whose meaning is m -/
def SpM (K : PySem.W.Frag) (mg : Str → Option Value) (tb : List (Addr × Str)) (mask : List Bool) (m : FM) : Sp := fun vs H Q E => ∃ Z ds as os, ArgsR K Z H mask vs ds as os ∧ (∀ a, Z a → ∃ o, H a = some o ∧ ∀ ps, o ≠ .tbl ps) ∧ LamX.Tabs tb H ∧
  match m ds (os.map some) with
  | .ok d ω => ∀ v H' Z', PostC K tb as Z H Z' H' ω → Rp K Z' H' v d → Q v H'
  | .ex x ω => ∀ c dd H' Z', PostC K tb as Z H Z' H' ω → XRp K mg Z' H' c dd x → E c dd H'
  | .bad => False
theorem ArgsR.len {m : List Bool} {vs : List V} {ds : List D} {as : List Addr} {os : List D} (h : ArgsR K Z H m vs ds as os) : vs.length = m.length := by
  induction h with
  | nil => rfl
  | sh _ _ ih => rw [List.length_cons, List.length_cons, ih]
  | ow _ _ _ _ ih => rw [List.length_cons, List.length_cons, ih]
theorem ArgsR.lenO {m : List Bool} {vs : List V} {ds : List D} {as : List Addr} {os : List D} (h : ArgsR K Z H m vs ds as os) : os.length = as.length := by
  induction h with
  | nil => rfl
  | sh _ _ ih => exact ih
  | ow _ _ _ _ ih => rw [List.length_cons, List.length_cons, ih]
/-- the shared ones at the entry -/
theorem ArgsR.shared {m : List Bool} {vs : List V} {ds : List D} {as : List Addr} {os : List D} (h : ArgsR K Z H m vs ds as os) : ∀ (i : Nat) d, (entryE m ds)[i]? = some (some d) → m[i]? = some false ∧ ∃ v, vs[i]? = some v ∧ Rp K Z H v d := by
  induction h with
  | nil => intro i d e; simp [entryE] at e
  | sh r _ ih =>
    intro i d e
    cases i with
    | zero => simp [entryE] at e; subst e; exact ⟨rfl, _, rfl, r⟩
    | succ i => exact ih i d (by simpa [entryE] using e)
  | ow _ _ _ _ ih =>
    intro i d e
    cases i with
    | zero => simp [entryE] at e
    | succ i => exact ih i d (by simpa [entryE] using e)
theorem entryE_len : ∀ (m : List Bool) (ds : List D), (entryE m ds).length = m.length
  | [], _ => rfl
  | false :: m, [] => by simp [entryE, entryE_len m]
  | false :: m, d :: ds => by simp [entryE, entryE_len m]
  | true :: m, ds => by simp [entryE, entryE_len m]
/-- the owned ones -/
theorem ArgsR.owned {m : List Bool} {vs : List V} {ds : List D} {as : List Addr} {os : List D} (h : ArgsR K Z H m vs ds as os) : ∀ (n j : Nat) i, (ownIx m n)[j]? = some i → ∃ a o, n ≤ i ∧ m[i - n]? = some true ∧ vs[i - n]? = some (.ref a) ∧ as[j]? = some a ∧ os[j]? = some o ∧ ¬ Z a ∧ Oc K Z H a o := by
  induction h with
  | nil => intro n j i e; simp [ownIx] at e
  | sh _ _ ih =>
    intro n j i e
    obtain ⟨a, o, h1, h2, h3, h4⟩ := ih (n + 1) j i (by simpa [ownIx] using e)
    have : i - n = (i - (n + 1)) + 1 := by omega
    exact ⟨a, o, by omega, by rw [this]; simpa using h2, by rw [this]; simpa using h3, h4⟩
  | @ow m a vs o ds as os nz c na t ih =>
    intro n j i e
    cases j with
    | zero =>
      simp [ownIx] at e
      subst e
      exact ⟨a, o, Nat.le_refl _, by simp, by simp, by simp, by simp, nz, c⟩
    | succ j =>
      obtain ⟨a, o, h1, h2, h3, h4, h5⟩ := ih (n + 1) j i (by simpa [ownIx] using e)
      have : i - n = (i - (n + 1)) + 1 := by omega
      exact ⟨a, o, by omega, by rw [this]; simpa using h2, by rw [this]; simpa using h3, by simpa using h4, by simpa using h5⟩
theorem ArgsR.ownN {m : List Bool} {vs : List V} {ds : List D} {as : List Addr} {os : List D} (h : ArgsR K Z H m vs ds as os) (n : Nat) : (ownIx m n).length = as.length := by
  induction h generalizing n with
  | nil => rfl
  | sh _ _ ih => exact ih (n + 1)
  | ow _ _ _ _ ih => simp [ownIx, ih (n + 1)]
theorem ArgsR.nd {m : List Bool} {vs : List V} {ds : List D} {as : List Addr} {os : List D} (h : ArgsR K Z H m vs ds as os) : as.Nodup := by
  induction h with
  | nil => exact List.nodup_nil
  | sh _ _ ih => exact ih
  | ow _ _ na _ ih => exact List.nodup_cons.mpr ⟨na, ih⟩
open Classical in
/-- the heap at an entry, without the tables that are not told -/
noncomputable def cutT (tb : List (Addr × Str)) (H : Hp) : Hp := fun a => match H a with
  | some (.tbl ps) => if ∃ q, (a, q) ∈ tb then some (.tbl ps) else none
  | o => o
theorem cutT_of {tb : List (Addr × Str)} {a : Addr} {o : HO} (h : cutT tb H a = some o) : H a = some o := by
  unfold cutT at h
  cases q : H a with
  | none => rw [q] at h; cases h
  | some u =>
    rw [q] at h
    cases u with
    | tbl ps => simp only at h; split at h <;> cases h; rfl
    | _ => exact h
theorem cutT_eq {tb : List (Addr × Str)} {a : Addr} {o : HO} (h : H a = some o) (n : ∀ ps, o ≠ .tbl ps) : cutT tb H a = some o := by
  unfold cutT
  rw [h]
  cases o with
  | tbl ps => exact absurd rfl (n ps)
  | _ => rfl
theorem cutT_none {tb : List (Addr × Str)} {a : Addr} (h : H a = none) : cutT tb H a = none := by
  unfold cutT; rw [h]
theorem cutT_tb {tb : List (Addr × Str)} {a : Addr} {ps : Array Value} (h : cutT tb H a = some (.tbl ps)) : ∃ q, (a, q) ∈ tb := by
  have h0 := cutT_of h
  unfold cutT at h
  rw [h0] at h
  simp only at h
  split at h
  · assumption
  · cases h
theorem ownIx_lt : ∀ (m : List Bool) (n : Nat), ∀ i ∈ ownIx m n, n ≤ i ∧ i < n + m.length
  | [], _, i, h => by simp [ownIx] at h
  | true :: m, n, i, h => by
    simp only [ownIx, List.mem_cons] at h
    rcases h with h | h
    · subst h; simp
    · have := ownIx_lt m (n + 1) i h
      simp only [List.length_cons]; omega
  | false :: m, n, i, h => by
    have := ownIx_lt m (n + 1) i (by simpa [ownIx] using h)
    simp only [List.length_cons]; omega
/-- the state at a def's entry -/
theorem Sx.entry {tb : List (Addr × Str)} {mask : List Bool} {vs : List V} {ds : List D} {as : List Addr} {os : List D} {N : List Str} {more : List Nat} (A : ArgsR K Z H mask vs ds as os) (zd : ∀ a, Z a → ∃ o, H a = some o ∧ ∀ ps, o ≠ .tbl ps) (tabs : LamX.Tabs tb H)
    (hN : mask.length ≤ N.length) (nd : (ownIx mask 0 ++ more).Nodup) (hm : ∀ i ∈ more, mask.length ≤ i ∧ i < N.length) : Sx K (ownIx mask 0 ++ more) ⟨cutT tb H, Z, as, tb⟩ Z (entryE mask ds ++ List.replicate (N.length - mask.length) none) (os.map some ++ List.replicate more.length none) (L2.start N vs) H := by
  have hl := A.len
  have hlo := A.lenO
  have hn := A.ownN 0
  have st : ∀ {i : Nat} {v : V}, vs[i]? = some v → (L2.start N vs)[i]? = some (some v) := fun {i v} h => by
    have : i < vs.length := (List.getElem?_eq_some_iff.mp h).1
    unfold L2.start
    rw [List.getElem?_append_left (by simpa using this), List.getElem?_map, h]
    rfl
  have rho : ∀ {i : Nat} {d : D}, (entryE mask ds ++ List.replicate (N.length - mask.length) none)[i]? = some (some d) → (entryE mask ds)[i]? = some (some d) := fun {i d} h => by
    by_cases q : i < (entryE mask ds).length
    · rw [List.getElem?_append_left q] at h; exact h
    · rw [List.getElem?_append_right (by omega), List.getElem?_replicate] at h
      split at h <;> cases h
  have om : ∀ {j : Nat} {d : D}, (os.map some ++ List.replicate more.length none)[j]? = some (some d) → os[j]? = some d := fun {j d} h => by
    by_cases q : j < os.length
    · rw [List.getElem?_append_left (by simpa using q), List.getElem?_map] at h
      cases e : os[j]? with
      | none => rw [e] at h; cases h
      | some x => rw [e] at h; cases h; rfl
    · rw [List.getElem?_append_right (by simpa using q), List.getElem?_replicate] at h
      split at h <;> cases h
  have ix : ∀ {j : Nat} {i : Nat} {d : D}, (ownIx mask 0 ++ more)[j]? = some i → os[j]? = some d → (ownIx mask 0)[j]? = some i := fun {j i d} h1 h2 => by
    have : j < os.length := (List.getElem?_eq_some_iff.mp h2).1
    rw [List.getElem?_append_left (by omega)] at h1
    exact h1
  have own1 : ∀ (j : Nat) i d, (ownIx mask 0 ++ more)[j]? = some i → (os.map some ++ List.replicate more.length none)[j]? = some (some d) → ∃ a, as[j]? = some a ∧ (L2.start N vs)[i]? = some (some (.ref a)) ∧ ¬ Z a ∧ Oc K Z H a d := fun j i d h1 h2 => by
    obtain ⟨a, o, h3, h4, h5, h6, h7, h8, h9⟩ := A.owned 0 j i (ix h1 (om h2))
    rw [om h2] at h7; cases h7
    exact ⟨a, h6, st (by simpa using h5), h8, h9⟩
  refine ⟨?_, nd, fun i d h => ?_, ?_, fun j i d h1 h2 => ?_, fun j j' i i' d d' a hne h1 h2 h3 h4 h5 => ?_, zd, fun _ z => z, fun _ z => .inl z, fun a o h _ _ => cutT_of h, fun j a h => ?_, tabs, fun a ps h => cutT_tb h, fun a ⟨i, hi, e⟩ => ?_, fun i hi => ?_⟩
  · unfold L2.start
    simp only [List.length_append, List.length_replicate, List.length_map, entryE_len, hl]
  · obtain ⟨h1, v, h2, h3⟩ := A.shared i d (rho h)
    refine ⟨fun hi => ?_, v, st h2, h3⟩
    rcases List.mem_append.mp hi with hi | hi
    · obtain ⟨j, hj⟩ := List.getElem?_of_mem hi
      obtain ⟨_, _, _, h4, _⟩ := A.owned 0 j i hj
      rw [Nat.sub_zero, h1] at h4
      cases h4
    · have := (hm i hi).1
      have := (List.getElem?_eq_some_iff.mp h1).1
      omega
  · simp only [List.length_append, List.length_map, List.length_replicate, hlo, hn]
  · obtain ⟨a, h3, h4, h5, h6⟩ := own1 j i d h1 h2
    exact ⟨a, h4, h5, h6, .inl (List.mem_of_getElem? h3)⟩
  · obtain ⟨b, h6, h7, _⟩ := own1 j i d h1 h3
    obtain ⟨b', h8, h9, _⟩ := own1 j' i' d' h2 h4
    rw [h5] at h7; cases h7
    rw [h9]
    intro z; cases z
    have nd' := A.nd
    obtain ⟨l1, e1⟩ := List.getElem?_eq_some_iff.mp h6
    obtain ⟨l2, e2⟩ := List.getElem?_eq_some_iff.mp h8
    exact hne ((List.getElem_inj nd').mp (e1.trans e2.symm))
  · have hj : j < as.length := (List.getElem?_eq_some_iff.mp h).1
    have hj' : j < (ownIx mask 0).length := by omega
    obtain ⟨b, o, h1, h2, h3, h4, h5, h6, h7⟩ := A.owned 0 j _ (List.getElem?_eq_getElem hj')
    have e4 : as[j]? = some b := h4
    rw [h] at e4; cases e4
    refine ⟨_, o, by rw [List.getElem?_append_left hj']; exact List.getElem?_eq_getElem hj', st (by simpa using h3), ?_⟩
    rw [List.getElem?_append_left (by rw [List.length_map]; omega), List.getElem?_map, h5]
    rfl
  · rcases List.mem_append.mp hi with hi | hi
    · obtain ⟨j, hj⟩ := List.getElem?_of_mem hi
      obtain ⟨b, o, h1, h2, h3, h4, h5, h6, h7⟩ := A.owned 0 j i hj
      rw [st (by simpa using h3)] at e
      cases e
      exact h7.stands
    · exfalso
      have h1 := (hm i hi).1
      have h2 : vs.length ≤ i := by omega
      unfold L2.start at e
      rw [List.getElem?_append_right (by simpa using h2), List.getElem?_replicate] at e
      split at e <;> cases e
  · have e : (L2.start N vs).length = N.length := by
      unfold L2.start
      simp only [List.length_append, List.length_replicate, List.length_map]; omega
    rw [e]
    rcases List.mem_append.mp hi with hi | hi
    · have := ownIx_lt mask 0 i hi
      omega
    · exact (hm i hi).2
/-! ### behind a call -/
theorem putO_len : ∀ (js : List Nat) (ω ds : Om), (putO ω js ds).length = ω.length
  | [], _, _ => by simp [putO]
  | _ :: _, _, [] => by simp [putO]
  | j :: js, ω, d :: ds => by unfold putO; rw [putO_len js, List.length_set]
theorem putO_ne {j : Nat} : ∀ (js : List Nat) (ω ds : Om), j ∉ js → (putO ω js ds)[j]? = ω[j]?
  | [], _, _, _ => by simp [putO]
  | _ :: _, _, [], _ => by simp [putO]
  | k :: js, ω, d :: ds, h => by
    unfold putO
    rw [putO_ne js _ _ fun m => h (List.mem_cons_of_mem _ m), List.getElem?_set_ne]
    intro e; exact h (e ▸ List.mem_cons_self)
theorem putO_at {j : Nat} {d : Option D} : ∀ (js : List Nat) (ω ds : Om) (t : Nat), js.Nodup → js[t]? = some j → ds[t]? = some d → j < ω.length → (putO ω js ds)[j]? = some d
  | [], _, _, _, _, h, _, _ => by simp at h
  | _ :: _, _, [], _, _, _, h, _ => by simp at h
  | k :: js, ω, x :: ds, 0, nd, h1, h2, hl => by
    simp at h1 h2
    subst h1 h2
    unfold putO
    rw [putO_ne js _ _ (List.nodup_cons.mp nd).1, List.getElem?_set_self hl]
  | k :: js, ω, x :: ds, t + 1, nd, h1, h2, hl => by
    unfold putO
    exact putO_at js _ ds t (List.nodup_cons.mp nd).2 (by simpa using h1) (by simpa using h2) (by rw [List.length_set]; exact hl)
/-- behind a call that was handed the owned places js, whose objects stand at as -/
theorem Sx.called {js : List Nat} {as : List Addr} {ω' : Om} (S : Sx K own T Z ρ ω σ H) (nd : js.Nodup) (hl : js.length = as.length)
    (at_ : ∀ (t j : Nat) a, js[t]? = some j → as[t]? = some a → ∃ i d, own[j]? = some i ∧ ω[j]? = some (some d) ∧ σ[i]? = some (some (.ref a)))
    (P : PostC K T.tb as Z H Z' H' ω') : Sx K own T Z' ρ (putO ω js ω') σ H' := by
  have find : ∀ {j : Nat}, j ∈ js → ∃ t a i d, js[t]? = some j ∧ as[t]? = some a ∧ own[j]? = some i ∧ ω[j]? = some (some d) ∧ σ[i]? = some (some (.ref a)) := fun {j} hj => by
    obtain ⟨t, ht⟩ := List.getElem?_of_mem hj
    have h1 : t < js.length := (List.getElem?_eq_some_iff.mp ht).1
    have h2 : as[t]? = some as[t] := List.getElem?_eq_getElem (by omega)
    obtain ⟨i, d, h3, h4, h5⟩ := at_ t j _ ht h2
    exact ⟨t, _, i, d, ht, h2, h3, h4, h5⟩
  have back : ∀ {j : Nat} {d : D}, (putO ω js ω')[j]? = some (some d) → ∃ d0, ω[j]? = some (some d0) := fun {j d} h => by
    by_cases hj : j ∈ js
    · obtain ⟨_, _, _, d0, _, _, _, h4, _⟩ := find hj
      exact ⟨d0, h4⟩
    · rw [putO_ne js _ _ hj] at h; exact ⟨d, h⟩
  have notin : ∀ {j i : Nat} {d : D} {a : Addr}, j ∉ js → own[j]? = some i → ω[j]? = some (some d) → σ[i]? = some (some (.ref a)) → a ∉ as := fun {j i d a} hj h1 h2 h3 hm => by
    obtain ⟨t, ht⟩ := List.getElem?_of_mem hm
    have h4 : t < as.length := (List.getElem?_eq_some_iff.mp ht).1
    have h5 : js[t]? = some js[t] := List.getElem?_eq_getElem (by omega)
    obtain ⟨i', d', h6, h7, h8⟩ := at_ t _ a h5 ht
    exact S.dj j js[t] i i' d d' a (fun e => hj (e ▸ List.mem_of_getElem? h5)) h1 h6 h2 h7 h3 h8
  refine ⟨S.len, S.nd, fun i d h => ?_, by rw [putO_len]; exact S.wl, fun j i d h1 h2 => ?_, fun j j' i i' d d' a hne h1 h2 h3 h4 h5 => ?_, P.zd, fun a z => P.e.z a (S.z0 a z), fun a z => ?_, fun a o h m t => ?_, fun j a h => ?_, P.tabs, S.kt0, fun a h => ?_, S.ol⟩
  · obtain ⟨ni, v, h1, h2⟩ := S.sh i d h
    exact ⟨ni, v, h1, h2.ext P.e⟩
  · by_cases hj : j ∈ js
    · obtain ⟨t, a, i', d0, h3, h4, h5, h6, h7⟩ := find hj
      rw [h1] at h5; cases h5
      obtain ⟨d', h8, nz, c⟩ := P.ow t a h4
      rw [putO_at js ω ω' t nd h3 h8 (List.getElem?_eq_some_iff.mp h6).1] at h2
      cases h2
      obtain ⟨b, h9, _, _, f⟩ := S.ow j i d0 h1 h6
      rw [h7] at h9; cases h9
      exact ⟨a, h7, nz, c, f⟩
    · rw [putO_ne js _ _ hj] at h2
      obtain ⟨a, h3, nz, c, f⟩ := S.ow j i d h1 h2
      have na := notin hj h1 h2 h3
      obtain ⟨o, ho, mu⟩ := c.obj
      refine ⟨a, h3, fun z => ?_, c.ext P.e fun o' h' => P.keep a o' h' na fun ps q => ?_, f⟩
      · rcases P.zz a z with z | z
        · exact nz z
        · exact (S.nw z).2 ⟨i, List.mem_of_getElem? h1, h3⟩
      · subst q
        rw [ho] at h'; cases h'; exact mu
  · obtain ⟨d1, e1⟩ := back h3
    obtain ⟨d2, e2⟩ := back h4
    exact S.dj j j' i i' d1 d2 a hne h1 h2 e1 e2 h5
  · rcases P.zz a z with z | z
    · exact S.zz a z
    · exact .inr (S.nw z).1
  · have h1 := S.keep a o h m t
    refine P.keep a o h1 (fun hm => ?_) t
    obtain ⟨k, hk⟩ := List.getElem?_of_mem hm
    have h4 : k < as.length := (List.getElem?_eq_some_iff.mp hk).1
    have h5 : js[k]? = some js[k] := List.getElem?_eq_getElem (by omega)
    obtain ⟨i', d', h6, h7, h8⟩ := at_ k _ a h5 hk
    obtain ⟨b, h9, _, _, f⟩ := S.ow _ i' d' h6 h7
    rw [h8] at h9; cases h9
    rcases f with f | f
    · exact m f
    · rw [f] at h; cases h
  · obtain ⟨i, d, h1, h2, h3⟩ := S.par j a h
    by_cases hj : j ∈ js
    · obtain ⟨t, a', i', d0, h4, h5, h6, h7, h8⟩ := find hj
      obtain ⟨d', h9, _, _⟩ := P.ow t a' h5
      exact ⟨i, d', h1, h2, putO_at js ω ω' t nd h4 h9 (List.getElem?_eq_some_iff.mp h7).1⟩
    · exact ⟨i, d, h1, h2, by rw [putO_ne js _ _ hj]; exact h3⟩
  · obtain ⟨o, ho, n⟩ := S.st a h
    by_cases hm : a ∈ as
    · obtain ⟨t, ht⟩ := List.getElem?_of_mem hm
      obtain ⟨_, _, _, c⟩ := P.ow t a ht
      exact c.stands
    · exact ⟨o, P.keep a o ho hm n, n⟩
/-- what a body knows of a def that it calls -/
structure Callee (P : Program) (w : World) (K : PySem.W.Frag) (mg : Str → Option Value) (base : Heap) (k : Nat) (x : Str) (sp : Sp) : Prop where
  ex : ∃ f fd ps, mg x = some (.ref f) ∧ PySem.W.keepIn K (.ref f) = true ∧ Binds K fd ps [] ∧ FnOk P w K mg base (L2.CX P w) k f fd ps sp
/-! ### a call's arguments -/
/-- the values: shared ones, and what stands in the owned places' slots -/
inductive ArR (K : PySem.W.Frag) (own : List Nat) (σ : L2.St) (Z : Addr → Prop) (H : Hp) : List Ar → List V → List D → Prop
  | nil : ArR K own σ Z H [] [] []
  | sh {f : EE} {l : List Ar} {v : V} {vs : List V} {d : D} {ds : List D} (h : Rp K Z H v d) (t : ArR K own σ Z H l vs ds) : ArR K own σ Z H (.sh f :: l) (v :: vs) (d :: ds)
  | ow {j i : Nat} {l : List Ar} {v : V} {vs : List V} {ds : List D} (h : own[j]? = some i) (e : σ[i]? = some (some v)) (t : ArR K own σ Z H l vs ds) : ArR K own σ Z H (.ow j :: l) (v :: vs) ds
theorem ArR.ext {O : Addr → Prop} {l : List Ar} {vs : List V} {ds : List D} (e : Ext O Z H Z' H') (h : ArR K own σ Z H l vs ds) : ArR K own σ Z' H' l vs ds := by
  induction h with
  | nil => exact .nil
  | sh h _ ih => exact .sh (h.ext e) ih
  | ow h e _ ih => exact .ow h e ih
def maskA : List Ar → List Bool
  | [] => []
  | .sh _ :: r => false :: maskA r
  | .ow _ :: r => true :: maskA r
/-- the arguments as the callee takes them -/
theorem ArR.args {l : List Ar} {vs : List V} {ds : List D} (S : Sx K own T Z ρ ω σ H) (h : ArR K own σ Z H l vs ds) (nd : (owns l).Nodup) (al : (takeO ω (owns l)).all (·.isSome) = true) :
    ∃ as os, ArgsR K Z H (maskA l) vs ds as os ∧ takeO ω (owns l) = os.map some ∧ (owns l).length = as.length ∧ (∀ (t j : Nat) a, (owns l)[t]? = some j → as[t]? = some a → ∃ i d, own[j]? = some i ∧ ω[j]? = some (some d) ∧ σ[i]? = some (some (.ref a))) := by
  induction h with
  | nil => exact ⟨[], [], .nil, rfl, rfl, fun t j a h => by simp [owns] at h⟩
  | sh h _ ih =>
    obtain ⟨as, os, h1, h2, h3, h4⟩ := ih nd al
    exact ⟨as, os, .sh h h1, h2, h3, h4⟩
  | @ow j i l v vs ds hj e t ih =>
    have nd' := List.nodup_cons.mp (show (j :: owns l).Nodup from nd)
    have al' : ((ω[j]?).join.isSome && (takeO ω (owns l)).all (·.isSome)) = true := al
    rw [Bool.and_eq_true] at al'
    obtain ⟨as, os, h1, h2, h3, h4⟩ := ih nd'.2 al'.2
    cases q : ω[j]? with
    | none => rw [q] at al'; exact absurd al'.1 Bool.false_ne_true
    | some o =>
      cases o with
      | none => rw [q] at al'; exact absurd al'.1 Bool.false_ne_true
      | some d =>
        obtain ⟨a, h5, nz, c, f⟩ := S.ow j i d hj q
        rw [e] at h5; cases h5
        refine ⟨a :: as, d :: os, .ow nz c (fun hm => ?_) h1, ?_, ?_, fun t j' a' h6 h7 => ?_⟩
        · obtain ⟨k, hk⟩ := List.getElem?_of_mem hm
          have l1 : k < as.length := (List.getElem?_eq_some_iff.mp hk).1
          have l2 : (owns l)[k]? = some (owns l)[k] := List.getElem?_eq_getElem (by omega)
          obtain ⟨i', d', e1, e2, e3⟩ := h4 k _ a l2 hk
          exact S.dj j _ i i' d d' a (fun z => nd'.1 (z ▸ List.mem_of_getElem? l2)) hj e1 q e2 e e3
        · show (ω[j]?).join :: takeO ω (owns l) = _
          rw [q, h2]; rfl
        · show (owns l).length + 1 = as.length + 1
          rw [h3]
        · cases t with
          | zero =>
            simp [owns] at h6
            simp at h7
            subst h6 h7
            exact ⟨i, d, hj, q, e⟩
          | succ t => exact h4 t j' a' (by simpa [owns] using h6) (by simpa using h7)
end
section
variable {X : Cx} {own : List Nat} {T : Ent} {W : WX} {a b c e : Expr} {es : List Expr} {fa fb fc f : EE} {pos p2 p3 p4 : Pos} {k : Nat} {x : Str} {l : List Ar}
/-- the reading of arguments -/
def vX (X : Cx) (own : List Nat) (T : Ent) (W : WX) (l : List Ar) : TA := fun σ H Q => tG X.K X.mg own T W (fun Z H vs ds => ArR X.K own σ Z H l vs ds) (args l) σ H Q
theorem x_nil : PA X [] (vX X own T W []) := PA.imp pa_nil fun σ H Q ⟨Z, ρ, ω, S, h⟩ => h [] H Z (.refl Z H) S .nil
theorem x_sh (ha : PE X a (vE X own T W fa)) (hr : PA X es (vX X own T W l)) (hs : starEach (a :: es) X.env = (false, eval a X.env) :: starEach es X.env) : PA X (a :: es) (vX X own T W (.sh fa :: l)) := by
  refine PA.imp (pa_cons ha hr hs) fun σ H Q h => ?_
  refine tG.bind (k := fun x ρ => M.bind (args l ρ) fun xs => M.pure (x :: xs)) h fun d ρ ω v H1 Z1 S1 r1 h1 => ?_
  exact ⟨Z1, ρ, ω, S1, h1.bind fun ds ω2 vs H2 Z2 e2 S2 r2 h2 => h2 (v :: vs) H2 Z2 (.refl _ _) S2 (.sh (r1.ext e2) r2)⟩
theorem x_ow {i j : Nat} (hj : own[j]? = some i) (hN : X.N[i]? = some x) (hv : Vis X.env.scope x) (hr : PA X es (vX X own T W l)) (hs : starEach (.Name x p2 :: es) X.env = (false, eval (.Name x p2) X.env) :: starEach es X.env) (hd : (x == ("__debug__" : Str)) = false) (hcd : (x == ("__classdict__" : Str)) = false) :
    PA X (.Name x p2 :: es) (vX X own T W (.ow j :: l)) := by
  refine PA.imp (pa_cons (pe_var hN hv hd hcd) hr hs) fun σ H Q h => ?_
  obtain ⟨Z, ρ, ω, S, h⟩ := h
  rcases eOwn_cases j ρ ω with ⟨d, hd, e⟩ | e
  · simp only [args, M.bind, e] at h
    obtain ⟨a, h1, _, c, _⟩ := S.ow j i _ hj hd
    refine ⟨.ref a, h1, Z, ρ, ω, S, ?_⟩
    have h' : Pg X.K X.mg own T W (fun Z H vs ds => ArR X.K own σ Z H (.ow j :: l) vs ds) (args l ρ ω) ρ σ Z H Q := h
    cases q : args l ρ ω with
    | ok xs ω' => rw [q] at h'; exact fun vs H2 Z2 e2 S2 r2 => h' (.ref a :: vs) H2 Z2 e2 S2 (.ow hj h1 r2)
    | ex x ω' => rw [q] at h'; exact h'
    | bad => rw [q] at h'; exact h'
  · simp only [args, M.bind, e] at h; exact h.elim
theorem e_call {m : FM} {j : Nat} (C : Cf X W k) (hc : Callee X.prog X.w X.K X.mg X.base j x (SpM X.K X.mg T.tb (maskA l) m)) (hk : j ≤ k) (hg : Gl X x) (ha : PA X (e :: es) (vX X own T W l)) (nd : (owns l).Nodup)
    (hdb : (x == ("__debug__" : Str)) = false) (he : starEach (e :: es) X.env = (false, eval e X.env) :: starEach es X.env) (hpl : (backTo pos (starEach es X.env)).any (·.1) = false) :
    PE X (.Call (.Name x p2) (e :: es) [] pos) (vE X own T W (eCall m l)) := by
  obtain ⟨f, fd, ps, hm, hkp, hb, F⟩ := hc.ex
  refine PE.imp (pe_callS F (C.room.mono hk) hg hm hkp hb (fun σ => passAt C.tk σ) ha hdb he hpl) fun σ H Q h => ?_
  refine tG.bind (k := fun xs _ => callM m (owns l) xs) h fun ds ρ ω vs H1 Z1 S1 r1 h1 => ?_
  unfold callM at h1
  split at h1
  · rename_i al
    obtain ⟨as, os, h2, h3, h4, h5⟩ := r1.args S1 nd al
    have ow : ∀ a, a ∈ as → Ow own σ a := fun a hm => by
      obtain ⟨t, ht⟩ := List.getElem?_of_mem hm
      have l1 : t < as.length := (List.getElem?_eq_some_iff.mp ht).1
      obtain ⟨i, d, e1, _, e3⟩ := h5 t _ a (List.getElem?_eq_getElem (h4 ▸ l1)) ht
      exact ⟨i, List.mem_of_getElem? e1, e3⟩
    refine ⟨Z1, ds, as, os, h2, S1.zd, S1.tabs, ?_⟩
    rw [h3] at h1
    cases q : m ds (os.map some) with
    | ok d ω' =>
      rw [q] at h1
      exact fun v H' Z' P r => h1 v H' Z' (P.e.weak ow) (S1.called nd h4 h5 P) r
    | ex x ω' =>
      rw [q] at h1
      exact fun c dd H' Z' P r => h1 c dd H' Z' (P.e.weak ow) (S1.called nd h4 h5 P) r
    | bad => rw [q] at h1; exact h1
  · exact h1.elim
end
end Wc

set_option Elab.async false
set_option linter.all false
set_option maxRecDepth 100000
set_option maxHeartbeats 1000000
/-! Wc.Iter: what a loop walks: lists, tuples, texts, and enumerate and zip over any of them. -/
namespace Wc
open PySem PySem.Spec PyProof.Rows L2
/-- a source of items: a list, a tuple, a text -/
inductive Sc where
  | lst (a : Addr)
  | tup (a : Addr)
  | txt (x : Str)
def chars (x : Str) : List V := x.cps.toList.map fun c => .str ⟨#[c]⟩
def Sc.v : Sc → V
  | .lst a => .ref a
  | .tup a => .ref a
  | .txt x => .str x
/-- its items, on the heap H -/
def Sc.Has (K : PySem.W.Frag) (H : Hp) : Sc → List V → Prop
  | .lst a, xs => SqL K H a xs
  | .tup a, xs => SqT K H a xs
  | .txt x, xs => xs = chars x
/-- its iterator at turn i -/
def Sc.At (it : Addr) (i : Nat) (h : Heap) : Sc → Prop
  | .lst a => h.IsListIter it a i
  | .tup a => h.IsTupleIter it a i
  | .txt x => ∃ t, h.IsStrIter it (strIterType x) x t i
theorem Sc.At.at {c : Sc} {it : Addr} {i : Nat} {h h' : Heap} (a : c.At it i h) (k : ∀ o, h.get? it = some o → h'.get? it = some o) : c.At it i h' := by
  cases c with
  | lst _ => exact Heap.IsListIter.at a k
  | tup _ => exact Heap.IsTupleIter.at a k
  | txt _ => obtain ⟨t, o, e, r⟩ := a; exact ⟨t, o, k o e, r⟩
theorem Sc.At.obj {c : Sc} {it : Addr} {i : Nat} {h : Heap} (a : c.At it i h) : ∃ o, h.get? it = some o ∧ ∀ v, o.data ≠ .cell v := by
  cases c with
  | lst _ => obtain ⟨o, e, _, d⟩ := a; exact ⟨o, e, fun v z => by rw [d] at z; cases z⟩
  | tup _ => obtain ⟨o, e, _, d⟩ := a; exact ⟨o, e, fun v z => by rw [d] at z; cases z⟩
  | txt _ => obtain ⟨t, o, e, _, d⟩ := a; exact ⟨o, e, fun v z => by rw [d] at z; cases z⟩
section
variable {X : Cx} {pins : List (Addr × Obj)} {σ : L2.St} {H : Hp} {s : Shared} {c : Sc} {xs : List V}
theorem Sc.Has.inj {ys : List V} (I : Inv X pins σ H s) (h : c.Has X.K H xs) (h' : c.Has X.K H ys) : xs = ys := by
  cases c with
  | lst _ => exact I.list_inj h h'
  | tup _ => exact I.tuple_inj h h'
  | txt _ => exact h.trans h'.symm
/-- what its iterator draws, where it stands -/
theorem Sc.draws {i : Nat} {it : Addr} {A : Around} (I : Inv X pins σ H s) (h : c.Has X.K H xs) (hh : A.handled = none) (ne : c.v ≠ .ref it) (hi : c.At it i s.heap) :
    ∃ fp P St, Draws X.prog X.w A it (it :: fp) xs.length P St ∧ (∀ i v, P i v → ∃ x, xs[i]? = some x ∧ RelV x v) ∧ St i s.heap ∧ (∀ i h', St i h' → c.At it i h') ∧ (∀ b ∈ fp, c.v = .ref b) := by
  cases c with
  | lst a =>
    obtain ⟨its, rv, p, _⟩ := I.list h
    have l := rv.length
    have D := Draws.list (prog := X.prog) (w := X.w) (A := A) hh it a (fun e => ne (by rw [← e]; rfl)) its.toArray
    have D' : Draws X.prog X.w A it [it, a] xs.length (fun i v => its.toArray[i]? = some v) (fun i h => h.IsListIter it a i ∧ h.IsList a its.toArray) := by rw [l]; exact D
    refine ⟨[a], _, _, D', fun i v hv => ?_, ⟨hi, p.isList⟩, fun i h' st => st.1, fun b hb => ?_⟩
    · have hv' : its[i]? = some v := by simpa using hv
      have hi : i < xs.length := by rw [l]; exact (List.getElem?_eq_some_iff.mp hv').1
      obtain ⟨u, hu, ru⟩ := rv.get (List.getElem?_eq_getElem hi)
      rw [hv'] at hu; cases hu
      exact ⟨_, List.getElem?_eq_getElem hi, ru⟩
    · have e : b = a := by simpa using hb
      subst e; rfl
  | tup a =>
    obtain ⟨its, rv, p, _⟩ := I.tuple h
    have l := rv.length
    have D := Draws.tuple (prog := X.prog) (w := X.w) (A := A) hh it a (fun e => ne (by rw [← e]; rfl)) its.toArray
    have D' : Draws X.prog X.w A it [it, a] xs.length (fun i v => its.toArray[i]? = some v) (fun i h => h.IsTupleIter it a i ∧ h.IsTuple a its.toArray) := by rw [l]; exact D
    refine ⟨[a], _, _, D', fun i v hv => ?_, ⟨hi, p⟩, fun i h' st => st.1, fun b hb => ?_⟩
    · have hv' : its[i]? = some v := by simpa using hv
      have hi : i < xs.length := by rw [l]; exact (List.getElem?_eq_some_iff.mp hv').1
      obtain ⟨u, hu, ru⟩ := rv.get (List.getElem?_eq_getElem hi)
      rw [hv'] at hu; cases hu
      exact ⟨_, List.getElem?_eq_getElem hi, ru⟩
    · have e : b = a := by simpa using hb
      subst e; rfl
  | txt x =>
    obtain ⟨t, hi⟩ := hi
    have e : xs = chars x := h
    subst e
    have D := Draws.text (prog := X.prog) (w := X.w) (A := A) hh it x t
    have D' : Draws X.prog X.w A it [it] (chars x).length (fun i v => ∃ c u, x.cps[i]? = some c ∧ v = .str ⟨#[c]⟩ u) (fun i h => h.IsStrIter it (strIterType x) x t i) := by
      have q : (chars x).length = x.cps.size := by simp [chars]
      rw [q]; exact D
    refine ⟨[], _, _, D', fun i v hv => ?_, hi, fun i h' st => ⟨t, st⟩, fun b hb => by simp at hb⟩
    obtain ⟨c, u, h1, rfl⟩ := hv
    exact ⟨.str ⟨#[c]⟩, by simp [chars, h1], ⟨u, rfl⟩⟩
end
/-! ### one by one -/
def Sc.J (K : PySem.W.Frag) : Sc → It
  | .lst a => Itl K a
  | .tup a => Itt K a
  | .txt x => Its x
theorem Sc.walk {K : PySem.W.Frag} {xs : List V} : ∀ c : Sc, L2.Walk (c.J K) xs.length (fun H => c.Has K H xs) (YAt xs)
  | .lst a => walk_list
  | .tup a => walk_tup
  | .txt x => ⟨fun i H hi q => by
      have q' : xs = chars x := q
      subst q'; show i < x.cps.size; simpa [chars] using hi, fun H q => by
      have q' : xs = chars x := q
      subst q'; show x.cps.size ≤ _; simp [chars], fun i H v H' hi q y => by
      have q' : xs = chars x := q
      subst q'
      obtain ⟨rfl, c, h1, rfl⟩ := y
      exact ⟨rfl, by simp [chars, h1]⟩⟩
section
variable {X : Cx} {tg e e2 : Expr}
def iSc (K : PySem.W.Frag) (te : TE) : TI := fun σ H R => te σ H fun v H1 => ∃ c xs, v = Sc.v c ∧ c.Has K H1 xs ∧ R (c.J K) H1
theorem pi_sc {te : TE} (he : PE X e te) : PI X tg e (iSc X.K te) := by
  refine ⟨fun pins s σ H R I h => ?_⟩
  refine thn (he.run pins s σ H _ I h) fun v s1 ⟨y, H1, I1, r1, c, xs, ex, hq, q⟩ => ?_
  subst ex
  have fp1 : ∀ b ∈ [s1.heap.objs.size], FpOk X pins H1 b := fun b hb => by
    have e : b = s1.heap.objs.size := by simpa using hb
    subst e
    exact I1.fpOk (Nat.le_refl _) (I1.hok.fresh (Nat.le_refl _))
  cases c with
  | lst a =>
    cases r1
    obtain ⟨its, rv, p, hz⟩ := I1.list hq
    refine wpAny_pyIter_list p.isList ?_
    exact ⟨s1.heap.objs.size, [s1.heap.objs.size], _, _, H1, rfl, I1.kept (t' := s1.toks) fun b o e => Heap.get?_push_of_some _ e, turn_list a _, ⟨_, Heap.get?_push_size _ rfl, rfl, rfl⟩, fp1, q⟩
  | tup a =>
    cases r1
    obtain ⟨its, rv, p, hz⟩ := I1.tuple hq
    refine wpAny_pyIter_tuple (show s1.heap.IsTuple a its.toArray from p) ?_
    exact ⟨s1.heap.objs.size, [s1.heap.objs.size], _, _, H1, rfl, I1.kept (t' := s1.toks) fun b o e => Heap.get?_push_of_some _ e, turn_tuple a _, ⟨_, Heap.get?_push_size _ rfl, rfl, rfl⟩, fp1, q⟩
  | txt x =>
    obtain ⟨t, rfl⟩ := r1
    cases ha : x.cps.all (· < 128)
    · exact wpAny_pyIter_wide ha ⟨_, _, _, _, H1, rfl, I1.kept (t' := s1.toks) fun b o e => Heap.get?_push_of_some _ e, turn_str _ x t "str_iterator" (.inr rfl), ⟨_, Heap.get?_push_size _ rfl, rfl, rfl⟩, fp1, q⟩
    · exact wpAny_pyIter_ascii ha ⟨_, _, _, _, H1, rfl, I1.kept (t' := s1.toks) fun b o e => Heap.get?_push_of_some _ e, turn_str _ x t "str_ascii_iterator" (.inl rfl), ⟨_, Heap.get?_push_size _ rfl, rfl, rfl⟩, fp1, q⟩
end
end Wc

set_option Elab.async false
set_option linter.all false
set_option maxRecDepth 100000
set_option maxHeartbeats 1000000
/-! Wc.Iter2: enumerate and zip over lists, tuples, texts. -/
namespace PySem
open Sem (wp)
set_option maxHeartbeats 2000000 in
theorem wcMeets_enum {v : Value} {o : Obj} {H : Heap → Prop} (B : Begins v o H) :
    Meets (Builtin.«enumerate.__new__» ⟨[.type "enumerate", v], []⟩) (fun _ R s => H s.heap ∧
      R (.ok (.ret (.ref (s.heap.push o).objs.size))) { s with heap := (s.heap.push o).push { cls := .type "enumerate", data := .fields #[.none, .bool false, .ref s.heap.objs.size, rawInt 0, .none, .none] } }) :=
  .of_wp fun prog w A R s h => by
    obtain ⟨hp, g, d, tk, os⟩ := s; obtain ⟨h1, h⟩ := h
    have hsub := sub_enumerate
    have q1 : ∀ {A' : Around} {E : Value → Shared → Prop} {Q : Value → Shared → Prop}, Q (.ref hp.objs.size) ⟨hp.push o, g, d, tk, os⟩ → wpAny (model prog w) A' (pyIter v) Q E ⟨hp, g, d, tk, os⟩ :=
      fun q => B.iter prog w _ _ ⟨hp, g, d, tk, os⟩ _ h1 q
    wp_walk using q1
    refine wpAny_stack_any fun st => wpAny_pure ?_
    split
    · rename_i c _ _ _ _ _
      cases (c == Value.type "enumerate")
      · wp_walk using q1
        exact ⟨_, rfl, h⟩
      · wp_walk using q1
        exact ⟨_, rfl, h⟩
    · wp_walk using q1
      exact ⟨_, rfl, h⟩
theorem wcCall_enum {prog : Program} {w : World} {A : Around} {E : Value → Shared → Prop} {s : Shared} {v : Value} {o : Obj} {H : Heap → Prop} {Q : Value → Shared → Prop} (B : Begins v o H) (h1 : H s.heap)
    (h : ∀ h', IsEnum h' (s.heap.objs.size + 1) s.heap.objs.size 0 .none → h'.get? s.heap.objs.size = some o → h'.objs.size = s.heap.objs.size + 2 →
      (∀ b o, s.heap.get? b = some o → h'.get? b = some o) → Q (.ref (s.heap.objs.size + 1)) { s with heap := h' }) :
    wpAny (model prog w) A (call (.type "enumerate") [v]) Q E s := by
  refine callType_new F.called_enumerate (by decide) (F.typeCall_enumerate_1 _) (F.newCall_enumerate_1 _) (fun obj => F.args_object_init_2 obj _) F.entry_enumerate_new (wcMeets_enum B) ⟨h1, ?_⟩
  have hz : (s.heap.push o).objs.size = s.heap.objs.size + 1 := Heap.size_push ..
  show _ ∧ _
  rw [hz]
  have he : IsEnum ((s.heap.push o).push { cls := .type "enumerate", data := .fields #[.none, .bool false, .ref s.heap.objs.size, rawInt 0, .none, .none] }) (s.heap.objs.size + 1) s.heap.objs.size 0 .none := by
    have := Heap.get?_push_size (s.heap.push o) (o := { cls := .type "enumerate", data := .fields #[.none, .bool false, .ref s.heap.objs.size, rawInt 0, .none, .none] }) rfl
    rw [hz] at this; exact this
  exact ⟨⟨_, he, rfl⟩, h _ he (Heap.get?_push_of_some _ (Heap.get?_push_size _ B.free)) (by rw [Heap.size_push, hz]) fun b o x => Heap.get?_push_of_some _ (Heap.get?_push_of_some _ x)⟩
end PySem
namespace Wc
open PySem PySem.Spec PyProof.Rows L2
/-- how its iterator begins -/
theorem Sc.begins {X : Cx} {pins : List (Addr × Obj)} {σ : L2.St} {H : Hp} {s : Shared} {c : Sc} {xs : List V} {u : Value} (I : Inv X pins σ H s) (h : c.Has X.K H xs) (r : RelV c.v u) :
    ∃ o Hh, Begins u o Hh ∧ Hh s.heap ∧ (∀ it h', h'.get? it = some o → c.At it 0 h') ∧ (∀ a, c.v = .ref a → a < s.heap.objs.size) := by
  cases c with
  | lst a =>
    obtain ⟨its, rv, p, _⟩ := I.list h
    obtain rfl : u = .ref a := r
    refine ⟨_, _, begins_list a its.toArray, p.isList, fun it h' e => ⟨_, e, rfl, rfl⟩, fun b e => ?_⟩
    cases e; exact p.lt
  | tup a =>
    obtain ⟨its, rv, p, _⟩ := I.tuple h
    obtain rfl : u = .ref a := r
    refine ⟨_, _, begins_tuple a its.toArray, p, fun it h' e => ⟨_, e, rfl, rfl⟩, fun b e => ?_⟩
    cases e
    obtain ⟨o, ho, _⟩ := id p
    exact Heap.lt_size ho
  | txt x =>
    obtain ⟨t, rfl⟩ := r
    exact ⟨_, _, begins_text x t, trivial, fun it h' e => ⟨t, _, e, rfl, rfl⟩, fun a e => by cases e⟩
/-! ### enumerate -/
def ItE (K : PySem.W.Frag) (c : Sc) : It :=
  ⟨fun i H => ∃ xs x, c.Has K H xs ∧ xs[i]? = some x, fun i H v H' => ∃ T x, v = .ref T ∧ H T = none ∧ H' = upd H T (.tup [.int (i : Nat), x]) ∧ ∀ xs, c.Has K H xs → xs[i]? = some x, fun i H => ∃ xs, c.Has K H xs ∧ xs.length = i⟩
theorem turn_en {P : Program} {w : World} {K : PySem.W.Frag} {elts : List Expr} {kk : Nat} {tpos : Pos} (c : Sc) (e it : Addr) :
    Turn P w K (.Tuple elts kk tpos) (ItE K c) [e, it] e (fun i h => (∃ old, IsEnum h e it ((i : Nat) : Int) old) ∧ c.At it i h ∧ e ≠ it ∧ c.v ≠ .ref e ∧ c.v ≠ .ref it) where
  mem := by simp
  obj := fun i h st b hb => by
    obtain ⟨⟨old, he⟩, hi, _⟩ := st
    have e' : b = e ∨ b = it := by simpa using hb
    rcases e' with z | z
    · rw [z]; exact ⟨_, he, fun v q => nomatch q⟩
    · rw [z]; exact hi.obj
  keep := fun i h h' st k => let ⟨⟨old, he⟩, hi, hne⟩ := st; ⟨⟨old, k e (by simp) _ he⟩, hi.at fun o q => k it (by simp) o q, hne⟩
  item := by
    intro X hP hw hK hc i pins s σ H E I hf st hg
    subst hP hw hK
    obtain ⟨⟨old, he⟩, hit, hne, n1, n2⟩ := st
    obtain ⟨xs, x, hq, hx⟩ := hg
    obtain ⟨fp, P, St, D, hP, st0, st1, hfp⟩ := Sc.draws (A := X.A.in1) I hq (I.ok.hd hc) n2 hit
    have hil : i < xs.length := (List.getElem?_eq_some_iff.mp hx).1
    have hef : e ∉ it :: fp := fun hm => by
      rcases List.mem_cons.mp hm with q | q
      · exact hne q
      · exact n1 (hfp e q)
    have W := WalksT.enumFrom 0 D e hne hef (List.mem_cons_self ..)
    simp only [Int.zero_add] at W
    refine W.item i s _ _ hil ⟨⟨old, he⟩, st0⟩ fun T vals h' tk hPt hT hIs hMid hk => ?_
    refine ⟨_, rfl, W.go elts kk tpos i T { s with heap := h', toks := tk } _ _ hMid fun h'' st'' hk'' => ?_⟩
    obtain ⟨t, u, hu, rfl⟩ := hPt
    obtain ⟨x', hx', ru⟩ := hP i u hu
    rw [hx] at hx'; cases hx'
    obtain ⟨o, ho, hc1, n, hd⟩ := hIs.at fun o q => hk'' T o (W.apart i T h' hMid) q
    have new : ObjOk X.prog X.w (upd H T (.tup [.int (i : Nat), x])) h'' T (.tup [.int (i : Nat), x]) :=
      ⟨by show 2 ≤ sizeLine; decide, [.int i t, u], .cons ⟨_, rfl⟩ (.cons ru .nil), ⟨o, ho, hc1, n, hd⟩⟩
    have I1 : Inv X pins σ (upd H T (.tup [.int (i : Nat), x])) { s with heap := h'', toks := tk } :=
      I.turnedNew (ch := [e, it]) (fun b ob hb q => hk'' b ob hb (hk b ob hb q)) hf hT new
    refine ⟨.ref T, _, I1, rfl, ⟨T, x, rfl, I.hok.fresh hT, rfl, fun ys hy => by rw [Sc.Has.inj I hy hq]; exact hx⟩, ⟨st''.1, st1 _ _ st''.2, hne, n1, n2⟩, fun b hb => ?_⟩
    have hb' : b < s.heap.objs.size := by
      have e' : b = e ∨ b = it := by simpa using hb
      rcases e' with z | z
      · rw [z]; exact Heap.lt_size he
      · rw [z]; obtain ⟨o, ho, _⟩ := hit.obj; exact Heap.lt_size ho
    rw [upd_ne (Nat.ne_of_lt (Nat.lt_of_lt_of_le hb' hT))]
    exact (hf b hb).1
  done := by
    intro X hP hw hK hc i pins s σ H E I hf st hg
    subst hP hw hK
    obtain ⟨⟨old, he⟩, hit, hne, n1, n2⟩ := st
    obtain ⟨xs, hq, rfl⟩ := hg
    obtain ⟨fp, P, St, D, hP, st0, st1, hfp⟩ := Sc.draws (A := X.A.in1) I hq (I.ok.hd hc) n2 hit
    have hef : e ∉ it :: fp := fun hm => by
      rcases List.mem_cons.mp hm with q | q
      · exact hne q
      · exact n1 (hfp e q)
    have W := WalksT.enumFrom 0 D e hne hef (List.mem_cons_self ..)
    simp only [Int.zero_add] at W
    refine W.done s _ _ ⟨⟨old, he⟩, st0⟩ fun h' tk hk => ⟨rfl, I.turnedL (t' := tk) (ch := [e, it]) (fun b o hb q => hk b o hb q) hf⟩
  self := fun A i s Q E st h => let ⟨⟨_, he⟩, _⟩ := st; wpAny_pyIter_enum he h
def iEn (K : PySem.W.Frag) (ta : TA) : TI := fun σ H R => ta σ H fun vs H1 => ∃ c xs, vs = [Sc.v c] ∧ c.Has K H1 xs ∧ R (ItE K c) H1
theorem pi_en {X : Cx} {e : Expr} {ta : TA} {p pos tpos : Pos} {elts : List Expr} {kk : Nat} (hg : Gl X "enumerate") (hm : X.mg "enumerate" = none) (ha : PA X [e] ta) (hs : starEach [e] X.env = [(false, eval e X.env)] := by rfl) :
    PI X (.Tuple elts kk tpos) (.Call (.Name "enumerate" p) [e] [] pos) (iEn X.K ta) := by
  refine ⟨fun pins s σ H R I h => ?_⟩
  refine Call_ (ld_blt I hg hm boot_enumerate (PyProof.Rows.callWith_type1 (thn (ha.run pos pins s σ H _ I h) fun us s1 ⟨vs, H1, I1, r1, q1⟩ => ?_) hs rfl))
  obtain ⟨c, xs, ex, hq, q⟩ := q1
  subst ex
  obtain ⟨u, rfl, r⟩ := vals1 r1
  obtain ⟨o, Hh, B, hB, at0, hlt⟩ := Sc.begins I1 hq r
  refine wcCall_enum B hB fun h' he hit hsz hk => wpAny_pyIter_enum he ?_
  have I2 : Inv X pins σ H1 { s1 with heap := h' } := I1.kept (t' := s1.toks) hk
  have ne : ∀ b, s1.heap.objs.size ≤ b → c.v ≠ .ref b := fun b hb e => absurd (hlt b e) (Nat.not_lt.mpr hb)
  refine ⟨s1.heap.objs.size + 1, [s1.heap.objs.size + 1, s1.heap.objs.size], _, _, H1, rfl, I2, turn_en c (s1.heap.objs.size + 1) s1.heap.objs.size, ⟨⟨.none, he⟩, at0 _ _ hit, Nat.succ_ne_self _, ne _ (Nat.le_succ _), ne _ (Nat.le_refl _)⟩, fun b hb => ?_, q⟩
  have e' : b = s1.heap.objs.size + 1 ∨ b = s1.heap.objs.size := by simpa using hb
  have hle : s1.heap.objs.size ≤ b := by
    rcases e' with z | z
    · rw [z]; exact Nat.le_add_right _ _
    · rw [z]; exact Nat.le_refl _
  exact I1.fpOk hle (I1.hok.fresh hle)
theorem ItE.walk {K : PySem.W.Frag} {xs : List V} (c : Sc) : L2.Walk (ItE K c) xs.length (fun H => c.Has K H xs) (YPair (fun i => some (.int (i : Nat))) (fun i => xs[i]?)) := by
  refine ⟨fun i _ hi q => ⟨xs, xs[i], q, by simp [hi]⟩, fun _ q => ⟨xs, q, rfl⟩, fun i H v H' _ q y => ?_⟩
  obtain ⟨T, x, h1, h2, h3, h4⟩ := y
  exact ⟨T, .int (i : Nat), x, h1, h2, h3, rfl, h4 xs q⟩
/-! ### zip -/
def ItZ (K : PySem.W.Frag) (c d : Sc) : It :=
  ⟨fun i H => ∃ (xs ys : List V) (x y : V), c.Has K H xs ∧ d.Has K H ys ∧ xs[i]? = some x ∧ ys[i]? = some y,
    fun i H v H' => ∃ T x y, v = .ref T ∧ H T = none ∧ H' = upd H T (.tup [x, y]) ∧ (∀ xs, c.Has K H xs → xs[i]? = some x) ∧ ∀ ys, d.Has K H ys → ys[i]? = some y,
    fun i H => ∃ xs ys : List V, c.Has K H xs ∧ d.Has K H ys ∧ i = min xs.length ys.length⟩
structure Apt (z TI TO i1 i2 : Addr) (c d : Sc) : Prop where
  TIz : TI ≠ z
  TOz : TO ≠ z
  TITO : TI ≠ TO
  TIi1 : TI ≠ i1
  TIi2 : TI ≠ i2
  z1 : z ≠ i1
  z2 : z ≠ i2
  T1 : TO ≠ i1
  T2 : TO ≠ i2
  i12 : i1 ≠ i2
  c : ∀ b, b = z ∨ b = TO ∨ b = i1 ∨ b = i2 → c.v ≠ .ref b
  d : ∀ b, b = z ∨ b = TO ∨ b = i1 ∨ b = i2 → d.v ≠ .ref b
theorem Apt.sep {z TI TO i1 i2 : Addr} {c d : Sc} (a : Apt z TI TO i1 i2 c d) {f1 f2 : List Addr} (h1 : ∀ b ∈ f1, c.v = .ref b) (h2 : ∀ b ∈ f2, d.v = .ref b) : ZipSep2 z TI TO i1 i2 (i1 :: f1) (i2 :: f2) := by
  have n1 : ∀ b, (b = z ∨ b = TO ∨ b = i1 ∨ b = i2) → b ≠ i1 → b ∉ i1 :: f1 := fun b hb ne hm => by
    rcases List.mem_cons.mp hm with q | q
    · exact ne q
    · exact a.c b hb (h1 b q)
  have n2 : ∀ b, (b = z ∨ b = TO ∨ b = i1 ∨ b = i2) → b ≠ i2 → b ∉ i2 :: f2 := fun b hb ne hm => by
    rcases List.mem_cons.mp hm with q | q
    · exact ne q
    · exact a.d b hb (h2 b q)
  exact { TIz := a.TIz, TOz := a.TOz, TITO := a.TITO, TIi1 := a.TIi1, mem1 := List.mem_cons_self .., zf1 := n1 z (by simp) a.z1, Tf1 := n1 TO (by simp) a.T1, TIi2 := a.TIi2, mem2 := List.mem_cons_self .., zf2 := n2 z (by simp) a.z2, Tf2 := n2 TO (by simp) a.T2, sep1_2 := n2 i1 (by simp) a.i12, sep2_1 := n1 i2 (by simp) (Ne.symm a.i12) }
theorem turn_zi {P : Program} {w : World} {K : PySem.W.Frag} {elts : List Expr} {kk : Nat} {tpos : Pos} {z TI TO i1 i2 : Addr} {c d : Sc} (a : Apt z TI TO i1 i2 c d) :
    Turn P w K (.Tuple elts kk tpos) (ItZ K c d) [z, TI, TO, i1, i2] z (fun i h => IsZip h z TI TO .none ∧ IsTupOf2 h TI (.ref i1) (.ref i2) ∧ (∃ x y, IsTupOf2 h TO x y) ∧ c.At i1 i h ∧ d.At i2 i h) where
  mem := by simp
  obj := fun i h st b hb => by
    obtain ⟨hz, hTI, ⟨x, y, hTO⟩, h1, h2⟩ := st
    have e' : b = z ∨ b = TI ∨ b = TO ∨ b = i1 ∨ b = i2 := by simpa using hb
    rcases e' with q | q | q | q | q
    · rw [q]; exact ⟨_, hz, fun v q => nomatch q⟩
    · rw [q]; exact ⟨_, hTI, fun v q => nomatch q⟩
    · rw [q]; exact ⟨_, hTO, fun v q => nomatch q⟩
    · rw [q]; exact h1.obj
    · rw [q]; exact h2.obj
  keep := fun i h h' st k => by
    obtain ⟨hz, hTI, ⟨x, y, hTO⟩, h1, h2⟩ := st
    exact ⟨k z (by simp) _ hz, k TI (by simp) _ hTI, ⟨x, y, k TO (by simp) _ hTO⟩, h1.at fun o q => k i1 (by simp) o q, h2.at fun o q => k i2 (by simp) o q⟩
  item := by
    intro X hP hw hK hc i pins s σ H E I hf st hg
    subst hP hw hK
    obtain ⟨hz, hTI, hTO, h1, h2⟩ := st
    obtain ⟨xs, ys, x, y, hqx, hqy, hx, hy⟩ := hg
    obtain ⟨fp1, P1, St1, D1, hP1, st01, st11, hfp1⟩ := Sc.draws (A := X.A.in1) I hqx (I.ok.hd hc) (a.c i1 (by simp)) h1
    obtain ⟨fp2, P2, St2, D2, hP2, st02, st12, hfp2⟩ := Sc.draws (A := X.A.in1) I hqy (I.ok.hd hc) (a.d i2 (by simp)) h2
    have hil : i < min xs.length ys.length := by
      have := (List.getElem?_eq_some_iff.mp hx).1
      have := (List.getElem?_eq_some_iff.mp hy).1
      omega
    have W := WalksT.zipD2 (a.sep hfp1 hfp2) D1 D2
    refine W.item i s _ _ hil ⟨hz, hTI, hTO, st01, st02⟩ fun T vals h' tk hPt hT hIs hMid hk => ?_
    refine ⟨_, rfl, W.go elts kk tpos i T { s with heap := h', toks := tk } _ _ hMid fun h'' st'' hk'' => ?_⟩
    obtain ⟨u, v, hu, hv, rfl⟩ := hPt
    obtain ⟨x', hx', ru⟩ := hP1 i u hu
    obtain ⟨y', hy', rv⟩ := hP2 i v hv
    rw [hx] at hx'; cases hx'
    rw [hy] at hy'; cases hy'
    obtain ⟨o, ho, hc1, n, hd⟩ := hIs.at fun o q => hk'' T o (W.apart i T h' hMid) q
    have new : ObjOk X.prog X.w (upd H T (.tup [x, y])) h'' T (.tup [x, y]) :=
      ⟨by show 2 ≤ sizeLine; decide, [u, v], .cons ru (.cons rv .nil), ⟨o, ho, hc1, n, hd⟩⟩
    have sub : ∀ b, b ∉ [z, TI, TO, i1, i2] → b ∉ [z, TO, i1, i2] := fun b hb hm => hb (by
      have e' : b = z ∨ b = TO ∨ b = i1 ∨ b = i2 := by simpa using hm
      rcases e' with q | q | q | q <;> simp [q])
    have I1 : Inv X pins σ (upd H T (.tup [x, y])) { s with heap := h'', toks := tk } :=
      I.turnedNew (ch := [z, TI, TO, i1, i2]) (fun b ob hb q => hk'' b ob (sub b hb) (hk b ob (sub b hb) q)) hf hT new
    refine ⟨.ref T, _, I1, rfl, ⟨T, x, y, rfl, I.hok.fresh hT, rfl, fun l hl => by rw [Sc.Has.inj I hl hqx]; exact hx, fun l hl => by rw [Sc.Has.inj I hl hqy]; exact hy⟩, ⟨st''.1, st''.2.1, st''.2.2.1, st11 _ _ st''.2.2.2.1, st12 _ _ st''.2.2.2.2⟩, fun b hb => ?_⟩
    have hb' : b < s.heap.objs.size := by
      obtain ⟨_, _, hTO⟩ := hTO
      have e' : b = z ∨ b = TI ∨ b = TO ∨ b = i1 ∨ b = i2 := by simpa using hb
      rcases e' with q | q | q | q | q
      · rw [q]; exact Heap.lt_size hz
      · rw [q]; exact Heap.lt_size hTI
      · rw [q]; exact Heap.lt_size hTO
      · rw [q]; obtain ⟨o, ho, _⟩ := h1.obj; exact Heap.lt_size ho
      · rw [q]; obtain ⟨o, ho, _⟩ := h2.obj; exact Heap.lt_size ho
    rw [upd_ne (Nat.ne_of_lt (Nat.lt_of_lt_of_le hb' hT))]
    exact (hf b hb).1
  done := by
    intro X hP hw hK hc i pins s σ H E I hf st hg
    subst hP hw hK
    obtain ⟨hz, hTI, hTO, h1, h2⟩ := st
    obtain ⟨xs, ys, hqx, hqy, rfl⟩ := hg
    obtain ⟨fp1, P1, St1, D1, hP1, st01, st11, hfp1⟩ := Sc.draws (A := X.A.in1) I hqx (I.ok.hd hc) (a.c i1 (by simp)) h1
    obtain ⟨fp2, P2, St2, D2, hP2, st02, st12, hfp2⟩ := Sc.draws (A := X.A.in1) I hqy (I.ok.hd hc) (a.d i2 (by simp)) h2
    have W := WalksT.zipD2 (a.sep hfp1 hfp2) D1 D2
    have sub : ∀ b, b ∉ [z, TI, TO, i1, i2] → b ∉ [z, TO, i1, i2] := fun b hb hm => hb (by
      have e' : b = z ∨ b = TO ∨ b = i1 ∨ b = i2 := by simpa using hm
      rcases e' with q | q | q | q <;> simp [q])
    exact W.done s _ _ ⟨hz, hTI, hTO, st01, st02⟩ fun h' tk hk => ⟨rfl, I.turnedL (t' := tk) (ch := [z, TI, TO, i1, i2]) (fun b o hb q => hk b o (sub b hb) q) hf⟩
  self := fun A i s Q E st h => wpAny_pyIter_zip st.1 h
def iZi (K : PySem.W.Frag) (ta : TA) : TI := fun σ H R => ta σ H fun vs H1 => ∃ c d xs ys, vs = [Sc.v c, Sc.v d] ∧ c.Has K H1 xs ∧ d.Has K H1 ys ∧ R (ItZ K c d) H1
theorem pi_zi {X : Cx} {e e2 : Expr} {ta : TA} {p pos tpos : Pos} {elts : List Expr} {kk : Nat} (hg : Gl X "zip") (hm : X.mg "zip" = none) (ha : PA X [e, e2] ta)
    (hs : starEach [e, e2] X.env = (false, eval e X.env) :: starEach [e2] X.env := by rfl) (hpl : (backTo pos (starEach [e2] X.env)).any (·.1) = false := by rfl) :
    PI X (.Tuple elts kk tpos) (.Call (.Name "zip" p) [e, e2] [] pos) (iZi X.K ta) := by
  refine ⟨fun pins s σ H R I h => ?_⟩
  refine Call_ (ld_blt I hg hm PyProof.Rows.boot_zip (PyProof.Rows.callWith_type1 (thn (ha.run pos pins s σ H _ I h) fun us s1 ⟨vs, H1, I1, r1, q1⟩ => ?_) hs hpl))
  obtain ⟨c, d, xs, ys, ex, hqx, hqy, q⟩ := q1
  subst ex
  cases r1 with
  | cons r rr =>
    cases rr with
    | cons r' rr =>
      cases rr
      obtain ⟨o1, Hh1, B1, hB1, at1, lt1⟩ := Sc.begins I1 hqx r
      obtain ⟨o2, Hh2, B2, hB2, at2, lt2⟩ := Sc.begins I1 hqy r'
      refine zip_begins2 B1 B2 hB1 hB2 fun h' hz hTI hTO h1 h2 hsz hk => wpAny_pyIter_zip hz ?_
      have I2 : Inv X pins σ H1 { s1 with heap := h' } := I1.kept (t' := s1.toks) hk
      have big : ∀ b, (b = s1.heap.objs.size + 4 ∨ b = s1.heap.objs.size + 3 ∨ b = s1.heap.objs.size ∨ b = s1.heap.objs.size + 1) → s1.heap.objs.size ≤ b := fun b hb => by
        rcases hb with z | z | z | z
        · rw [z]; exact Nat.le_add_right _ _
        · rw [z]; exact Nat.le_add_right _ _
        · rw [z]; exact Nat.le_refl _
        · rw [z]; exact Nat.le_add_right _ _
      have A : Apt (s1.heap.objs.size + 4) (s1.heap.objs.size + 2) (s1.heap.objs.size + 3) s1.heap.objs.size (s1.heap.objs.size + 1) c d := by
        generalize s1.heap.objs.size = N at *
        exact { TIz := show (N + 2 : Nat) ≠ N + 4 by omega, TOz := show (N + 3 : Nat) ≠ N + 4 by omega, TITO := show (N + 2 : Nat) ≠ N + 3 by omega, TIi1 := show (N + 2 : Nat) ≠ N by omega, TIi2 := show (N + 2 : Nat) ≠ N + 1 by omega, z1 := show (N + 4 : Nat) ≠ N by omega, z2 := show (N + 4 : Nat) ≠ N + 1 by omega, T1 := show (N + 3 : Nat) ≠ N by omega, T2 := show (N + 3 : Nat) ≠ N + 1 by omega, i12 := show (N : Nat) ≠ N + 1 by omega, c := fun b hb e => absurd (lt1 b e) (Nat.not_lt.mpr (big b hb)), d := fun b hb e => absurd (lt2 b e) (Nat.not_lt.mpr (big b hb)) }
      refine ⟨s1.heap.objs.size + 4, [s1.heap.objs.size + 4, s1.heap.objs.size + 2, s1.heap.objs.size + 3, s1.heap.objs.size, s1.heap.objs.size + 1], _, _, H1, rfl, I2, turn_zi A, ⟨hz, hTI, ⟨_, _, hTO⟩, at1 _ _ h1, at2 _ _ h2⟩, fun b hcm => ?_, q⟩
      have e' : b = s1.heap.objs.size + 4 ∨ b = s1.heap.objs.size + 2 ∨ b = s1.heap.objs.size + 3 ∨ b = s1.heap.objs.size ∨ b = s1.heap.objs.size + 1 := by simpa using hcm
      have hle : s1.heap.objs.size ≤ b := by
        rcases e' with z | z | z | z | z
        · rw [z]; exact Nat.le_add_right _ _
        · rw [z]; exact Nat.le_add_right _ _
        · rw [z]; exact Nat.le_add_right _ _
        · rw [z]; exact Nat.le_refl _
        · rw [z]; exact Nat.le_add_right _ _
      exact I1.fpOk hle (I1.hok.fresh hle)
theorem ItZ.walk {K : PySem.W.Frag} {xs ys : List V} (c d : Sc) : L2.Walk (ItZ K c d) (min xs.length ys.length) (fun H => c.Has K H xs ∧ d.Has K H ys) (YPair (fun i => xs[i]?) (fun i => ys[i]?)) := by
  refine ⟨fun i _ hi q => ?_, fun _ q => ⟨xs, ys, q.1, q.2, rfl⟩, fun i H v H' _ q y => ?_⟩
  · have h1 : i < xs.length := by omega
    have h2 : i < ys.length := by omega
    exact ⟨xs, ys, xs[i], ys[i], q.1, q.2, by simp [h1], by simp [h2]⟩
  · obtain ⟨T, x, z, h1, h2, h3, h4, h5⟩ := y
    exact ⟨T, x, z, h1, h2, h3, h4 xs q.1, h5 ys q.2⟩
end Wc

set_option Elab.async false
set_option linter.all false
set_option maxRecDepth 100000
set_option maxHeartbeats 1000000
/-! Wc.Loop: what is walked, by data; targets; statements. -/
namespace Wc
open PySem PySem.Spec PyProof.Rows L2
variable {O : Addr → Prop} {K : PySem.W.Frag} {Z Z' : Addr → Prop} {H H' : Hp} {own : List Nat} {T : Ent} {ρ : Env} {ω : Om} {σ : L2.St} {W : WX} {v : V} {vs : List V} {d : D} {ds : List D}
theorem give_cases (j : Nat) (ρ : Env) (ω : Om) : (∃ d, ω[j]? = some (some d) ∧ eGive j ρ ω = .ok d (ω.set j none)) ∨ eGive j ρ ω = .bad := by
  unfold eGive
  cases h : ω[j]? with
  | none => exact .inr rfl
  | some o => cases o with
    | none => exact .inr rfl
    | some d => exact .inl ⟨d, rfl, rfl⟩
/-- one turn's heap: as it was, or with one new object -/
def Near (H H' : Hp) : Prop := H' = H ∨ ∃ p o, H p = none ∧ H' = upd H p o
theorem Near.ext (n : Near H H') : Ext O Z H Z H' := by
  rcases n with rfl | ⟨p, o, hp, rfl⟩
  · exact .refl _ _
  · exact .new hp
theorem Near.sx (n : Near H H') (S : Sx K own T Z ρ ω σ H) : Sx K own T Z ρ ω σ H' := by
  rcases n with rfl | ⟨p, o, hp, rfl⟩
  · exact S
  · exact S.new hp
/-- J walks ds -/
structure Wk (K : PySem.W.Frag) (J : It) (Z : Addr → Prop) (H : Hp) (ds : List D) : Prop where
  len : ds.length ≤ LIM
  go : ∀ O i Z' H', Ext O Z H Z' H' → i < ds.length → J.go i H'
  stop : ∀ O Z' H', Ext O Z H Z' H' → J.stop ds.length H'
  yld : ∀ O i Z' H' x H'' d, Ext O Z H Z' H' → ds[i]? = some d → J.yld i H' x H'' → Near H' H'' ∧ Rp K Z' H'' x d
theorem Wk.of {J : It} {n : Nat} {G : Hp → Prop} {Y : Nat → Hp → V → Hp → Prop} (w : L2.Walk J n G Y) (hn : n = ds.length) (hl : ds.length ≤ LIM) (hG : ∀ O Z' H', Ext O Z H Z' H' → G H')
    (hy : ∀ O i Z' H' x H'' d, Ext O Z H Z' H' → ds[i]? = some d → Y i H' x H'' → Near H' H'' ∧ Rp K Z' H'' x d) : Wk K J Z H ds := by
  subst hn
  refine ⟨hl, fun O i Z' H' e hi => w.goes i H' hi (hG O Z' H' e), fun O Z' H' e => w.stops H' (hG O Z' H' e), fun O i Z' H' x H'' d e hd y => hy O i Z' H' x H'' d e hd ?_⟩
  exact w.yields i H' x H'' (List.getElem?_eq_some_iff.mp hd).1 (hG O Z' H' e) y
/-- a source, shared -/
theorem sc_of (r : Rp K Z H v d) (e : itemsD d = some ds) : ∃ c xs, v = Sc.v c ∧ RpA K Z H xs ds ∧ xs.length ≤ LIM ∧ ∀ O Z' H', Ext O Z H Z' H' → c.Has K H' xs := by
  cases r <;> simp only [itemsD] at e <;> try contradiction
  · rename_i x n
    cases e
    refine ⟨.txt x, chars x, rfl, ?_, by rw [show (chars x).length = x.length by simp [chars]; rfl]; exact n, fun _ _ _ _ => rfl⟩
    unfold chars
    generalize x.cps.toList = cs
    induction cs with
    | nil => exact .nil
    | cons c cs ih => exact .cons (.str _ (by show 1 ≤ 16777216; decide)) ih
  · rename_i a xs ds z r n q
    cases e
    exact ⟨.lst a, xs, rfl, q, n, fun O Z' H' e => .inl (.inl (e.h _ _ z r))⟩
  · rename_i a xs ds r n q
    cases e
    exact ⟨.tup a, xs, rfl, q, n, fun O Z' H' e => e.sq r⟩
theorem wk_sc {c : Sc} {xs : List V} (q : RpA K Z H xs ds) (n : xs.length ≤ LIM) (h : ∀ O Z' H', Ext O Z H Z' H' → c.Has K H' xs) : Wk K (c.J K) Z H ds := by
  refine .of c.walk q.length (q.length ▸ n) h fun O i Z' H' x H'' d e hd y => ?_
  obtain ⟨rfl, hx⟩ := y
  obtain ⟨v, h1, h2⟩ := q.get hd
  rw [hx] at h1; cases h1
  exact ⟨.inl rfl, h2.ext e⟩
theorem RpA.two {a b : V} {x y : D} (h1 : Rp K Z H a x) (h2 : Rp K Z H b y) : RpA K Z H [a, b] [x, y] := .cons h1 (.cons h2 .nil)
theorem near_pair {T' : Addr} {a b : V} {x y : D} (hT : H T' = none) (h1 : Rp K Z H a x) (h2 : Rp K Z H b y) : Near H (upd H T' (.tup [a, b])) ∧ Rp K Z (upd H T' (.tup [a, b])) (.ref T') (.tuple [x, y]) :=
  ⟨.inr ⟨T', _, hT, rfl⟩, .tup (.inl (.inl upd_same)) (by show 2 ≤ 16777216; decide) ((RpA.two h1 h2).ext (Ext.new (O := fun _ => False) hT))⟩
theorem enumFrom_len : ∀ (n : Nat) (ds : List D), (enumFrom n ds).length = ds.length
  | _, [] => rfl
  | n, d :: ds => by simp [enumFrom, enumFrom_len (n + 1) ds]
theorem enumFrom_get : ∀ (n : Nat) (ds : List D) (i : Nat), (enumFrom n ds)[i]? = (ds[i]?).map fun d => .tuple [.int (n + i : Nat), d]
  | n, [], i => by simp [enumFrom]
  | n, d :: ds, 0 => by simp [enumFrom]
  | n, d :: ds, i + 1 => by
    have := enumFrom_get (n + 1) ds i
    simp only [enumFrom, List.getElem?_cons_succ]
    rw [this, show n + 1 + i = n + (i + 1) by omega]
theorem wk_en {c : Sc} {xs : List V} (q : RpA K Z H xs ds) (n : xs.length ≤ LIM) (h : ∀ O Z' H', Ext O Z H Z' H' → c.Has K H' xs) : Wk K (ItE K c) Z H (enumFrom 0 ds) := by
  refine .of (ItE.walk (xs := xs) c) (by rw [enumFrom_len, q.length]) (by rw [enumFrom_len, ← q.length]; exact n) h fun O i Z' H' x H'' d e hd y => ?_
  obtain ⟨T', x', y', rfl, hT, rfl, h1, h2⟩ := y
  rw [enumFrom_get, Option.map_eq_some_iff] at hd
  obtain ⟨d', hd', rfl⟩ := hd
  obtain ⟨v, h3, h4⟩ := q.get hd'
  have h2 : xs[i]? = some y' := h2
  have h1 : some (V.int (i : Nat)) = some x' := h1
  rw [h2] at h3; cases h3
  cases h1
  rw [Nat.zero_add]
  exact near_pair hT (.int _) (h4.ext e)
theorem zipD_len : ∀ (xs ys : List D), (zipD xs ys).length = min xs.length ys.length
  | [], ys => by simp [zipD]
  | x :: xs, [] => by simp [zipD]
  | x :: xs, y :: ys => by simp [zipD, zipD_len xs ys]
theorem zipD_get : ∀ (xs ys : List D) (i : Nat) (d : D), (zipD xs ys)[i]? = some d → ∃ x y, xs[i]? = some x ∧ ys[i]? = some y ∧ d = .tuple [x, y]
  | [], ys, i, d, h => by simp [zipD] at h
  | x :: xs, [], i, d, h => by simp [zipD] at h
  | x :: xs, y :: ys, 0, d, h => by simp [zipD] at h; exact ⟨x, y, rfl, rfl, h.symm⟩
  | x :: xs, y :: ys, i + 1, d, h => by
    simp only [zipD, List.getElem?_cons_succ] at h
    simpa using zipD_get xs ys i d h
theorem wk_zi {c c2 : Sc} {xs ys : List V} {es : List D} (q : RpA K Z H xs ds) (n : xs.length ≤ LIM) (h : ∀ O Z' H', Ext O Z H Z' H' → c.Has K H' xs) (q2 : RpA K Z H ys es) (h2 : ∀ O Z' H', Ext O Z H Z' H' → c2.Has K H' ys) : Wk K (ItZ K c c2) Z H (zipD ds es) := by
  refine .of (ItZ.walk (xs := xs) (ys := ys) c c2) (by rw [zipD_len, q.length, q2.length]) (by rw [zipD_len, ← q.length]; exact Nat.le_trans (Nat.min_le_left _ _) n) (fun O Z' H' e => ⟨h O Z' H' e, h2 O Z' H' e⟩) fun O i Z' H' x H'' d e hd y => ?_
  obtain ⟨T', x', y', rfl, hT, rfl, h1, h2⟩ := y
  obtain ⟨d1, d2, e1, e2, rfl⟩ := zipD_get _ _ _ _ hd
  obtain ⟨v, h3, h4⟩ := q.get e1
  obtain ⟨u, h5, h6⟩ := q2.get e2
  have h1 : xs[i]? = some x' := h1
  have h2 : ys[i]? = some y' := h2
  rw [h1] at h3; cases h3
  rw [h2] at h5; cases h5
  exact near_pair hT (h4.ext e) (h6.ext e)
theorem intsFrom_len (lo : Int) : ∀ n, (intsFrom lo n).length = n
  | 0 => rfl
  | n + 1 => by simp [intsFrom, intsFrom_len (lo + 1) n]
theorem intsFrom_get : ∀ (n : Nat) (lo : Int) (i : Nat) (d : D), (intsFrom lo n)[i]? = some d → d = .int (lo + i)
  | 0, lo, i, d, h => by simp [intsFrom] at h
  | n + 1, lo, 0, d, h => by simp [intsFrom] at h; rw [← h]; simp
  | n + 1, lo, i + 1, d, h => by
    simp only [intsFrom, List.getElem?_cons_succ] at h
    rw [intsFrom_get n (lo + 1) i d h]
    congr 1; push_cast; omega
theorem intsBy_len (c : Int) : ∀ (n : Nat) (lo : Int), (intsBy lo c n).length = n
  | 0, _ => rfl
  | n + 1, lo => by simp [intsBy, intsBy_len c n (lo + c)]
theorem intsBy_get (c : Int) : ∀ (n : Nat) (lo : Int) (i : Nat) (d : D), (intsBy lo c n)[i]? = some d → d = .int (lo + (i : Nat) * c)
  | 0, lo, i, d, h => by simp [intsBy] at h
  | n + 1, lo, 0, d, h => by simp [intsBy] at h; rw [← h]; simp
  | n + 1, lo, i + 1, d, h => by
    simp only [intsBy, List.getElem?_cons_succ] at h
    rw [intsBy_get c n (lo + c) i d h]
    congr 1; push_cast; rw [Int.add_mul]; omega
theorem wk_range {lo : Int} {n : Nat} (h : n ≤ LIM) : Wk K (Itr lo n) Z H (intsFrom lo n) := by
  refine .of walk_range (intsFrom_len lo n).symm (by rw [intsFrom_len]; exact h) (fun _ _ _ _ => trivial) fun O i Z' H' x H'' d e hd y => ?_
  obtain ⟨rfl, rfl⟩ := y
  rw [intsFrom_get _ _ _ _ hd]
  exact ⟨.inl rfl, .int _⟩
theorem wk_by {lo c : Int} {n : Nat} (h : n ≤ LIM) : Wk K (Itc lo c n) Z H (intsBy lo c n) := by
  refine .of walk_rangeC (intsBy_len c n lo).symm (by rw [intsBy_len]; exact h) (fun _ _ _ _ => trivial) fun O i Z' H' x H'' d e hd y => ?_
  obtain ⟨rfl, rfl⟩ := y
  rw [intsBy_get _ _ _ _ _ hd]
  exact ⟨.inl rfl, .int _⟩
theorem PI.imp {X : Cx} {tg e : Expr} {t t' : L2.TI} (h : PI X tg e t) (i : ∀ σ H Q, t' σ H Q → t σ H Q) : PI X tg e t' := ⟨fun pins s σ H Q I q => h.run pins s σ H Q I (i σ H Q q)⟩
section
variable {X : Cx} {a b e : Expr} {fa fb : EE} {tg : Expr} {p pos tpos : Pos} {elts : List Expr} {kk i j : Nat} {x : Str}
abbrev vW (X : Cx) (own : List Nat) (T : Ent) (W : WX) (w : WW) : L2.TI := tG X.K X.mg own T W (fun Z H J ds => Wk X.K J Z H ds) w
theorem e_give (hj : own[j]? = some i) (np : T.pa.length ≤ j) (hN : X.N[i]? = some x) (hv : Vis X.env.scope x) (hd : (x == ("__debug__" : Str)) = false) (hcd : (x == ("__classdict__" : Str)) = false) : PE X (.Name x pos) (vE X own T W (eGive j)) := by
  refine PE.imp (pe_var hN hv hd hcd) fun σ H Q h => ?_
  obtain ⟨Z, ρ, ω, S, h⟩ := h
  rcases give_cases j ρ ω with ⟨d, hd, e⟩ | e
  · rw [e] at h
    obtain ⟨a, h1, _, c, _⟩ := S.ow j i d hj hd
    obtain ⟨S', r⟩ := S.letgo hj np hd h1
    exact ⟨.ref a, h1, h _ H _ (addZ_ext ⟨i, List.mem_of_getElem? hj, h1⟩) S' r⟩
  · rw [e] at h; exact h.elim
theorem w_of (ha : PE X a (vE X own T W fa)) : PI X tg a (vW X own T W (wOf fa)) := by
  refine PI.imp (pi_sc ha) fun σ H Q h => ?_
  refine tG.bind (k := fun x _ => M.lift (itemsD x)) h fun d ρ ω v H1 Z1 S1 r1 h1 => ?_
  obtain ⟨ds, eg, h3⟩ := h1.lift
  obtain ⟨c, xs, rfl, q, n, hc⟩ := sc_of r1 eg
  exact ⟨c, xs, rfl, hc (fun _ => False) _ _ (.refl _ _), h3 _ H1 Z1 (.refl _ _) S1 (wk_sc q n hc)⟩
theorem w_enum (hg : Gl X "enumerate") (hm : X.mg "enumerate" = none) (ha : PE X a (vE X own T W fa)) (hs : starEach [a] X.env = [(false, eval a X.env)]) : PI X (.Tuple elts kk tpos) (.Call (.Name "enumerate" p) [a] [] pos) (vW X own T W (wEnum fa)) := by
  refine PI.imp (pi_en hg hm (pa_cons ha pa_nil hs) hs) fun σ H Q h => ?_
  refine tG.bind (k := fun x _ => M.bind (M.lift (itemsD x)) fun xs => M.pure (enumFrom 0 xs)) h fun d ρ ω v H1 Z1 S1 r1 h1 => ?_
  cases eg : itemsD d with
  | none => simp only [M.bind, eg, M.lift] at h1; exact h1.elim
  | some ds =>
    simp only [M.bind, eg, M.lift] at h1
    obtain ⟨c, xs, rfl, q, n, hc⟩ := sc_of r1 eg
    exact ⟨c, xs, rfl, hc (fun _ => False) _ _ (.refl _ _), h1 _ H1 Z1 (.refl _ _) S1 (wk_en q n hc)⟩
theorem w_zip (hg : Gl X "zip") (hm : X.mg "zip" = none) (ha : PE X a (vE X own T W fa)) (hb : PE X b (vE X own T W fb)) (hs : starEach [a, b] X.env = (false, eval a X.env) :: starEach [b] X.env) (hs2 : starEach [b] X.env = (false, eval b X.env) :: starEach [] X.env) (hpl : (backTo pos (starEach [b] X.env)).any (·.1) = false) :
    PI X (.Tuple elts kk tpos) (.Call (.Name "zip" p) [a, b] [] pos) (vW X own T W (wZip fa fb)) := by
  refine PI.imp (pi_zi hg hm (pa_cons ha (pa_cons hb pa_nil hs2) hs) hs hpl) fun σ H Q h => ?_
  refine tG.bind (k := fun x ρ => M.bind (fb ρ) fun y => M.bind (M.lift (itemsD x)) fun xs => M.bind (M.lift (itemsD y)) fun ys => M.pure (zipD xs ys)) h fun d ρ ω v H1 Z1 S1 r1 h1 => ?_
  refine ⟨Z1, ρ, ω, S1, h1.bind fun d2 ω2 u H2 Z2 e2 S2 r2 h2 => ?_⟩
  cases eg : itemsD d with
  | none => simp only [M.bind, eg, M.lift] at h2; exact h2.elim
  | some ds =>
    cases eg2 : itemsD d2 with
    | none => simp only [M.bind, eg, eg2, M.lift] at h2; exact h2.elim
    | some es =>
      simp only [M.bind, eg, eg2, M.lift] at h2
      obtain ⟨c, xs, rfl, q, n, hc⟩ := sc_of (r1.ext e2) eg
      obtain ⟨c2, ys, rfl, q2, n2, hc2⟩ := sc_of r2 eg2
      exact ⟨c, c2, xs, ys, rfl, hc (fun _ => False) _ _ (.refl _ _), hc2 (fun _ => False) _ _ (.refl _ _), h2 _ H2 Z2 (.refl _ _) S2 (wk_zi q n hc q2 hc2)⟩
theorem in62_iff {i : Int} (h : in62 i = true) : -(2 ^ 62) ≤ i ∧ i < 2 ^ 62 := by
  unfold in62 at h
  rw [Bool.and_eq_true, decide_eq_true_eq, decide_eq_true_eq] at h
  exact h
theorem rgN_iff {i j : Int} {ds : List D} (h : rgN i j = some ds) : in62 i = true ∧ in62 j = true ∧ (j - i).toNat ≤ LIM ∧ ds = intsFrom i (j - i).toNat := by
  unfold rgN at h
  split at h
  · rename_i q
    rw [Bool.and_eq_true, Bool.and_eq_true] at q
    cases h
    exact ⟨q.1.1, q.1.2, by simpa using q.2, rfl⟩
  · cases h
/-- range(b) -/
theorem w_range1 (hg : Gl X "range") (hm : X.mg "range" = none) (hb : PE X b (vE X own T W fb)) (hs : starEach [b] X.env = [(false, eval b X.env)]) : PI X tg (.Call (.Name "range" p) [b] [] pos) (vW X own T W (wRange (eC (.int 0)) fb)) := by
  refine PI.imp (pi_range1 hg hm (pa_cons hb pa_nil hs) hs) fun σ H Q h => ?_
  obtain ⟨Z, ρ, ω, S, h⟩ := h
  refine ⟨Z, ρ, ω, S, Pg.bind (k := fun y => match y with | .int j => M.lift (rgN 0 j) | _ => fun _ => .bad) (R' := fun Z H J ds => Wk X.K J Z H ds) (Q' := Q) ?_ fun d ω2 u H2 Z2 e2 S2 r2 h2 => ?_⟩
  · have : (wRange (eC (.int 0)) fb ρ ω) = M.bind (fb ρ) (fun y => match y with | .int j => M.lift (rgN 0 j) | _ => fun _ => .bad) ω := by
      show M.bind (fb ρ) _ ω = _
      congr 1
      funext y; cases y <;> rfl
    rw [← this]; exact h
  · cases d with
    | int j =>
      obtain ⟨ds, eg, h3⟩ := h2.lift
      obtain ⟨_, q, n, rfl⟩ := rgN_iff eg
      cases r2
      have e : (j - 0).toNat = j.toNat := by rw [Int.sub_zero]
      refine ⟨j, rfl, (in62_iff q).1, (in62_iff q).2, h3 _ H2 Z2 (.refl _ _) S2 ?_⟩
      rw [e]; exact wk_range (e ▸ n)
    | _ => exact h2.elim
theorem w_range2 (hg : Gl X "range") (hm : X.mg "range" = none) (ha : PE X a (vE X own T W fa)) (hb : PE X b (vE X own T W fb)) (hs : starEach [a, b] X.env = [(false, eval a X.env), (false, eval b X.env)]) (hs2 : starEach [b] X.env = [(false, eval b X.env)]) (hs3 : starEach [a, b] X.env = (false, eval a X.env) :: starEach [b] X.env) :
    PI X tg (.Call (.Name "range" p) [a, b] [] pos) (vW X own T W (wRange fa fb)) := by
  refine PI.imp (pi_range2 hg hm (pa_cons ha (pa_cons hb pa_nil hs2) hs3) hs hs2) fun σ H Q h => ?_
  refine tG.bind (k := fun x ρ => M.bind (fb ρ) fun y => match x, y with | .int i, .int j => M.lift (rgN i j) | _, _ => fun _ => .bad) h fun d ρ ω v H1 Z1 S1 r1 h1 => ?_
  refine ⟨Z1, ρ, ω, S1, h1.bind fun d2 ω2 u H2 Z2 e2 S2 r2 h2 => ?_⟩
  cases d <;> cases d2 <;> first | exact h2.elim | skip
  cases r1
  cases r2
  obtain ⟨ds, eg, h3⟩ := h2.lift
  obtain ⟨q1, q, n, rfl⟩ := rgN_iff eg
  exact ⟨_, _, rfl, ⟨(in62_iff q1).1, (in62_iff q1).2, (in62_iff q).1, (in62_iff q).2⟩, h3 _ H2 Z2 (.refl _ _) S2 (wk_range n)⟩
end
end Wc

set_option Elab.async false
set_option linter.all false
set_option maxRecDepth 100000
set_option maxHeartbeats 1000000
/-! Wc.Comp: targets, comprehensions. -/
namespace Wc
open PySem PySem.Spec PyProof.Rows L2
variable {O : Addr → Prop} {K : PySem.W.Frag} {Z Z' : Addr → Prop} {H H' : Hp} {own : List Nat} {T : Ent} {ρ ρ' : Env} {ω ω' : Om} {σ : L2.St} {W : WX} {v : V} {vs : List V} {d : D} {ds : List D}
mutual
def gOf (K : PySem.W.Frag) : Tg → L2.TG
  | .nm i => gName i
  | .tup ts => gTup K ts.length (gOfs K ts)
def gOfs (K : PySem.W.Frag) : List Tg → L2.TGs
  | [] => gNil
  | t :: ts => gCons (gOf K t) (gOfs K ts)
end
mutual
def tgIx : Tg → List Nat
  | .nm i => [i]
  | .tup ts => tgIxs ts
def tgIxs : List Tg → List Nat
  | [] => []
  | t :: ts => tgIx t ++ tgIxs ts
end
/-- the slots that differ lie in l -/
def Agr (l : List Nat) (σ σ' : L2.St) : Prop := σ'.length = σ.length ∧ ∀ i, i ∉ l → σ'[i]? = σ[i]?
theorem Agr.refl (l : List Nat) (σ : L2.St) : Agr l σ σ := ⟨rfl, fun _ _ => rfl⟩
theorem Agr.trans {l l' : List Nat} {σ1 σ2 σ3 : L2.St} (a : Agr l σ1 σ2) (b : Agr l' σ2 σ3) : Agr (l ++ l') σ1 σ3 :=
  ⟨b.1.trans a.1, fun i h => (b.2 i fun m => h (List.mem_append_right _ m)).trans (a.2 i fun m => h (List.mem_append_left _ m))⟩
theorem Agr.mono {l l' : List Nat} {σ σ' : L2.St} (a : Agr l σ σ') (h : ∀ i ∈ l, i ∈ l') : Agr l' σ σ' := ⟨a.1, fun i n => a.2 i fun m => n (h i m)⟩
theorem wipe_in {i : Nat} : ∀ {vs : List Nat}, i ∈ vs → i < σ.length → (wipe σ vs)[i]? = some none
  | [], h, _ => by simp at h
  | w :: vs, h, hl => by
    unfold L2.wipe
    by_cases q : w = i
    · subst q; rw [List.getElem?_set_self (by rw [wipe_length]; exact hl)]
    · rw [List.getElem?_set_ne q]
      exact wipe_in ((List.mem_cons.mp h).resolve_left fun e => q e.symm) hl
theorem Agr.wipe {l : List Nat} {σ' : L2.St} (a : Agr l σ σ') : L2.wipe σ' l = L2.wipe σ l := by
  apply List.ext_getElem?
  intro i
  by_cases hi : i ∈ l
  · by_cases hl : i < σ.length
    · rw [wipe_in hi hl, wipe_in hi (by rw [a.1]; exact hl)]
    · rw [List.getElem?_eq_none (by rw [wipe_length, a.1]; omega), List.getElem?_eq_none (by rw [wipe_length]; omega)]
  · rw [wipe_at hi, wipe_at hi, a.2 i hi]
theorem agr_wipe (l : List Nat) (σ : L2.St) : Agr l σ (L2.wipe σ l) := ⟨wipe_length σ l, fun i h => wipe_at h⟩
mutual
theorem g_of : ∀ (t : Tg) {d : D} {ρ ρ' : Env} {v : V} {σ : L2.St} {Q : L2.St → Hp → Prop}, (∀ i ∈ tgIx t, i ∉ own) → bindT t d ρ = some ρ' → Sx K own T Z ρ ω σ H → Rp K Z H v d → (∀ σ', Sx K own T Z ρ' ω σ' H → Agr (tgIx t) σ σ' → Q σ' H) → gOf K t v σ H Q
  | .nm i, d, ρ, ρ', v, σ, Q, no, e, S, r, q => by
    unfold bindT at e
    cases e
    exact q _ (S.set (no i (by unfold tgIx; exact List.mem_cons_self)) r) ⟨List.length_set, fun j hj => List.getElem?_set_ne (fun e => hj (by unfold tgIx; rw [e]; exact List.mem_cons_self))⟩
  | .tup ts, d, ρ, ρ', v, σ, Q, no, e, S, r, q => by
    cases d <;> unfold bindT at e <;> try contradiction
    obtain ⟨a, xs, rfl, h, n, rr⟩ := (Rr.sh r).tuple
    unfold gOf
    have hl := gs_len ts e
    refine ⟨a, xs, rfl, h, by rw [rr.length, hl], ?_⟩
    exact gs_of ts (fun i hi => no i (by unfold tgIx; exact hi)) e S rr fun σ' S' ag => q σ' S' (by unfold tgIx; exact ag)
theorem gs_of : ∀ (ts : List Tg) {ds : List D} {ρ ρ' : Env} {vs : List V} {σ : L2.St} {Q : L2.St → Hp → Prop}, (∀ i ∈ tgIxs ts, i ∉ own) → bindTs ts ds ρ = some ρ' → Sx K own T Z ρ ω σ H → RpA K Z H vs ds → (∀ σ', Sx K own T Z ρ' ω σ' H → Agr (tgIxs ts) σ σ' → Q σ' H) → gOfs K ts vs σ H Q
  | [], ds, ρ, ρ', vs, σ, Q, no, e, S, r, q => by
    cases ds <;> unfold bindTs at e <;> try contradiction
    cases e
    cases r
    unfold gOfs
    exact ⟨rfl, q σ S (.refl _ _)⟩
  | t :: ts, ds, ρ, ρ', vs, σ, Q, no, e, S, r, q => by
    cases ds <;> unfold bindTs at e <;> try contradiction
    rename_i d ds
    rw [Option.bind_eq_some_iff] at e
    obtain ⟨ρ1, e1, e2⟩ := e
    cases r with
    | cons r1 r2 =>
      unfold gOfs
      refine ⟨_, _, rfl, ?_⟩
      refine g_of t (fun i hi => no i (by unfold tgIxs; exact List.mem_append_left _ hi)) e1 S r1 fun σ1 S1 a1 => ?_
      exact gs_of ts (fun i hi => no i (by unfold tgIxs; exact List.mem_append_right _ hi)) e2 S1 r2 fun σ2 S2 a2 => q σ2 S2 (by unfold tgIxs; exact a1.trans a2)
theorem gs_len : ∀ (ts : List Tg) {ds : List D} {ρ ρ' : Env}, bindTs ts ds ρ = some ρ' → ds.length = ts.length
  | [], ds, ρ, ρ', e => by cases ds <;> unfold bindTs at e <;> try contradiction
                           rfl
  | t :: ts, ds, ρ, ρ', e => by
    cases ds <;> unfold bindTs at e <;> try contradiction
    rw [Option.bind_eq_some_iff] at e
    obtain ⟨ρ1, e1, e2⟩ := e
    rw [List.length_cons, List.length_cons, gs_len ts e2]
end
section
variable {X : Cx} {a b e elt iter : Expr} {fa fb fe fk fv : EE} {w : WW} {t : Tg} {ts : List Tg} {tg : Expr} {es : List Expr} {p pos tpos : Pos} {k i j : Nat} {x : Str} {c : TT}
/-! targets -/
theorem g_nm (hN : X.N.Nodup) (hi : X.N[i]? = some x) (hx : Loc X.env.scope x) (hf : X.fn x = true ∨ X.env.scope.names.lookup x = some .local) : PG X (.Name x pos) (gOf X.K (.nm i)) := pg_name hN hi hx hf
theorem g_nil : PGs X [] (gOfs X.K []) := pgs_nil
theorem g_cons (h1 : PG X e (gOf X.K t)) (h2 : PGs X es (gOfs X.K ts)) (hs : (assignEach (e :: es) X.env).map (·.2) = assign e X.env :: (assignEach es X.env).map (·.2)) : PGs X (e :: es) (gOfs X.K (t :: ts)) := pgs_cons h1 h2 hs
theorem g_tup (hc : X.calm = true) (h : PGs X es (gOfs X.K ts)) (hn : (assignEach es X.env).length = ts.length) (hst : (assignEach es X.env).findIdx? (·.1) = none) : PG X (.Tuple es k pos) (gOf X.K (.tup ts)) := pg_tup hc h hn hst
/-! list comprehensions -/
def WF : WX := fun _ _ _ _ => False
theorem noEx_of {α β γ δ : Type} {mg : Str → Option Value} {R : (Addr → Prop) → Hp → β → α → Prop} {m : M α} {kk : α → M γ} {ds : γ} {ω ω' : Om} {σ : L2.St} {Q : β → Hp → Prop} (h : M.bind (noEx m) kk ω = .ok ds ω')
    (q : ∀ a ω1, m ω = .ok a ω1 → kk a ω1 = .ok ds ω' → ∀ b H' Z', Ext (Ow own σ) Z H Z' H' → Sx K own T Z' ρ ω1 σ H' → R Z' H' b a → Q b H') : Pg K mg own T WF R (m ω) ρ σ Z H Q := by
  unfold M.bind noEx at h
  cases e : m ω with
  | ok a ω1 => rw [e] at h; exact q a ω1 e h
  | ex x ω1 => rw [e] at h; cases h
  | bad => rw [e] at h; cases h
theorem noEx_cases {α : Type} (m : M α) (ω : Om) : (∃ a ω', m ω = .ok a ω' ∧ noEx m ω = .ok a ω') ∨ noEx m ω = .bad := by
  unfold noEx
  cases m ω with
  | ok a ω' => exact .inl ⟨a, ω', rfl, rfl⟩
  | ex x ω' => exact .inr rfl
  | bad => exact .inr rfl
/-- a turn: what must have come of it -/
theorem lcGo_cons {tg : Tg} {c : TT} {e : EE} {d : D} {r : Res (List D)} (h : lcGo tg c e ρ (d :: ds) ω = r) (nb : r ≠ .bad) : ∃ ρ' kk ω1, bindT tg d ρ = some ρ' ∧ c ρ' ω = .ok kk ω1 ∧
    ((kk = false ∧ lcGo tg c e ρ ds ω1 = r) ∨ (kk = true ∧ ∃ y ω2, e ρ' ω1 = .ok y ω2 ∧ M.bind (lcGo tg c e ρ ds) (fun ys => M.pure (y :: ys)) ω2 = r)) := by
  unfold lcGo at h
  cases q : bindT tg d ρ with
  | none => rw [q] at h; exact absurd h.symm nb
  | some ρ' =>
    rw [q] at h
    replace h : M.bind (noEx (c ρ')) (fun k => if k = true then M.bind (noEx (e ρ')) fun y => M.bind (lcGo tg c e ρ ds) fun ys => M.pure (y :: ys) else lcGo tg c e ρ ds) ω = r := h
    rcases noEx_cases (c ρ') ω with ⟨kk, ω1, h1, h2⟩ | h2
    · unfold M.bind at h
      rw [h2] at h
      refine ⟨ρ', kk, ω1, rfl, h1, ?_⟩
      cases kk with
      | false => exact .inl ⟨rfl, h⟩
      | true =>
        replace h : M.bind (noEx (e ρ')) (fun y => M.bind (lcGo tg c e ρ ds) fun ys => M.pure (y :: ys)) ω1 = r := h
        rcases noEx_cases (e ρ') ω1 with ⟨y, ω2, h3, h4⟩ | h4
        · unfold M.bind at h
          rw [h4] at h
          exact .inr ⟨rfl, y, ω2, h3, h⟩
        · unfold M.bind at h
          rw [h4] at h
          exact absurd h.symm nb
    · unfold M.bind at h
      rw [h2] at h
      exact absurd h.symm nb
theorem lcGo_noex (tg : Tg) (c : TT) (e : EE) (ρ : Env) : ∀ (xs : List D) (ω : Om) (x : Exn) (ω' : Om), lcGo tg c e ρ xs ω ≠ .ex x ω'
  | [], ω, x, ω' => by intro h; cases h
  | d :: ds, ω, x, ω' => by
    intro h
    obtain ⟨ρ', kk, ω1, _, _, h | ⟨_, y, ω2, _, h⟩⟩ := lcGo_cons h (by intro z; cases z)
    · exact lcGo_noex tg c e ρ ds ω1 x ω' h.2
    · unfold M.bind at h
      cases q : lcGo tg c e ρ ds ω2 with
      | ok ys ω3 => rw [q] at h; cases h
      | ex x' ω3 => exact lcGo_noex tg c e ρ ds ω2 x' ω3 q
      | bad => rw [q] at h; cases h
/-- the block's contexts -/
abbrev Blk (X : Cx) (scope : Scope) (P : Cx → Prop) : Prop := ∀ (s : Shared) (H : Hp) (C : Addr) (cl : List (Str × Addr)) (fp : List Addr), P (X.blk s H scope (compEnvC scope cl C X.env) fp)
/-- the list being made -/
structure LcI (K : PySem.W.Frag) (own : List Nat) (T : Ent) (ρ : Env) (σ : L2.St) (vs : List Nat) (Z0 : Addr → Prop) (H0 : Hp) (L : Addr) (Z : Addr → Prop) (H : Hp) (ω : Om) (acc : List V) (ac : List D) (i : Nat) : Prop where
  e : Ext (fun a => Ow own σ a ∨ a = L) Z0 H0 Z H
  S : Sx K own T Z (wipeE ρ vs) ω (L2.wipe σ vs) H
  d : H L = some (.lst acc)
  nz : ¬ Z L
  q : RpA K Z H acc ac
  n : acc.length ≤ i
theorem Ow.wipe {vs : List Nat} (no : ∀ i ∈ own, i ∉ vs) : Ow own (L2.wipe σ vs) = Ow own σ := by
  funext a
  refine propext ⟨fun ⟨i, hi, e⟩ => ⟨i, hi, by rw [wipe_at (no i hi)] at e; exact e⟩, fun ⟨i, hi, e⟩ => ⟨i, hi, by rw [wipe_at (no i hi)]; exact e⟩⟩
theorem Ow.agr {l : List Nat} {σ' : L2.St} (a : Agr l σ σ') (no : ∀ i ∈ own, i ∉ l) : Ow own σ' = Ow own σ := by
  funext b
  refine propext ⟨fun ⟨i, hi, e⟩ => ⟨i, hi, by rw [a.2 i (no i hi)] at e; exact e⟩, fun ⟨i, hi, e⟩ => ⟨i, hi, by rw [a.2 i (no i hi)]; exact e⟩⟩
/-- an evaluation within the block: the list stays -/
theorem LcI.step {vs : List Nat} {Z0 : Addr → Prop} {H0 : Hp} {L : Addr} {acc : List V} {ac : List D} {i : Nat} {ρ2 : Env} {σ2 : L2.St} {H1 : Hp} (I : LcI K own T ρ σ vs Z0 H0 L Z H ω acc ac i) (nw : ¬ Ow own σ L) (no : ∀ i ∈ own, i ∉ vs)
    (n : Near H H1) (hl : H L ≠ none) (a2 : Agr vs (L2.wipe σ vs) σ2) (e : Ext (Ow own σ2) Z H1 Z' H') (S' : Sx K own T Z' ρ2 ω' σ2 H') : LcI K own T ρ σ vs Z0 H0 L Z' H' ω' acc ac i ∧ L2.wipe σ2 vs = L2.wipe σ vs := by
  have eo : Ow own σ2 = Ow own σ := (Ow.agr a2 no).trans (Ow.wipe no)
  rw [eo] at e
  have hd1 : H1 L = some (.lst acc) := by
    rcases n with rfl | ⟨p, o, hp, rfl⟩
    · exact I.d
    · rw [upd_ne (ne_of_none I.d hp)]; exact I.d
  have e1 : Ext (Ow own σ) Z H Z' H' := n.ext.trans e
  refine ⟨⟨I.e.trans (e1.weak fun _ h => .inl h), ?_, e.f L _ hd1 nw (fun _ z => by cases z), fun z => ?_, I.q.ext e1, I.n⟩, ?_⟩
  · have a3 : Agr vs σ (L2.wipe σ vs) := agr_wipe vs σ
    have a4 : ∀ i ∈ own, (L2.wipe σ vs)[i]? = σ2[i]? := fun i hi => (a2.2 i (no i hi)).symm
    exact (I.S).back e1 S' fun i hi => (a4 i hi).symm
  · exact I.nz (e1.g L _ z nw I.d (fun _ z => by cases z))
  · rw [a2.wipe]
    exact (agr_wipe vs σ).wipe
/-- a list or a dict of one's own -/
inductive LD : HO → Prop
  | lst (xs : List V) : LD (.lst xs)
  | dic (kvs : List (Key × V)) : LD (.dK kvs)
theorem Ext.touch {L : Addr} {o o' : HO} (hL : H L = some o) (l : LD o) (nz : ¬ Z L) : Ext (fun b => b = L) Z H Z (upd H L o') :=
  ⟨fun _ h => h, fun b u z h => by rw [upd_ne (by rintro rfl; exact nz z)]; exact h,
    fun b u m h => by
      rw [upd_ne]
      · exact h
      · rintro rfl
        rw [hL] at h; cases h
        cases l <;> exact m,
    fun b u h n _ => by rw [upd_ne n]; exact h, fun _ _ z _ _ _ => z⟩
theorem Sx.touch {L : Addr} {o o' : HO} (S : Sx K own T Z ρ ω σ H) (hL : H L = some o) (l : LD o) (nz : ¬ Z L) (f : T.H0 L = none) (nw : ¬ Ow own σ L) : Sx K own T Z ρ ω σ (upd H L o') := by
  have e : Ext (fun b => b = L) Z H Z (upd H L o') := .touch hL l nz
  have ne : ∀ {b u}, H b = some u → ¬ LD u → b ≠ L := fun {b u} h n q => by subst q; rw [hL] at h; cases h; exact n l
  refine ⟨S.len, S.nd, fun i d h => ?_, S.wl, fun j i d h1 h2 => ?_, S.dj, fun a z => ?_, S.z0, S.zz, fun a u h m t => ?_, S.par, ?_, S.kt0, fun a h => ?_, S.ol⟩
  · obtain ⟨ni, v, h1, h2⟩ := S.sh i d h
    exact ⟨ni, v, h1, h2.ext e⟩
  · obtain ⟨a, h3, nz', c, f'⟩ := S.ow j i d h1 h2
    have : a ≠ L := fun q => nw ⟨i, List.mem_of_getElem? h1, q ▸ h3⟩
    exact ⟨a, h3, nz', c.ext e fun o h => by rw [upd_ne this]; exact h, f'⟩
  · obtain ⟨u, h, nt⟩ := S.zd a z
    exact ⟨u, e.h a u z h, nt⟩
  · rw [upd_ne]
    · exact S.keep a u h m t
    · rintro rfl; rw [f] at h; cases h
  · intro p hp
    obtain ⟨ps, h1, h2, h3⟩ := S.tabs p hp
    refine ⟨ps, by rw [upd_ne (ne h1 (by intro z; cases z))]; exact h1, h2, fun pos cv hc => ?_⟩
    obtain ⟨c1, e1, e2⟩ := h3 pos cv hc
    exact ⟨c1, e1, by rw [upd_ne (ne e2 (by intro z; cases z))]; exact e2⟩
  · obtain ⟨u, hu, n⟩ := S.st a h
    have : a ≠ L := fun q => nw (q ▸ h)
    exact ⟨u, by rw [upd_ne this]; exact hu, n⟩
theorem LcI.push {vs : List Nat} {Z0 : Addr → Prop} {H0 : Hp} {L : Addr} {acc : List V} {ac : List D} {i : Nat} {y : V} {dy : D} (I : LcI K own T ρ σ vs Z0 H0 L Z H ω acc ac i) (r : Rp K Z H y dy) (f : T.H0 L = none) (nw : ¬ Ow own σ L) (no : ∀ i ∈ own, i ∉ vs) :
    LcI K own T ρ σ vs Z0 H0 L Z (upd H L (.lst (acc ++ [y]))) ω (acc ++ [y]) (ac ++ [dy]) (i + 1) := by
  have e : Ext (fun b => b = L) Z H Z (upd H L (.lst (acc ++ [y]))) := .touch I.d (.lst _) I.nz
  exact ⟨I.e.trans (e.weak fun _ h => .inr h), I.S.touch I.d (.lst _) I.nz f (by rw [Ow.wipe no]; exact nw), upd_same, I.nz, (I.q.append (.cons r .nil)).ext e, by rw [List.length_append]; exact Nat.succ_le_succ I.n⟩
theorem LcI.next {vs : List Nat} {Z0 : Addr → Prop} {H0 : Hp} {L : Addr} {acc : List V} {ac : List D} {i : Nat} (I : LcI K own T ρ σ vs Z0 H0 L Z H ω acc ac i) : LcI K own T ρ σ vs Z0 H0 L Z H ω acc ac (i + 1) := ⟨I.e, I.S, I.d, I.nz, I.q, Nat.le_succ_of_le I.n⟩
/-- what was made within is shared from now on -/
theorem made {L : Addr} {o : HO} {Z1 : Addr → Prop} {H1 : Hp} {vs : List Nat} (S : Sx K own T Z1 ρ ω σ H1) (hL : H1 L = none) (e : Ext (fun a => Ow own σ a ∨ a = L) Z1 H1 Z H) (S' : Sx K own T Z (wipeE ρ vs) ω' (L2.wipe σ vs) H) (hd : H L = some o) (no : ∀ i ∈ own, i ∉ vs) (nt : ∀ ps, o ≠ .tbl ps := by intro _ h; cases h) :
    Ext (Ow own σ) Z1 H1 (addZ Z L) H ∧ Sx K own T (addZ Z L) ρ ω' σ H := by
  have f0 : T.H0 L = none := S.fresh0 hL
  have nw : ¬ Ow own σ L := fun h => by
    obtain ⟨o, ho, _⟩ := S.st L h
    rw [hL] at ho; cases ho
  have S2 : Sx K own T Z ρ ω' σ H := S.back e S' fun i hi => wipe_at (no i hi)
  refine ⟨⟨fun a z => .inl (e.z a z), e.h, e.t, fun a u h n t => e.f a u h (fun q => q.elim n fun q => by rw [q, hL] at h; cases h) t, fun a u z n h t => z.elim (fun z => e.g a u z (fun q => q.elim n fun q => by rw [q, hL] at h; cases h) h t) fun q => by rw [q, hL] at h; cases h⟩, ?_⟩
  exact S2.still hd f0 (nt := nt) fun j i d h1 h2 h3 => nw ⟨i, List.mem_of_getElem? h1, h3⟩
theorem lc_end {L : Addr} {Z1 : Addr → Prop} {H1 : Hp} {vs : List Nat} {acc : List V} {ac : List D} {mg : Str → Option Value} {Q : VK} {n : Nat} (S : Sx K own T Z1 ρ ω σ H1) (hL : H1 L = none) (no : ∀ i ∈ own, i ∉ vs) (I : LcI K own T ρ σ vs Z1 H1 L Z H ω' acc ac n) (hn : n ≤ LIM)
    (h : Pg K mg own T W (Rp K) (.ok (.list ac) ω') ρ σ Z1 H1 Q) : Q (.ref L) H := by
  obtain ⟨e, S'⟩ := made S hL I.e I.S I.d no
  exact h _ H _ e S' (.lst (.inr rfl) I.d (Nat.le_trans I.n hn) (I.q.ext (Ext.weak (O := fun _ => True) ⟨fun _ h => .inl h, fun _ _ _ h => h, fun _ _ _ h => h, fun _ _ h _ _ => h, fun _ _ _ n => (n trivial).elim⟩ fun _ h => h)))
theorem tLc_run {t : Tg} {c : TT} {fe : EE} {vs : List Nat} {tt : L2.TT} {te : L2.TE} {mg : Str → Option Value} {J : It} {Z1 : Addr → Prop} {H1 : Hp} {ds : List D} {Q : VK}
    (ht : tt = tG K mg own T WF (fun _ _ (b a : Bool) => b = a) c) (he : te = tG K mg own T WF (Rp K) fe) (hT : ∀ i ∈ tgIx t, i ∈ vs) (no : ∀ i ∈ own, i ∉ vs)
    (wk : Wk K J Z1 H1 ds) (S : Sx K own T Z1 ρ ω σ H1) (h : Pg K mg own T W (Rp K) (M.bind (lcGo t c fe (wipeE ρ vs) ds) (fun ys => M.pure (.list ys)) ω) ρ σ Z1 H1 Q) (L : Addr) (hL : H1 L = none) :
    ∃ W : Nat → Nat → Hp → Prop, (∃ m, W 0 m (upd H1 L (.lst []))) ∧ ∀ i m H, W i m H →
      (J.stop i H ∧ Q (.ref L) H) ∨ (J.go i H ∧ ∃ Nx : Hp → Prop, (∀ H', Nx H' → ∃ m', m' < m ∧ W (i + 1) m' H') ∧ ∀ x H', J.yld i H x H' → gOf K t x (L2.wipe σ vs) H' fun σ2 H2 => L2.wipe σ2 vs = L2.wipe σ vs ∧ tt σ2 H2 fun b H3 =>
        if b = true then te σ2 H3 fun y H4 => ∃ acc, H4 L = some (.lst acc) ∧ acc.length < sizeLine ∧ Nx (upd H4 L (.lst (acc ++ [y]))) else Nx H3) := by
  subst ht he
  have f0 : T.H0 L = none := S.fresh0 hL
  have nw : ¬ Ow own σ L := fun h => by
    obtain ⟨o, ho, _⟩ := S.st L h
    rw [hL] at ho; cases ho
  -- what must come of the whole
  obtain ⟨ys, ω', hr⟩ : ∃ ys ω', lcGo t c fe (wipeE ρ vs) ds ω = .ok ys ω' := by
    unfold M.bind at h
    cases q : lcGo t c fe (wipeE ρ vs) ds ω with
    | ok ys ω' => exact ⟨ys, ω', rfl⟩
    | ex x ω' => exact absurd q (lcGo_noex _ _ _ _ _ _ _ _)
    | bad => rw [q] at h; exact h.elim
  unfold M.bind at h
  rw [hr] at h
  -- the invariant
  let Inv' : Nat → Hp → Prop := fun i H => ∃ Z ωi acc ac ys', i ≤ ds.length ∧ LcI K own T ρ σ vs Z1 H1 L Z H ωi acc ac i ∧ lcGo t c fe (wipeE ρ vs) (ds.drop i) ωi = .ok ys' ω' ∧ ac ++ ys' = ys
  refine ⟨fun i m H => m = ds.length - i ∧ Inv' i H, ⟨ds.length, by simp, Z1, ω, [], [], ys, Nat.zero_le _, ⟨(Ext.new hL), ?_, upd_same, fun z => ?_, .nil, Nat.le_refl _⟩, by simpa using hr, by simp⟩, ?_⟩
  · exact (S.wipe no).new hL
  · obtain ⟨o, ho, _⟩ := S.zd L z
    rw [hL] at ho; cases ho
  rintro i m H ⟨rfl, Z, ωi, acc, ac, ys', hi, I, hr', hy⟩
  have S1 : Sx K own T Z (wipeE ρ vs) ωi (L2.wipe σ vs) H := I.S
  by_cases hlt : i < ds.length
  · refine .inr ⟨wk.go _ i Z H I.e hlt, Inv' (i + 1), fun H' p => ⟨ds.length - (i + 1), by omega, rfl, p⟩, fun x H' y => ?_⟩
    have hd : ds[i]? = some ds[i] := List.getElem?_eq_getElem hlt
    obtain ⟨near, rx⟩ := wk.yld _ i Z H x H' _ I.e hd y
    have hdrop : ds.drop i = ds[i] :: ds.drop (i + 1) := List.drop_eq_getElem_cons hlt
    rw [hdrop] at hr'
    obtain ⟨ρ', kk, ω1, b1, b2, b3⟩ := lcGo_cons hr' (by intro z; cases z)
    refine g_of t (fun j hj ho => no j ho (hT j hj)) b1 (near.sx S1) rx fun σ2 S2 ag => ?_
    have ag' := ag.mono hT
    have zz : L2.wipe σ2 vs = L2.wipe σ vs := by rw [ag'.wipe]; exact (agr_wipe vs σ).wipe
    refine ⟨zz, Z, ρ', ωi, S2, ?_⟩
    rw [b2]
    intro b H3 Z3 e3 S3 rb
    subst rb
    obtain ⟨I3, _⟩ := I.step nw no near (by rw [I.d]; exact fun z => by cases z) ag' e3 S3
    rcases b3 with ⟨rfl, b3⟩ | ⟨rfl, dy, ω2, b4, b5⟩
    · rw [if_neg Bool.false_ne_true]
      exact ⟨Z3, ω1, acc, ac, ys', hlt, I3.next, b3, hy⟩
    · rw [if_pos rfl]
      refine ⟨Z3, ρ', ω1, S3, ?_⟩
      rw [b4]
      intro yv H4 Z4 e4 S4 r4
      obtain ⟨I4, _⟩ := I3.step (H1 := H3) nw no (.inl rfl) (by rw [I3.d]; exact fun z => by cases z) ag' e4 S4
      unfold M.bind at b5
      cases q : lcGo t c fe (wipeE ρ vs) (ds.drop (i + 1)) ω2 with
      | ok ys2 ω3 =>
        rw [q] at b5
        cases b5
        refine ⟨acc, I4.d, lim_lt (Nat.lt_of_le_of_lt I4.n (Nat.lt_of_lt_of_le hlt wk.len)), Z4, ω2, _, _, ys2, hlt, I4.push r4 f0 nw no, q, ?_⟩
        rw [List.append_assoc]; exact hy
      | ex x ω3 => exact absurd q (lcGo_noex _ _ _ _ _ _ _ _)
      | bad => rw [q] at b5; cases b5
  · have e : i = ds.length := by omega
    subst e
    rw [List.drop_length] at hr'
    cases hr'
    rw [List.append_nil] at hy
    subst hy
    refine .inl ⟨wk.stop _ Z H I.e, ?_⟩
    -- the list stands still from now on
    exact lc_end S hL no I wk.len h
theorem e_lc {scope : Scope} {own' : List (Str × Nat)} {ifs : List Expr} {vs : List Nat} (C : Cf X W k) (hi : PI X tg iter (vW X own T W w)) (ok : BlkOk X.N X.env.scope scope own')
    (hg : Blk X scope fun B => PG B tg (gOf X.K t)) (ht : Blk X scope fun B => PTs B ifs (vT B own T WF c)) (he : Blk X scope fun B => PE B elt (vE B own T WF fe)) (hv : vs = own'.map (·.2)) (hT : ∀ i ∈ tgIx t, i ∈ vs) (no : ∀ i ∈ own, i ∉ vs)
    (hs : ∀ x, foldedSetIterable iter X.env x = pure x) : PE X (.ListComp elt [⟨tg, iter, ifs, 0⟩] scope pos) (vE X own T W (eLc w t c fe vs)) := by
  refine PE.imp (pe_lc (tt := tG X.K X.mg own T WF (fun _ _ (b a : Bool) => b = a) c) (te := tG X.K X.mg own T WF (Rp X.K) fe) C.calm C.nd hi ok hg ht he hs) fun σ H Q h => ?_
  rw [← hv]
  refine tG.bind (k := fun xs ρ => M.bind (lcGo t c fe (wipeE ρ vs) xs) fun ys => M.pure (PyData.list ys)) h fun ds ρ ω J H1 Z1 S1 wk h1 => ?_
  intro L hL
  exact tLc_run rfl rfl hT no wk S1 h1 L hL
theorem ts_nil {B : Cx} : PTs B [] (vT B own T WF tYes) := ⟨fun pins s σ H Q I h => pts_nil.run pins s σ H Q I (by
  obtain ⟨Z, ρ, ω, S, h⟩ := h
  exact h true H Z (.refl _ _) S rfl)⟩
theorem ts_one {B : Cx} {c' : Expr} (h : PT B c' (vT B own T WF c)) : PTs B [c'] (vT B own T WF c) := pts_one h
end
end Wc

set_option Elab.async false
set_option linter.all false
set_option maxRecDepth 100000
set_option maxHeartbeats 1000000
/-! Wc.Comp2: dict comprehensions. -/
namespace Wc
open PySem PySem.Spec PyProof.Rows L2
variable {O : Addr → Prop} {K : PySem.W.Frag} {Z Z' : Addr → Prop} {H H' : Hp} {own : List Nat} {T : Ent} {ρ ρ' : Env} {ω ω' : Om} {σ : L2.St} {W : WX} {v : V} {vs : List V} {d : D} {ds : List D}
theorem RpK.any (k : Key) : ∀ {kvs : List (Key × V)} {es : List (D × D)}, RpK K Z H kvs es → (kvs.any fun kv => decide (kv.1 = k)) = es.any fun kv => PyData.eqv kv.1 (kD k)
  | [], [], .nil => rfl
  | (k', v) :: kvs, (_, d) :: es, .cons h t => by
    rw [List.any_cons, List.any_cons, RpK.any k t]
    show (decide (k' = k) || _) = (PyData.eqv (kD k') (kD k) || _)
    rw [eqv_kD]
theorem RpK.repl (k : Key) {z : V} {dz : D} (r : Rp K Z H z dz) : ∀ {kvs : List (Key × V)} {es : List (D × D)}, RpK K Z H kvs es → RpK K Z H (kvs.map fun kv => if kv.1 = k then (kv.1, z) else kv) (es.map fun kv => if PyData.eqv kv.1 (kD k) then (kv.1, dz) else kv)
  | [], [], .nil => .nil
  | (k', v) :: kvs, (_, d) :: es, .cons h t => by
    rw [List.map_cons, List.map_cons]
    show RpK K Z H ((if k' = k then (k', z) else (k', v)) :: _) ((if PyData.eqv (kD k') (kD k) = true then (kD k', dz) else (kD k', d)) :: _)
    rw [eqv_kD]
    by_cases q : k' = k
    · rw [if_pos q, if_pos (decide_eq_true q)]
      exact .cons r (RpK.repl k r t)
    · rw [if_neg q, if_neg (by rw [decide_eq_false q]; exact Bool.false_ne_true)]
      exact .cons h (RpK.repl k r t)
theorem RpK.snoc (k : Key) {z : V} {dz : D} (r : Rp K Z H z dz) : ∀ {kvs : List (Key × V)} {es : List (D × D)}, RpK K Z H kvs es → RpK K Z H (kvs ++ [(k, z)]) (es ++ [(kD k, dz)])
  | [], [], .nil => .cons r .nil
  | (k', v) :: kvs, (_, d) :: es, .cons h t => .cons h (RpK.snoc k r t)
theorem RpK.put {k : Key} {z : V} {dz : D} {kvs : List (Key × V)} {es : List (D × D)} (q : RpK K Z H kvs es) (r : Rp K Z H z dz) : RpK K Z H (putK kvs k z) (dput es (kD k) dz) := by
  unfold putK dput
  rw [RpK.any k q]
  by_cases h : (es.any fun kv => PyData.eqv kv.1 (kD k)) = true
  · rw [if_pos h, if_pos h]; exact RpK.repl k r q
  · rw [if_neg h, if_neg h]; exact RpK.snoc k r q
/-- a turn: what must have come of it -/
theorem dcGo_cons {tg : Tg} {ke ve : EE} {d : D} {acc : List (D × D)} {r : Res (List (D × D))} (h : dcGo tg ke ve ρ (d :: ds) acc ω = r) (nb : r ≠ .bad) : ∃ ρ' kd ω1 vd ω2, bindT tg d ρ = some ρ' ∧ ke ρ' ω = .ok kd ω1 ∧ ve ρ' ω1 = .ok vd ω2 ∧ (∃ kk, keyOf kd = some kk) ∧ dcGo tg ke ve ρ ds (dput acc kd vd) ω2 = r := by
  unfold dcGo at h
  cases q : bindT tg d ρ with
  | none => rw [q] at h; exact absurd h.symm nb
  | some ρ' =>
    rw [q] at h
    replace h : M.bind (noEx (ke ρ')) (fun kd => M.bind (noEx (ve ρ')) fun vd => match keyOf kd with | none => fun _ => .bad | some _ => dcGo tg ke ve ρ ds (dput acc kd vd)) ω = r := h
    rcases noEx_cases (ke ρ') ω with ⟨kd, ω1, h1, h2⟩ | h2
    · unfold M.bind at h
      rw [h2] at h
      replace h : M.bind (noEx (ve ρ')) (fun vd => match keyOf kd with | none => fun _ => .bad | some _ => dcGo tg ke ve ρ ds (dput acc kd vd)) ω1 = r := h
      rcases noEx_cases (ve ρ') ω1 with ⟨vd, ω2, h3, h4⟩ | h4
      · unfold M.bind at h
        rw [h4] at h
        cases e : keyOf kd with
        | none => simp only [e] at h; exact absurd h.symm nb
        | some kk => simp only [e] at h; exact ⟨ρ', kd, ω1, vd, ω2, rfl, h1, h3, ⟨kk, e⟩, h⟩
      · unfold M.bind at h
        rw [h4] at h
        exact absurd h.symm nb
    · unfold M.bind at h
      rw [h2] at h
      exact absurd h.symm nb
theorem dcGo_noex (tg : Tg) (ke ve : EE) (ρ : Env) : ∀ (xs : List D) (acc : List (D × D)) (ω : Om) (x : Exn) (ω' : Om), dcGo tg ke ve ρ xs acc ω ≠ .ex x ω'
  | [], acc, ω, x, ω' => by intro h; cases h
  | d :: ds, acc, ω, x, ω' => by
    intro h
    obtain ⟨ρ', kd, ω1, vd, ω2, _, _, _, _, h⟩ := dcGo_cons h (by intro z; cases z)
    exact dcGo_noex tg ke ve ρ ds _ ω2 x ω' h
theorem dput_len (es : List (D × D)) (k z : D) : (dput es k z).length ≤ es.length + 1 := by
  unfold dput
  split
  · rw [List.length_map]; exact Nat.le_succ _
  · rw [List.length_append]; exact Nat.le_refl _
structure DcI (K : PySem.W.Frag) (own : List Nat) (T : Ent) (ρ : Env) (σ : L2.St) (vs : List Nat) (Z0 : Addr → Prop) (H0 : Hp) (L : Addr) (Z : Addr → Prop) (H : Hp) (ω : Om) (acc : List (Key × V)) (ac : List (D × D)) (i : Nat) : Prop where
  e : Ext (fun a => Ow own σ a ∨ a = L) Z0 H0 Z H
  S : Sx K own T Z (wipeE ρ vs) ω (L2.wipe σ vs) H
  d : H L = some (.dK acc)
  nz : ¬ Z L
  q : RpK K Z H acc ac
  n : acc.length ≤ i
theorem DcI.step {vs : List Nat} {Z0 : Addr → Prop} {H0 : Hp} {L : Addr} {acc : List (Key × V)} {ac : List (D × D)} {i : Nat} {ρ2 : Env} {σ2 : L2.St} {H1 : Hp} (I : DcI K own T ρ σ vs Z0 H0 L Z H ω acc ac i) (nw : ¬ Ow own σ L) (no : ∀ i ∈ own, i ∉ vs)
    (n : Near H H1) (a2 : Agr vs (L2.wipe σ vs) σ2) (e : Ext (Ow own σ2) Z H1 Z' H') (S' : Sx K own T Z' ρ2 ω' σ2 H') : DcI K own T ρ σ vs Z0 H0 L Z' H' ω' acc ac i := by
  have eo : Ow own σ2 = Ow own σ := (Ow.agr a2 no).trans (Ow.wipe no)
  rw [eo] at e
  have hd1 : H1 L = some (.dK acc) := by
    rcases n with rfl | ⟨p, o, hp, rfl⟩
    · exact I.d
    · rw [upd_ne (ne_of_none I.d hp)]; exact I.d
  have e1 : Ext (Ow own σ) Z H Z' H' := n.ext.trans e
  refine ⟨I.e.trans (e1.weak fun _ h => .inl h), ?_, e.f L _ hd1 nw (fun _ z => by cases z), fun z => ?_, I.q.ext e1, I.n⟩
  · exact (I.S).back e1 S' fun i hi => a2.2 i (no i hi)
  · exact I.nz (e1.g L _ z nw I.d (fun _ z => by cases z))
theorem DcI.push {vs : List Nat} {Z0 : Addr → Prop} {H0 : Hp} {L : Addr} {acc : List (Key × V)} {ac : List (D × D)} {i : Nat} {k : Key} {y : V} {dy : D} (I : DcI K own T ρ σ vs Z0 H0 L Z H ω acc ac i) (r : Rp K Z H y dy) (f : T.H0 L = none) (nw : ¬ Ow own σ L) (no : ∀ i ∈ own, i ∉ vs) :
    DcI K own T ρ σ vs Z0 H0 L Z (upd H L (.dK (putK acc k y))) ω (putK acc k y) (dput ac (kD k) dy) (i + 1) := by
  have e : Ext (fun b => b = L) Z H Z (upd H L (.dK (putK acc k y))) := .touch I.d (.dic _) I.nz
  exact ⟨I.e.trans (e.weak fun _ h => .inr h), I.S.touch I.d (.dic _) I.nz f (by rw [Ow.wipe no]; exact nw), upd_same, I.nz, (I.q.put r).ext e, Nat.le_trans (length_putK _ _ _) (Nat.succ_le_succ I.n)⟩
theorem tDc_run {t : Tg} {fk fv : EE} {vs : List Nat} {tk te : L2.TE} {mg : Str → Option Value} {J : It} {Z1 : Addr → Prop} {H1 : Hp} {ds : List D} {Q : VK}
    (hk : tk = tG K mg own T WF (Rp K) fk) (he : te = tG K mg own T WF (Rp K) fv) (hT : ∀ i ∈ tgIx t, i ∈ vs) (no : ∀ i ∈ own, i ∉ vs)
    (wk : Wk K J Z1 H1 ds) (S : Sx K own T Z1 ρ ω σ H1) (h : Pg K mg own T W (Rp K) (M.bind (dcGo t fk fv (wipeE ρ vs) ds []) (fun es => M.pure (.dict es)) ω) ρ σ Z1 H1 Q) (L : Addr) (hL : H1 L = none) :
    ∃ W : Nat → Nat → Hp → Prop, (∃ m, W 0 m (upd H1 L (.dK []))) ∧ ∀ i m H, W i m H →
      (J.stop i H ∧ Q (.ref L) H) ∨ (J.go i H ∧ ∃ Nx : Hp → Prop, (∀ H', Nx H' → ∃ m', m' < m ∧ W (i + 1) m' H') ∧ ∀ x H', J.yld i H x H' → gOf K t x (L2.wipe σ vs) H' fun σ2 H2 => L2.wipe σ2 vs = L2.wipe σ vs ∧ L2.tYes σ2 H2 fun b H3 =>
        if b = true then tk σ2 H3 fun y H4 => te σ2 H4 fun z H5 => ∃ kvs k, y = kV k ∧ H5 L = some (.dK kvs) ∧ kvs.length < sizeLine ∧ Nx (upd H5 L (.dK (putK kvs k z))) else Nx H3) := by
  subst hk he
  have f0 : T.H0 L = none := S.fresh0 hL
  have nw : ¬ Ow own σ L := fun h => by
    obtain ⟨o, ho, _⟩ := S.st L h
    rw [hL] at ho; cases ho
  obtain ⟨ys, ω', hr⟩ : ∃ ys ω', dcGo t fk fv (wipeE ρ vs) ds [] ω = .ok ys ω' := by
    unfold M.bind at h
    cases q : dcGo t fk fv (wipeE ρ vs) ds [] ω with
    | ok ys ω' => exact ⟨ys, ω', rfl⟩
    | ex x ω' => exact absurd q (dcGo_noex _ _ _ _ _ _ _ _ _)
    | bad => rw [q] at h; exact h.elim
  unfold M.bind at h
  rw [hr] at h
  let Inv' : Nat → Hp → Prop := fun i H => ∃ Z ωi acc ac, i ≤ ds.length ∧ DcI K own T ρ σ vs Z1 H1 L Z H ωi acc ac i ∧ dcGo t fk fv (wipeE ρ vs) (ds.drop i) ac ωi = .ok ys ω'
  refine ⟨fun i m H => m = ds.length - i ∧ Inv' i H, ⟨ds.length, by simp, Z1, ω, [], [], Nat.zero_le _, ⟨(Ext.new hL), ?_, upd_same, fun z => ?_, .nil, Nat.le_refl _⟩, by simpa using hr⟩, ?_⟩
  · exact (S.wipe no).new hL
  · obtain ⟨o, ho, _⟩ := S.zd L z
    rw [hL] at ho; cases ho
  rintro i m H ⟨rfl, Z, ωi, acc, ac, hi, I, hr'⟩
  have S1 : Sx K own T Z (wipeE ρ vs) ωi (L2.wipe σ vs) H := I.S
  by_cases hlt : i < ds.length
  · refine .inr ⟨wk.go _ i Z H I.e hlt, Inv' (i + 1), fun H' p => ⟨ds.length - (i + 1), by omega, rfl, p⟩, fun x H' y => ?_⟩
    have hd : ds[i]? = some ds[i] := List.getElem?_eq_getElem hlt
    obtain ⟨near, rx⟩ := wk.yld _ i Z H x H' _ I.e hd y
    have hdrop : ds.drop i = ds[i] :: ds.drop (i + 1) := List.drop_eq_getElem_cons hlt
    rw [hdrop] at hr'
    obtain ⟨ρ', kd, ω1, vd, ω2, b1, b2, b3, ⟨kk, b4⟩, b5⟩ := dcGo_cons hr' (by intro z; cases z)
    refine g_of t (fun j hj ho => no j ho (hT j hj)) b1 (near.sx S1) rx fun σ2 S2 ag => ?_
    have ag' := ag.mono hT
    have zz : L2.wipe σ2 vs = L2.wipe σ vs := by rw [ag'.wipe]; exact (agr_wipe vs σ).wipe
    refine ⟨zz, ?_⟩
    show tG K mg own T WF (Rp K) fk σ2 H' _
    refine ⟨Z, ρ', ωi, S2, ?_⟩
    rw [b2]
    intro b H3 Z3 e3 S3 rb
    have I3 := I.step nw no near ag' e3 S3
    refine ⟨Z3, ρ', ω1, S3, ?_⟩
    rw [b3]
    intro yv H4 Z4 e4 S4 r4
    have I4 := I3.step (H1 := H3) nw no (.inl rfl) ag' e4 S4
    obtain ⟨rfl, rfl⟩ := kV_of b4 (.sh rb)
    exact ⟨acc, kk, rfl, I4.d, lim_lt (Nat.lt_of_le_of_lt I4.n (Nat.lt_of_lt_of_le hlt wk.len)), Z4, ω2, _, _, hlt, I4.push r4 f0 nw no, b5⟩
  · have e : i = ds.length := by omega
    subst e
    rw [List.drop_length] at hr'
    cases hr'
    refine .inl ⟨wk.stop _ Z H I.e, ?_⟩
    obtain ⟨e, S'⟩ := made S hL I.e I.S I.d no
    exact h _ H _ e S' (.dic (.inr rfl) (.inl I.d) (Nat.le_trans I.n wk.len) (I.q.ext (Ext.weak (O := fun _ => True) ⟨fun _ h => .inl h, fun _ _ _ h => h, fun _ _ _ h => h, fun _ _ h _ _ => h, fun _ _ _ n => (n trivial).elim⟩ fun _ h => h)))
section
variable {X : Cx} {a b e elt iter kx vx : Expr} {fa fb fe fk fv : EE} {w : WW} {t : Tg} {ts : List Tg} {tg : Expr} {es : List Expr} {p pos tpos : Pos} {k i j : Nat} {x : Str} {c : TT}
theorem e_dc {scope : Scope} {own' : List (Str × Nat)} {vs : List Nat} (C : Cf X W k) (hi : PI X tg iter (vW X own T W w)) (ok : BlkOk X.N X.env.scope scope own')
    (hg : Blk X scope fun B => PG B tg (gOf X.K t)) (hk : Blk X scope fun B => PE B kx (vE B own T WF fk)) (he : Blk X scope fun B => PE B vx (vE B own T WF fv)) (hv : vs = own'.map (·.2)) (hT : ∀ i ∈ tgIx t, i ∈ vs) (no : ∀ i ∈ own, i ∉ vs)
    (hs : ∀ x, foldedSetIterable iter X.env x = pure x) : PE X (.DictComp kx vx [⟨tg, iter, [], 0⟩] scope pos) (vE X own T W (eDc w t fk fv vs)) := by
  refine PE.imp (pe_dc (tk := tG X.K X.mg own T WF (Rp X.K) fk) (tv := tG X.K X.mg own T WF (Rp X.K) fv) C.calm C.nd hi ok hg (fun s H C cl fp => pts_nil) hk he hs) fun σ H Q h => ?_
  rw [← hv]
  refine tG.bind (k := fun xs ρ => M.bind (dcGo t fk fv (wipeE ρ vs) xs []) fun ys => M.pure (PyData.dict ys)) h fun ds ρ ω J H1 Z1 S1 wk h1 => ?_
  intro L hL
  exact tDc_run rfl rfl hT no wk S1 h1 L hL
end
end Wc

set_option Elab.async false
set_option linter.all false
set_option maxRecDepth 100000
set_option maxHeartbeats 1000000
/-! Wc.Stm: statements. -/
namespace Wc
open PySem PySem.Spec PyProof.Rows L2
variable {O : Addr → Prop} {K : PySem.W.Frag} {mg : Str → Option Value} {Z Z' : Addr → Prop} {H H' : Hp} {own : List Nat} {T : Ent} {ρ ρ' : Env} {ω ω' : Om} {σ : L2.St} {W : WX} {v : V} {vs : List V} {d : D} {ds : List D}
def Tr : Addr → Prop := fun _ => True
theorem Ext.tr (e : Ext O Z H Z' H') : Ext Tr Z H Z' H' := e.weak fun _ _ => trivial
/-- what a def's return tells: a shared value; a new list or dict of one's own -/
abbrev RR := (Addr → Prop) → Hp → V → D → Prop
def Fw (K : PySem.W.Frag) (H0 : Hp) : RR := fun Z H v d => ∃ a, v = .ref a ∧ H0 a = none ∧ ¬ Z a ∧ Oc K Z H a d
section
variable (K mg own T W) in
/-- a statement's ends -/
def Ps (R : RR) (E : Ends) (r : SR) (Z : Addr → Prop) (H : Hp) : Prop := match r with
  | .nx ρ ω => ∀ σ H' Z', Ext Tr Z H Z' H' → Sx K own T Z' ρ ω σ H' → E.nx σ H'
  | .bk ρ ω => ∀ σ H' Z', Ext Tr Z H Z' H' → Sx K own T Z' ρ ω σ H' → E.bk σ H'
  | .ct ρ ω => ∀ σ H' Z', Ext Tr Z H Z' H' → Sx K own T Z' ρ ω σ H' → E.ct σ H'
  | .rt d ω => ∀ v σ ρ H' Z', Ext Tr Z H Z' H' → Sx K own T Z' ρ ω σ H' → R Z' H' v d → E.rt v H'
  | .ex x ρ ω => ∀ c dd σ H' Z', Ext Tr Z H Z' H' → Sx K own T Z' ρ ω σ H' → XRp K mg Z' H' c dd x → W c dd σ H'
  | .bad => False
variable {R : RR} {E E' : Ends} {r : SR} {f g : SS}
theorem Ps.ext (e : Ext O Z H Z' H') (h : Ps K mg own T W R E r Z H) : Ps K mg own T W R E r Z' H' := by
  cases r with
  | nx => exact fun σ H2 Z2 e2 => h σ H2 Z2 (e.tr.trans e2)
  | bk => exact fun σ H2 Z2 e2 => h σ H2 Z2 (e.tr.trans e2)
  | ct => exact fun σ H2 Z2 e2 => h σ H2 Z2 (e.tr.trans e2)
  | rt => exact fun v σ ρ H2 Z2 e2 => h v σ ρ H2 Z2 (e.tr.trans e2)
  | ex => exact fun c dd σ H2 Z2 e2 => h c dd σ H2 Z2 (e.tr.trans e2)
  | bad => exact h
variable (K mg own T W R) in
def vS (f : SS) : L2.TS := fun E σ H => ∃ Z ρ ω, Sx K own T Z ρ ω σ H ∧ Ps K mg own T W R E (f ρ ω) Z H
/-- an expression, then the rest -/
theorem vS_E {α β : Type} {a : Env → M α} {kk : α → SS} {Ra : (Addr → Prop) → Hp → β → α → Prop} {Q : β → Hp → Prop} {σ : L2.St} (h : vS K mg own T W R (sE a kk) E σ H)
    (q : ∀ x ρ ω b H' Z', Sx K own T Z' ρ ω σ H' → Ra Z' H' b x → Ps K mg own T W R E (kk x ρ ω) Z' H' → Q b H') : tG K mg own T W Ra a σ H Q := by
  obtain ⟨Z, ρ, ω, S, h⟩ := h
  refine ⟨Z, ρ, ω, S, ?_⟩
  unfold sE at h
  cases e : a ρ ω with
  | ok x ω' => rw [e] at h; exact fun b H' Z' e S' r => q x ρ ω' b H' Z' S' r (h.ext e)
  | ex x ω' => rw [e] at h; exact fun c dd H' Z' e S' r => h c dd σ H' Z' e.tr S' r
  | bad => rw [e] at h; exact h
theorem vS_seq {σ : L2.St} (h : vS K mg own T W R (sSeq f g) E σ H) : vS K mg own T W R f { E with nx := vS K mg own T W R g E } σ H := by
  obtain ⟨Z, ρ, ω, S, h⟩ := h
  refine ⟨Z, ρ, ω, S, ?_⟩
  unfold sSeq at h
  cases e : f ρ ω with
  | nx ρ' ω' => rw [e] at h; exact fun σ' H' Z' e' S' => ⟨Z', ρ', ω', S', h.ext e'⟩
  | bk => rw [e] at h; exact h
  | ct => rw [e] at h; exact h
  | rt => rw [e] at h; exact h
  | ex => rw [e] at h; exact h
  | bad => rw [e] at h; exact h
end
theorem PS.imp {X : Cx} {s : Stmt} {t t' : L2.TS} (h : PS X s t) (i : ∀ E σ H, t' E σ H → t E σ H) : PS X s t' := ⟨fun pins s σ H E I q => h.run pins s σ H E I (i E σ H q)⟩
theorem PSs.imp {X : Cx} {s : List Stmt} {t t' : L2.TS} (h : PSs X s t) (i : ∀ E σ H, t' E σ H → t E σ H) : PSs X s t' := ⟨fun pins s σ H E I q => h.run pins s σ H E I (i E σ H q)⟩
section
variable {X : Cx} {a b e : Expr} {fa fb fe : EE} {w : WW} {t : Tg} {ts : List Tg} {tg iter : Expr} {es : List Expr} {p pos pos' tpos : Pos} {k i j : Nat} {x : Str} {c : TT} {R : RR} {f g : SS} {st : Stmt} {rest body : List Stmt}
abbrev wS (X : Cx) (own : List Nat) (T : Ent) (W : WX) (R : RR) (f : SS) : L2.TS := vS X.K X.mg own T W R f
theorem ss_nil : PSs X [] (wS X own T W R sNil) := PSs.imp pss_nil fun E σ H ⟨Z, ρ, ω, S, h⟩ => h σ H Z (.refl _ _) S
theorem ss_cons (h1 : PS X st (wS X own T W R f)) (h2 : PSs X rest (wS X own T W R g)) : PSs X (st :: rest) (wS X own T W R (sSeq f g)) := PSs.imp (pss_cons h1 h2) fun E σ H h => vS_seq h
theorem ss_one (h1 : PS X st (wS X own T W R f)) : PSs X [st] (wS X own T W R f) := pss_one h1
theorem s_pass : PS X (.Pass pos) (wS X own T W R sNil) := PS.imp ps_pass fun E σ H ⟨Z, ρ, ω, S, h⟩ => h σ H Z (.refl _ _) S
theorem s_break : PS X (.Break pos) (wS X own T W R sBreak) := PS.imp ps_break fun E σ H ⟨Z, ρ, ω, S, h⟩ => h σ H Z (.refl _ _) S
theorem s_cont : PS X (.Continue pos) (wS X own T W R sCont) := PS.imp ps_continue fun E σ H ⟨Z, ρ, ω, S, h⟩ => h σ H Z (.refl _ _) S
theorem s_drop (he : PE X e (vE X own T W fe)) (hs : swapsWith e none pos.line X.env = pure false) : PS X (.Expr e pos) (wS X own T W R (sDrop fe)) :=
  PS.imp (ps_expr he hs) fun E σ H h => vS_E h fun x ρ ω b H' Z' S r q => q σ H' Z' (.refl _ _) S
theorem s_ret (he : PE X e (vE X own T W fe)) : PS X (.Return (some e) pos) (wS X own T W (Rp X.K) (sRet fe)) :=
  PS.imp (ps_ret he) fun E σ H h => vS_E h fun x ρ ω b H' Z' S r q => q b σ ρ H' Z' (.refl _ _) S r
theorem s_retN : PS X (.Return none pos) (wS X own T W (Rp X.K) (sRet (eC .none))) :=
  PS.imp ps_retN fun E σ H ⟨Z, ρ, ω, S, h⟩ => h .non σ ρ H Z (.refl _ _) S .non
theorem s_if {ca : Expr} {sa sb : List Stmt} (hc : PT X ca (vT X own T W c)) (ha : PSs X sa (wS X own T W R f)) (hb : PSs X sb (wS X own T W R g)) : PS X (.If ca sa sb pos) (wS X own T W R (sIf c f g)) :=
  PS.imp (ps_if hc ha hb) fun E σ H h => vS_E h fun x ρ ω b H' Z' S r q => by
    subst r
    cases b with
    | true => exact ⟨Z', ρ, ω, S, q⟩
    | false => exact ⟨Z', ρ, ω, S, q⟩
/-! assignments -/
theorem s_asg' {te : L2.TE} {st : Stmt} {tg' : L2.TG} (hp : PS X st (tAsg te tg')) (ht : te = vE X own T W fe) (hg : tg' = gOf X.K t) (no : ∀ i ∈ tgIx t, i ∉ own) : PS X st (wS X own T W R (sAsg t fe)) := by
  subst ht hg
  refine PS.imp hp fun E σ H h => vS_E h fun x ρ ω b H' Z' S r q => ?_
  cases e : bindT t x ρ with
  | none => rw [e] at q; exact q.elim
  | some ρ' => rw [e] at q; exact g_of t no e S r fun σ' S' _ => q σ' H' Z' (.refl _ _) S'
theorem s_set (hN : X.N.Nodup) (hi : X.N[i]? = some x) (hx : Loc X.env.scope x) (hf : X.fn x = true ∨ X.env.scope.names.lookup x = some .local) (no : i ∉ own) (he : PE X e (vE X own T W fe)) (hs : swapsWith e (some (.Name x pos')) pos.line X.env = pure false) :
    PS X (.Assign [.Name x pos'] e pos) (wS X own T W R (sAsg (.nm i) fe)) :=
  s_asg' (t := .nm i) (ps_set hN hi hx he hs hf) rfl (by unfold gOf; rfl) (fun j hj => by unfold tgIx at hj; rw [List.mem_singleton.mp hj]; exact no)
theorem s_tup {tk : Nat} (hg : PG X (.Tuple es tk p) (gOf X.K t)) (no : ∀ i ∈ tgIx t, i ∉ own) (he : PE X e (vE X own T W fe)) (hs : swapsWithSole [.Tuple es tk p] e pos.line X.env = pure false) (hw : swappedStores [.Tuple es tk p] e X.env = pure none)
    (h1 : (assignEach [.Tuple es tk p] X.env).map (·.2) = [assign (.Tuple es tk p) X.env]) : PS X (.Assign [.Tuple es tk p] e pos) (wS X own T W R (sAsg t fe)) :=
  s_asg' (ps_asg he hg hs hw h1) rfl rfl no
/-- y = [..] on one line -/
theorem s_setLc {elt : Expr} {fe : EE} {scope : Scope} {own' : List (Str × Nat)} {ifs : List Expr} {vs : List Nat} (C : Cf X W k) (hy : X.N[i]? = some x) (hyl : X.env.scope.names.lookup x = some .local) (hsw : swapsWith (.ListComp elt [⟨tg, iter, ifs, 0⟩] scope pos) (some (.Name x p)) tpos.line X.env = pure true)
    (noi : i ∉ own) (hi : PI X tg iter (vW X own T W w)) (ok : BlkOk X.N X.env.scope scope own')
    (hg : Blk X scope fun B => PG B tg (gOf X.K t)) (ht : Blk X scope fun B => PTs B ifs (vT B own T WF c)) (he : Blk X scope fun B => PE B elt (vE B own T WF fe)) (hv : vs = own'.map (·.2)) (hT : ∀ i ∈ tgIx t, i ∈ vs) (no : ∀ i ∈ own, i ∉ vs)
    (hs : ∀ x, foldedSetIterable iter X.env x = pure x) : PS X (.Assign [.Name x p] (.ListComp elt [⟨tg, iter, ifs, 0⟩] scope pos) tpos) (wS X own T W R (sAsg (.nm i) (eLc w t c fe vs))) := by
  refine PS.imp (ps_setLc (tt := tG X.K X.mg own T WF (fun _ _ (b a : Bool) => b = a) c) (te := tG X.K X.mg own T WF (Rp X.K) fe) C.calm C.nd hy hyl hsw hi ok hg ht he hs) fun E σ H h => ?_
  rw [← hv]
  have h1 : vE X own T W (eLc w t c fe vs) σ H (fun b H' => E.nx (σ.set i (some b)) H') := by
    refine vS_E h fun d ρ ω b H' Z' S r q => ?_
    have e : bindT (.nm i) d ρ = some (ρ.set i (some d)) := by unfold bindT; rfl
    rw [e] at q
    exact q _ H' Z' (.refl _ _) (S.set noi r)
  refine tG.bind (k := fun xs ρ => M.bind (lcGo t c fe (wipeE ρ vs) xs) fun ys => M.pure (PyData.list ys)) h1 fun ds ρ ω J H1 Z1 S1 wk h2 => ?_
  intro L hL
  exact tLc_run rfl rfl hT no wk S1 h2 L hL
end
end Wc

set_option Elab.async false
set_option linter.all false
set_option maxRecDepth 100000
set_option maxHeartbeats 1000000
/-! Wc.Stm2: new lists and dicts of one's own; what changes them; loops. -/
namespace Wc
open PySem PySem.Spec PyProof.Rows L2
variable {O : Addr → Prop} {K : PySem.W.Frag} {mg : Str → Option Value} {Z Z' : Addr → Prop} {H H' : Hp} {own : List Nat} {T : Ent} {ρ ρ' : Env} {ω ω' : Om} {σ : L2.St} {W : WX} {v : V} {vs : List V} {d : D} {ds : List D}
def Fr (K : PySem.W.Frag) (tb : List (Addr × Str)) (H0 : Hp) : RR := fun Z H v d => ∃ a, v = .ref a ∧ Nw tb H0 a ∧ ¬ Z a ∧ Oc K Z H a d
theorem nw_of {a : Addr} (S' : Sx K own T Z' ρ ω σ H') (e : Ext (Ow own σ) Z H Z' H') (h : H' a = none) : Nw T.tb H a := by
  intro o ho
  by_cases ht : ∃ ps, o = .tbl ps
  · refine ⟨ht, fun q hq => ?_⟩
    obtain ⟨ps', e', _⟩ := S'.tabs _ hq
    rw [h] at e'; cases e'
  · exfalso
    by_cases hw : Ow own σ a
    · obtain ⟨u, hu, _⟩ := S'.st a hw
      rw [h] at hu; cases hu
    · have := e.f a o ho hw fun ps z => ht ⟨ps, z⟩
      rw [h] at this; cases this
/-- the new object: laid, kept -/
theorem Oc.keep {a : Addr} {O : Addr → Prop} (h : Oc K Z H a d) (e : Ext O Z H Z' H') (n : ¬ O a) : Oc K Z' H' a d := by
  obtain ⟨o, ho, nt⟩ := h.stands
  exact h.ext e fun u hu => e.f a u hu n fun ps z => by rw [ho] at hu; cases hu; exact nt ps z
theorem Fr.keep {tb : List (Addr × Str)} {H0 : Hp} {O : Addr → Prop} (h : Fr K tb H0 Z H v d) (e : Ext O Z H Z' H') (n : ∀ a, v = .ref a → ¬ O a) : Fr K tb H0 Z' H' v d := by
  obtain ⟨a, rfl, n1, n2, c⟩ := h
  obtain ⟨o, ho, nt⟩ := c.stands
  exact ⟨a, rfl, n1, fun z => n2 (e.g a o z (n a rfl) ho nt), c.keep e (n a rfl)⟩
section
variable {X : Cx} {a b e : Expr} {fa fb fe : EE} {w : WW} {t : Tg} {ts : List Tg} {tg iter elt : Expr} {es : List Expr} {p pos pos' tpos : Pos} {k i j : Nat} {x : Str} {c : TT} {R : RR} {f g : SS} {st : Stmt} {rest body : List Stmt}
abbrev vF (X : Cx) (own : List Nat) (T : Ent) (W : WX) (f : EE) : L2.TE := fun σ H Q => tG X.K X.mg own T W (Fr X.K T.tb H) f σ H Q
theorem tG.start {α β : Type} {Ra : (Addr → Prop) → Hp → β → α → Prop} {f : Env → M α} {Q : β → Hp → Prop} {σ : L2.St} (h : tG K mg own T W Ra f σ H Q) : ∃ Z ρ ω, Sx K own T Z ρ ω σ H := by
  obtain ⟨Z, ρ, ω, S, _⟩ := h
  exact ⟨Z, ρ, ω, S⟩
theorem f_lst {l : List It1} (h : PA X es (vA X own T W (items l))) : PE X (.List es pos) (vF X own T W (eLst l)) := by
  refine PE.imp (pe_lst h) fun σ H Q h => ?_
  obtain ⟨Z, ρ, ω, S, h⟩ := h
  refine ⟨Z, ρ, ω, S, Pg.bind (k := fun xs => M.bind (limited xs) fun xs => M.pure (PyData.list xs)) h fun ds ω1 vs H1 Z1 e1 S1 r1 h1 => ?_⟩
  obtain ⟨n, h2⟩ := limited_iff h1
  rw [← r1.length] at n
  refine ⟨lim_le n, fun p hp => ?_⟩
  have e2 : Ext (Ow own σ) Z1 H1 Z1 (upd H1 p (.lst vs)) := .new hp
  refine h2 _ _ Z1 e2 (S1.new hp) ⟨p, rfl, nw_of S1 e1 hp, fun z => ?_, .lst upd_same n (r1.ext e2)⟩
  obtain ⟨o, ho, _⟩ := S1.zd p z
  rw [hp] at ho; cases ho
theorem f_dict0 : PE X (.Dict [] [] pos) (vF X own T W (eC (.dict []))) := by
  refine PE.imp pe_dnewK fun σ H Q h => ?_
  obtain ⟨Z, ρ, ω, S, h⟩ := h
  intro p hp
  refine h _ _ Z (.new hp) (S.new hp) ⟨p, rfl, nw_none hp, fun z => ?_, .dic upd_same (Nat.zero_le _) .nil⟩
  obtain ⟨o, ho, _⟩ := S.zd p z
  rw [hp] at ho; cases ho
/-! assignments to owned places -/
theorem Sx.take {j i : Nat} (S : Sx K own T Z ρ ω σ H) (hj : own[j]? = some i) (np : T.pa.length ≤ j) {a : Addr} (nz : ¬ Z a) (c : Oc K Z H a d) (f : T.H0 a = none) (nw : ¬ Ow own σ a) : Sx K own T Z ρ (ω.set j (some d)) (σ.set i (some (.ref a))) H :=
  S.give hj np (S.ol i (List.mem_of_getElem? hj)) nz c f fun k i' d' h1 h2 h3 => nw ⟨i', List.mem_of_getElem? h1, h3⟩
theorem s_own' {te : L2.TE} {st : Stmt} (hp : PS X st (tAsg te (gName i))) (ht : te = vF X own T W fe) (hj : own[j]? = some i) (np : T.pa.length ≤ j) : PS X st (wS X own T W R (sOwn j fe)) := by
  subst ht
  refine PS.imp hp fun E σ H h => ?_
  obtain ⟨Z0, ρ0, ω0, S0, _⟩ := id h
  refine vS_E h fun x ρ ω b H' Z' S r q => ?_
  obtain ⟨a, rfl, n1, n2, c⟩ := r
  obtain ⟨n3, n4⟩ := S0.nw n1
  exact q _ H' Z' (.refl _ _) (S.take hj np n2 c n3 n4)
theorem s_own (hN : X.N.Nodup) (hj : own[j]? = some i) (np : T.pa.length ≤ j) (hi : X.N[i]? = some x) (hx : Loc X.env.scope x) (hf : X.fn x = true ∨ X.env.scope.names.lookup x = some .local) (he : PE X e (vF X own T W fe)) (hs : swapsWith e (some (.Name x pos')) pos.line X.env = pure false) :
    PS X (.Assign [.Name x pos'] e pos) (wS X own T W R (sOwn j fe)) := s_own' (ps_set hN hi hx he hs hf) rfl hj np
/-- return of a new list, dict -/
theorem s_retF (hr : R = Fr X.K T.tb T.H0) (he : PE X e (vF X own T W fe)) : PS X (.Return (some e) pos) (wS X own T W R (sRet fe)) := by
  subst hr
  refine PS.imp (ps_ret he) fun E σ H h => ?_
  obtain ⟨Z0, ρ0, ω0, S0, _⟩ := id h
  refine vS_E h fun x ρ ω b H' Z' S r q => ?_
  obtain ⟨a, rfl, n1, n2, c⟩ := r
  obtain ⟨n3, n4⟩ := S0.nw n1
  exact q _ σ ρ H' Z' (.refl _ _) S ⟨a, rfl, nw_none n3, n2, c⟩
/-- return of an owned place that is none of the arguments -/
theorem s_retO (hr : R = Fr X.K T.tb T.H0) (hj : own[j]? = some i) (np : T.pa.length ≤ j) (hN : X.N[i]? = some x) (hv : Vis X.env.scope x) (hd : (x == ("__debug__" : Str)) = false) (hcd : (x == ("__classdict__" : Str)) = false) : PS X (.Return (some (.Name x p)) pos) (wS X own T W R (sRet (eOwn j))) := by
  subst hr
  refine PS.imp (ps_ret (pe_var hN hv hd hcd)) fun E σ H h => ?_
  obtain ⟨Z, ρ, ω, S, h⟩ := h
  unfold sRet sE at h
  rcases eOwn_cases j ρ ω with ⟨d, hd, e⟩ | e
  · rw [e] at h
    obtain ⟨a, h1, nz, c, fr⟩ := S.ow j i d hj hd
    have f0 : T.H0 a = none := by
      rcases fr with fr | fr
      · exfalso
        obtain ⟨j', hj'⟩ := List.getElem?_of_mem fr
        obtain ⟨k, x, g1, g2, g3⟩ := S.par j' a hj'
        have q : j' ≠ j := fun z => by
          have := (List.getElem?_eq_some_iff.mp hj').1
          omega
        exact S.dj j' j k i x d a q g1 hj g3 hd g2 h1
      · exact fr
    exact ⟨.ref a, h1, h _ σ ρ H Z (.refl _ _) S ⟨a, rfl, nw_none f0, nz, c⟩⟩
  · rw [e] at h; exact h.elim
/-! two at once -/
abbrev vP (X : Cx) (own : List Nat) (T : Ent) (W : WX) : P1 → L2.TE
  | .sh _ f => vE X own T W f
  | .fr _ f => vF X own T W f
/-- what a target asks -/
def P1.Ok (own : List Nat) (T : Ent) (i : Nat) : P1 → Prop
  | .sh i' _ => i' = i ∧ i ∉ own
  | .fr j _ => own[j]? = some i ∧ T.pa.length ≤ j
/-- a value that it may take -/
def P1.Rel (K : PySem.W.Frag) (own : List Nat) (T : Ent) (σ : L2.St) (Z : Addr → Prop) (H : Hp) (v : V) (d : D) : P1 → Prop
  | .sh _ _ => Rp K Z H v d
  | .fr _ _ => ∃ a, v = .ref a ∧ ¬ Z a ∧ Oc K Z H a d ∧ T.H0 a = none ∧ ¬ Ow own σ a
theorem P1.put {q : P1} {i : Nat} (S : Sx K own T Z ρ ω σ H) (o : q.Ok own T i) (r : q.Rel K own T σ Z H v d) : Sx K own T Z (q.ρ d ρ) (q.ω d ω) (σ.set i (some v)) H := by
  cases q with
  | sh i' f => obtain ⟨rfl, no⟩ := o; exact S.set no r
  | fr j f =>
    obtain ⟨hj, np⟩ := o
    obtain ⟨a, rfl, n2, c, n3, n4⟩ := r
    exact S.take hj np n2 c n3 n4
theorem vP_run {q : P1} {E : List V → Hp → Prop} {Q : VK} {α γ δ : Type} {R' : (Addr → Prop) → Hp → δ → γ → Prop} {kk : D → M γ} {Q' : δ → Hp → Prop} (S : Sx X.K own T Z ρ ω σ H) (h : Pg X.K X.mg own T W R' (M.bind (q.e ρ) kk ω) ρ σ Z H Q')
    (hq : ∀ d ω' v H' Z', Ext (Ow own σ) Z H Z' H' → Sx X.K own T Z' ρ ω' σ H' → q.Rel X.K own T σ Z' H' v d → (∀ a, v = .ref a → (∃ j f, q = .fr j f) → ∀ o, H a = some o → ∃ ps, o = .tbl ps) → Pg X.K X.mg own T W R' (kk d ω') ρ σ Z' H' Q' → Q v H') : vP X own T W q σ H Q := by
  cases q with
  | sh i f => exact ⟨Z, ρ, ω, S, h.bind fun d ω' v H' Z' e S' r p => hq d ω' v H' Z' e S' r (fun _ _ ⟨_, _, z⟩ => by cases z) p⟩
  | fr j f =>
    refine ⟨Z, ρ, ω, S, h.bind fun d ω' v H' Z' e S' r p => ?_⟩
    obtain ⟨a, rfl, n1, n2, c⟩ := r
    obtain ⟨n3, n4⟩ := S.nw n1
    exact hq d ω' _ H' Z' e S' ⟨a, rfl, n2, c, n3, n4⟩ (fun b hb _ o ho => by cases hb; exact (n1 o ho).1) p
theorem P1.Rel.ext {q : P1} (r : q.Rel K own T σ Z H v d) (e : Ext (Ow own σ) Z H Z' H') : q.Rel K own T σ Z' H' v d := by
  cases q with
  | sh i f => exact Rp.ext e d r
  | fr j f =>
    obtain ⟨a, rfl, n2, c, n3, n4⟩ := r
    obtain ⟨o, ho, nt⟩ := c.stands
    exact ⟨a, rfl, fun z => n2 (e.g a o z n4 ho nt), c.keep e n4, n3, n4⟩
theorem s_par2 {q r : P1} {y : Str} {px py pt p2 : Pos} {kt k2 : Nat} (C : Cf X W k) (hi : X.N[i]? = some x) (hj : X.N[j]? = some y) (hij : i ≠ j) (hx : X.env.scope.names.lookup x = some .local) (hy : X.env.scope.names.lookup y = some .local)
    (o1 : q.Ok own T i) (o2 : r.Ok own T j) (ha : PE X a (vP X own T W q)) (hb : PE X b (vP X own T W r)) (h1 : starEach [a, b] X.env = (false, eval a X.env) :: starEach [b] X.env) (h2 : starEach [b] X.env = (false, eval b X.env) :: starEach [] X.env)
    (hw : swappedStores [.Tuple [.Name x px, .Name y py] kt pt] (.Tuple [a, b] k2 p2) X.env = pure (some [x, y]))
    (hs : swapsWithSole [.Tuple [.Name x px, .Name y py] kt pt] (.Tuple [a, b] k2 p2) pos.line X.env = pure false) :
    PS X (.Assign [.Tuple [.Name x px, .Name y py] kt pt] (.Tuple [a, b] k2 p2) pos) (wS X own T W R (sPar2 q r)) := by
  refine PS.imp (ps_par C.calm C.nd hi hj hij hx hy (pa_cons ha (pa_cons hb pa_nil h2) h1) hw hs) fun E σ H h => ?_
  have h' : tG X.K X.mg own T W (fun Z' H' (b : V × V) (a : D × D) => q.Rel X.K own T σ Z' H' b.1 a.1 ∧ r.Rel X.K own T σ Z' H' b.2 a.2 ∧ (∀ u, b.2 = V.ref u → (∃ j f, r = .fr j f) → (∃ j f, q = .fr j f) → b.1 ≠ .ref u)) (fun ρ => M.bind (q.e ρ) fun x => M.bind (r.e ρ) fun y => M.pure (x, y)) σ H
      fun b H' => E.nx ((σ.set i (some b.1)).set j (some b.2)) H' := by
    refine vS_E h fun d ρ ω b H' Z' S rr ps => ?_
    obtain ⟨r1, r2, r3⟩ := rr
    refine ps _ H' Z' (.refl _ _) (P1.put (P1.put S o1 r1) o2 ?_)
    cases r with
    | sh => exact r2
    | fr j' f =>
      obtain ⟨u, hu, n2, c, n3, n4⟩ := r2
      refine ⟨u, hu, n2, c, n3, fun ⟨l, hl, el⟩ => ?_⟩
      by_cases hli : l = i
      · subst hli
        have hlen : l < σ.length := S.ol l hl
        rw [List.getElem?_set_self hlen] at el
        cases q with
        | sh => obtain ⟨rfl, no⟩ := o1; exact no hl
        | fr => exact r3 u hu ⟨_, _, rfl⟩ ⟨_, _, rfl⟩ (by simpa using el)
      · rw [List.getElem?_set_ne (Ne.symm hli)] at el
        exact n4 ⟨l, hl, el⟩
  obtain ⟨Z, ρ, ω, S, h'⟩ := h'
  refine vP_run (E := fun _ _ => True) (α := D) S h' fun d ω1 v1 H1 Z1 e1 S1 r1 _ h1 => ?_
  refine vP_run (E := fun _ _ => True) (α := D) S1 h1 fun d2 ω2 v2 H2 Z2 e2 S2 r2 nt h2 => ?_
  refine ⟨v1, v2, rfl, h2 (v1, v2) H2 Z2 (.refl _ _) S2 ⟨r1.ext e2, r2, fun u hu hr hq hv => ?_⟩⟩
  obtain ⟨j', f, rfl⟩ := hq
  obtain ⟨u', hu', _, c, _, _⟩ := r1
  rw [hu'] at hv
  cases hv
  obtain ⟨o, ho, ntb⟩ := c.stands
  obtain ⟨ps, q⟩ := nt _ hu hr o ho
  exact ntb ps q
end
end Wc

set_option Elab.async false
set_option linter.all false
set_option maxRecDepth 100000
set_option maxHeartbeats 1000000
/-! Wc.Stm3: what changes an owned list or dict; loops. -/
namespace Wc
open PySem PySem.Spec PyProof.Rows L2
variable {O : Addr → Prop} {K : PySem.W.Frag} {mg : Str → Option Value} {Z Z' : Addr → Prop} {H H' : Hp} {own : List Nat} {T : Ent} {ρ ρ' : Env} {ω ω' : Om} {σ : L2.St} {W : WX} {v : V} {vs : List V} {d d' : D} {ds : List D}
/-- a change by values: the list or dict at a, the arguments -/
def MutR (K : PySem.W.Frag) (r : V → List V → Hp → VK → Prop) (g : D → List D → Option D) : Prop :=
  ∀ Z H a d vs ds d' Q, Oc K Z H a d → RpA K Z H vs ds → ¬ Z a → g d ds = some d' → (∀ o, Oc K Z (upd H a o) a d' → Q .non (upd H a o)) → r (.ref a) vs H Q
theorem Ext.at {a : Addr} {o o' : HO} (hL : H a = some o) (l : LD o) (nz : ¬ Z a) : Ext (fun b => b = a) Z H Z (upd H a o') := .touch hL l nz
theorem RpA.one {y : D} (q : RpA K Z H vs [y]) : ∃ v, vs = [v] ∧ Rp K Z H v y := by
  cases q with | cons h t => cases t; exact ⟨_, rfl, h⟩
theorem RpA.pair {y z : D} (q : RpA K Z H vs [y, z]) : ∃ v u, vs = [v, u] ∧ Rp K Z H v y ∧ Rp K Z H u z := by
  cases q with | cons h t => cases t with | cons h2 t => cases t; exact ⟨_, _, rfl, h, h2⟩
theorem mu_append : MutR K rAppend gAppend := by
  intro Z H a d vs ds d' Q c q nz e k
  unfold gAppend at e
  split at e
  · rename_i xs y
    split at e
    · rename_i n
      cases e
      obtain ⟨v, rfl, r⟩ := q.one
      cases c with
      | @lst xs' _ e1 n1 q1 =>
        rw [← q1.length] at n
        have ex := Ext.at (o' := .lst (xs' ++ [v])) e1 (.lst _) nz
        exact ⟨a, _, v, rfl, rfl, e1, lim_lt n, k _ (.lst upd_same (by rw [List.length_append]; exact n) ((q1.append (.cons r .nil)).ext ex))⟩
    · cases e
  · cases e
theorem mu_extend : MutR K rExtend gExtend := by
  intro Z H a d vs ds d' Q c q nz e k
  unfold gExtend at e
  split at e
  · rename_i xs ys
    split at e
    · rename_i n
      cases e
      obtain ⟨v, rfl, r⟩ := q.one
      obtain ⟨b, zs, rfl, r1, n1, q2⟩ := (Rr.sh r).listH
      cases c with
      | @lst xs' _ e1 n1 q1 =>
        rw [← q1.length, ← q2.length] at n
        have ex := Ext.at (o' := .lst (xs' ++ zs)) e1 (.lst _) nz
        exact ⟨a, b, _, zs, rfl, rfl, e1, r1, lim_le n, k _ (.lst upd_same (by rw [List.length_append]; exact n) ((q1.append q2).ext ex))⟩
    · cases e
  · cases e
def rIns : V → List V → Hp → VK → Prop := fun x vs H Q => ∃ (l : Addr) (xs : List V) (i : Int) (y : V), x = .ref l ∧ vs = [.int i, y] ∧ H l = some (.lst xs) ∧ xs.length < sizeLine ∧ 0 ≤ i ∧ i < 2 ^ 63 ∧
    Q .non (upd H l (.lst (xs.take i.toNat ++ [y] ++ xs.drop i.toNat)))
theorem mu_insert : MutR K rIns gInsert := by
  intro Z H a d vs ds d' Q c q nz e k
  unfold gInsert at e
  split at e
  · rename_i xs i y
    split at e
    · rename_i n
      simp only [Bool.and_eq_true, decide_eq_true_eq] at n
      obtain ⟨⟨n1, n2⟩, n3⟩ := n
      cases e
      obtain ⟨v, u, rfl, r, r2⟩ := q.pair
      cases r
      cases c with
      | @lst ys _ e1 _ q1 =>
        rw [← q1.length] at n1
        have ex := Ext.at (o' := .lst (ys.take i.toNat ++ [u] ++ ys.drop i.toNat)) e1 (.lst _) nz
        refine ⟨a, _, i, u, rfl, rfl, e1, lim_lt n1, n2, n3, k _ (.lst upd_same ?_ ?_)⟩
        · have e : (ys.take i.toNat ++ [u] ++ ys.drop i.toNat).length = ys.length + 1 := by
            simp only [List.length_append, List.length_take, List.length_drop, List.length_cons, List.length_nil]; omega
          rw [e]; exact n1
        · have := (((q1.take i.toNat).append (.cons r2 .nil)).append (q1.drop i.toNat)).ext ex
          rw [List.append_assoc] at this
          simpa using this
    · cases e
  · cases e
section
variable {X : Cx} {a b e : Expr} {fa fb fe : EE} {w : WW} {t : Tg} {ts : List Tg} {tg iter elt : Expr} {es : List Expr} {p pos pos' tpos apos cpos : Pos} {k i j : Nat} {x : Str} {c : TT} {R : RR} {f g : SS} {st : Stmt} {rest body : List Stmt}
/-- an owned place, read: where it stands -/
theorem own_run {γ δ : Type} {R' : (Addr → Prop) → Hp → δ → γ → Prop} {kk : D → M γ} {Q' : δ → Hp → Prop} (S : Sx K own T Z ρ ω σ H) (hj : own[j]? = some i) (h : Pg K mg own T W R' (M.bind (eOwn j ρ) kk ω) ρ σ Z H Q') :
    ∃ d a, ω[j]? = some (some d) ∧ σ[i]? = some (some (.ref a)) ∧ ¬ Z a ∧ Oc K Z H a d ∧ Pg K mg own T W R' (kk d ω) ρ σ Z H Q' := by
  unfold M.bind at h
  rcases eOwn_cases j ρ ω with ⟨d, hd, e⟩ | e
  · rw [e] at h
    obtain ⟨a, h1, nz, c, _⟩ := S.ow j i d hj hd
    exact ⟨d, a, hd, h1, nz, c, h⟩
  · rw [e] at h; exact h.elim
/-- a change of what stands at an owned place -/
theorem put_run {E : Ends} {R : RR} {a : Addr} {o : HO} (S : Sx K own T Z ρ ω σ H) (hj : own[j]? = some i) (hd : ω[j]? = some (some d)) (ha : σ[i]? = some (some (.ref a))) (c : Oc K Z (upd H a o) a d') (q : Ps K mg own T W R E (.nx ρ (ω.set j (some d'))) Z H) : E.nx σ (upd H a o) := by
  obtain ⟨S', e⟩ := S.mut hj hd ha c
  exact q σ _ Z e.tr S'
theorem Ps_E {α β : Type} {a : Env → M α} {kk : α → SS} {Ra : (Addr → Prop) → Hp → β → α → Prop} {Q : β → Hp → Prop} {E : Ends} {R : RR} (h : Ps K mg own T W R E (sE a kk ρ ω) Z H)
    (q : ∀ x ω' b H' Z', Ext (Ow own σ) Z H Z' H' → Sx K own T Z' ρ ω' σ H' → Ra Z' H' b x → Ps K mg own T W R E (kk x ρ ω') Z' H' → Q b H') : Pg K mg own T W Ra (a ρ ω) ρ σ Z H Q := by
  unfold sE at h
  cases e : a ρ ω with
  | ok x ω' => rw [e] at h; exact fun b H' Z' e S' r => q x ω' b H' Z' e S' r (h.ext e)
  | ex x ω' => rw [e] at h; exact fun c dd H' Z' e S' r => h c dd σ H' Z' e.tr S' r
  | bad => rw [e] at h; exact h
theorem Ps_own {α : Type} {k : D → Env → M α} {kk : α → SS} {j : Nat} {E : Ends} {R : RR} (h : Ps K mg own T W R E (sE (fun ρ => M.bind (eOwn j ρ) fun d => k d ρ) kk ρ ω) Z H) : ∃ d, ω[j]? = some (some d) ∧ Ps K mg own T W R E (sE (k d) kk ρ ω) Z H := by
  unfold sE M.bind at h
  unfold sE
  rcases eOwn_cases j ρ ω with ⟨d, hd, e⟩ | e
  · simp only [e] at h; exact ⟨d, hd, h⟩
  · simp only [e] at h; exact h.elim
theorem join_some {ω : Om} {j : Nat} {d : D} (h : (ω[j]?).join = some d) : ω[j]? = some (some d) := by
  cases e : ω[j]? with
  | none => rw [e] at h; cases h
  | some o => rw [e] at h; cases o <;> cases h; rfl
theorem mut_end {E : Ends} {R : RR} {ds : List D} {g : D → List D → Option D} (q : Ps K mg own T W R E (mutK j g ds ρ ω) Z H) : ∃ d d', ω[j]? = some (some d) ∧ g d ds = some d' ∧ Ps K mg own T W R E (.nx ρ (ω.set j (some d'))) Z H := by
  unfold mutK at q
  cases e1 : (ω[j]?).join with
  | none => rw [e1] at q; exact q.elim
  | some d =>
    rw [e1] at q
    simp only at q
    cases e2 : g d ds with
    | none => rw [e2] at q; exact q.elim
    | some d' => rw [e2] at q; exact ⟨d, d', join_some e1, e2, q⟩
theorem s_mut {l : List It1} {name : Str} {id : String} {r : V → List V → Hp → VK → Prop} {gg : D → List D → Option D} (m : MutR X.K r gg) (slot : Slot "list" name id) (hty : typeOf (.builtin id) = pure (.type "method_descriptor")) (hm : MtR X id r)
    (hj : own[j]? = some i) (hN : X.N[i]? = some x) (hv : Vis X.env.scope x) (ha : PA X (e :: es) (vA X own T W (items l)))
    (hbase : attributeBase (.Name x p) name X.env (eval (.Name x p) X.env) = eval (.Name x p) X.env)
    (hfew : ((backTo cpos (starEach (e :: es) X.env)).all (fun x => !x.1) && (backToKw cpos (keywordEach [] X.env)).all (fun x => x.1.isSome)
      && decide ((e :: es).length + ([] : List Keyword).length + (if ([] : List Keyword).isEmpty then 0 else 1) < 30)) = true)
    (hline : (apos.endLine == cpos.line) = true) (hs : starEach (e :: es) X.env = (false, eval e X.env) :: starEach es X.env) (hplain : (backTo cpos (starEach es X.env)).any (·.1) = false)
    (hsw : swapsWith (.Call (.Attribute (.Name x p) name apos) (e :: es) [] cpos) none pos.line X.env = pure false) (hd : (x == ("__debug__" : Str)) = false) (hcd : (x == ("__classdict__" : Str)) = false) :
    PS X (.Expr (.Call (.Attribute (.Name x p) name apos) (e :: es) [] cpos) pos) (wS X own T W R (sMut j l gg)) := by
  refine PS.imp (ps_expr (pe_bm PySem.F.plainAttrs_list slot hty hm (pe_var hN hv hd hcd) ha hbase hfew hline hs hplain) hsw) fun E σ H h => ?_
  obtain ⟨Z, ρ, ω, S, h⟩ := h
  obtain ⟨d, hd, h⟩ := Ps_own (k := lstE l) h
  obtain ⟨a, h1, nz, c, _⟩ := S.ow j i d hj hd
  refine ⟨.ref a, h1, ?_, ?_⟩
  · cases c with
    | lst e1 n1 q1 => exact .inl ⟨rfl, _, .inl (.inl e1)⟩
    | dic e1 n1 q1 => exact h.elim
  · refine ⟨Z, ρ, ω, S, ?_⟩
    cases d <;> try exact h.elim
    refine Ps_E (a := items l) (kk := mutK j gg) h fun ds ω' vs H' Z' e' S' q p => ?_
    obtain ⟨d2, d', g1, g2, p'⟩ := mut_end p
    obtain ⟨a', h1', nz', c', _⟩ := S'.ow j i d2 hj g1
    rw [h1] at h1'; cases h1'
    exact m Z' H' a d2 vs ds d' _ c' q nz' g2 fun o co => put_run S' hj g1 h1 co p'
end
end Wc

set_option Elab.async false
set_option linter.all false
set_option maxRecDepth 100000
set_option maxHeartbeats 1000000
/-! Wc.Stm4: subscript stores, loops. -/
namespace Wc
open PySem PySem.Spec PyProof.Rows L2
variable {O : Addr → Prop} {K : PySem.W.Frag} {mg : Str → Option Value} {Z Z' : Addr → Prop} {H H' : Hp} {own : List Nat} {T : Ent} {ρ ρ' : Env} {ω ω' : Om} {σ : L2.St} {W : WX} {v : V} {vs : List V} {d d' : D} {ds : List D}
section
variable {X : Cx} {a b e : Expr} {fa fb fe fi fv : EE} {w : WW} {t : Tg} {ts : List Tg} {tg iter elt : Expr} {es : List Expr} {p pos pos' tpos apos cpos : Pos} {k i j : Nat} {x : Str} {c : TT} {R : RR} {f g : SS} {st : Stmt} {rest body : List Stmt}
/-- the value, then the place, then the index -/
theorem put_eval {E : Ends} {Q : V → V → V → Hp → Prop} (hj : own[j]? = some i) (h : wS X own T W R (sPut j fv fi) E σ H)
    (q : ∀ (v k : V) (a : Addr) (dv dk d d' : D) Z ρ ω H, Sx X.K own T Z ρ ω σ H → Rp X.K Z H v dv → Rp X.K Z H k dk → ω[j]? = some (some d) → σ[i]? = some (some (.ref a)) → ¬ Z a → Oc X.K Z H a d → gPut d [dv, dk] = some d' → (∀ o, Oc X.K Z (upd H a o) a d' → E.nx σ (upd H a o)) → Q v (.ref a) k H) :
    vE X own T W fv σ H fun v H1 => tVar i σ H1 fun o H2 => vE X own T W fi σ H2 fun k H3 => Q v o k H3 := by
  obtain ⟨Z, ρ, ω, S, h⟩ := h
  have h' : Pg X.K X.mg own T W (fun Z' H' vs ds => RpA X.K Z' H' vs ds) (putE j fv fi ρ ω) ρ σ Z H (fun vs H' => ∀ v k, vs = [v, k] → ∀ a, σ[i]? = some (some (.ref a)) → Q v (.ref a) k H') := by
    refine Ps_E (a := putE j fv fi) (kk := mutK j gPut) h fun ds ω' vs H' Z' e' S' r p v k hv a ha => ?_
    subst hv
    obtain ⟨d, d', g1, g2, p'⟩ := mut_end p
    obtain ⟨a', h1', nz', c', _⟩ := S'.ow j i d hj g1
    rw [ha] at h1'; cases h1'
    cases r with
    | cons r1 r2 => cases r2 with
      | cons r2 r3 => cases r3; exact q v k a _ _ d d' Z' ρ ω' H' S' r1 r2 g1 ha nz' c' g2 fun o co => put_run S' hj g1 ha co p'
  refine ⟨Z, ρ, ω, S, Pg.bind (k := fun x => M.bind (eOwn j ρ) fun _ => M.bind (fi ρ) fun k => M.pure [x, k]) h' fun dv ω1 v H1 Z1 e1 S1 r1 h1 => ?_⟩
  obtain ⟨d, a, g1, g2, nz, c, h2⟩ := own_run S1 hj h1
  refine ⟨.ref a, g2, Z1, ρ, ω1, S1, Pg.bind (k := fun k => M.pure [dv, k]) h2 fun dk ω2 k H2 Z2 e2 S2 r2 h3 => ?_⟩
  exact h3 [v, k] H2 Z2 (.refl _ _) S2 (.cons (r1.ext e2) (.cons r2 .nil)) v k rfl a g2
def rSetD : V → V → V → Hp → (Hp → Prop) → Prop := fun o i v H Q => ∃ a H', o = .ref a ∧ DPut H a i v H' ∧ Q H'
theorem set_dict (hu : X.A.units + 1 < cLine) : PSet X rSetD := by
  intro pins s σ H o i v ov iv u Q I ro ri rv h
  obtain ⟨a, H', rfl, g, q⟩ := h
  obtain rfl : ov = Value.ref a := ro
  exact d_setItem hu I g ri rv fun s4 I4 => ⟨H', I4, q⟩
theorem PSet.or {t t' : TSet} (h : PSet X t) (h' : PSet X t') : PSet X (fun o i v H Q => t o i v H Q ∨ t' o i v H Q) := by
  intro pins s σ H o i v ov iv u Q I ro ri rv q
  rcases q with q | q
  · exact h pins s σ H o i v ov iv u Q I ro ri rv q
  · exact h' pins s σ H o i v ov iv u Q I ro ri rv q
/-- o[i] = v, by data -/
theorem put_set {a : Addr} {kv k : V} {dv dk : D} {Q : Hp → Prop} (c : Oc K Z H a d) (nz : ¬ Z a) (r1 : Rp K Z H v dv) (r2 : Rp K Z H k dk) (e : gPut d [dv, dk] = some d') (q : ∀ o, Oc K Z (upd H a o) a d' → Q (upd H a o)) : rSetL (.ref a) k v H Q ∨ rSetD (.ref a) k v H Q := by
  cases c with
  | @lst xs ds e1 n1 q1 =>
    cases dk <;> simp only [gPut] at e <;> try contradiction
    rename_i i
    rw [Option.map_eq_some_iff] at e
    obtain ⟨m, e2, rfl⟩ := e
    cases r2
    rw [← q1.length] at e2
    have ex := Ext.at (o' := .lst (xs.set m v)) e1 (.lst _) nz
    exact .inl ⟨a, xs, i, m, rfl, rfl, e1, e2, q _ (.lst upd_same (by rw [List.length_set]; exact n1) ((q1.set m r1).ext ex))⟩
  | @dic kvs es e1 n1 q1 =>
    simp only [gPut] at e
    split at e
    · rename_i kk hk
      split at e
      · rename_i n
        cases e
        obtain ⟨rfl, rfl⟩ := kV_of hk (.sh r2)
        rw [← q1.length] at n
        have ex := Ext.at (o' := .dK (putK kvs kk v)) e1 (.dic _) nz
        exact .inr ⟨a, _, rfl, .k e1 (lim_lt n), q _ (.dic upd_same (Nat.le_trans (length_putK _ _ _) n) ((q1.put r1).ext ex))⟩
      · cases e
    · cases e
theorem s_put (C : Cf X W k) (hj : own[j]? = some i) (hN : X.N[i]? = some x) (hv : Vis X.env.scope x) (he : PE X e (vE X own T W fv)) (hi : PE X b (vE X own T W fi))
    (ha : ∀ v, assign (.Subscript (.Name x p) b tpos) X.env v = (do
      let ov ← holding [v] (eval (.Name x p) X.env)
      let iv ← holding [v, ov] (eval b X.env)
      standAt tpos
      holding [v, ov, iv] (setItem ov iv v)
      release [v, ov, iv] []))
    (hs : swapsWithSole [.Subscript (.Name x p) b tpos] e pos.line X.env = pure false) (hw : swappedStores [.Subscript (.Name x p) b tpos] e X.env = pure none)
    (h1 : (assignEach [.Subscript (.Name x p) b tpos] X.env).map (·.2) = [assign (.Subscript (.Name x p) b tpos) X.env]) (hd : (x == ("__debug__" : Str)) = false) (hcd : (x == ("__classdict__" : Str)) = false) :
    PS X (.Assign [.Subscript (.Name x p) b tpos] e pos) (wS X own T W R (sPut j fv fi)) := by
  refine PS.imp (ps_asg he (pg_sub (pe_var hN hv hd hcd) hi (PSet.or set_list (set_dict (by have := C.hu; omega))) ha) hs hw h1) fun E σ H h => ?_
  refine put_eval hj h fun v k a dv dk d d' Z ρ ω H S r1 r2 g1 ga nz c e q => ?_
  exact put_set (kv := v) c nz r1 r2 e q
/-! op= of ints -/
theorem get_list : PGet X (rIxL X.K) := by
  intro pins s σ H x y v u Q I rx ry h
  obtain ⟨p, xs, i, z, rfl, rfl, hq, he, q⟩ := h
  cases rx
  obtain ⟨t, rfl⟩ := ry
  obtain ⟨its, r, pl, hz⟩ := I.list hq
  obtain ⟨j, h1, h2, h3, h4, h5⟩ := atI_get he
  obtain ⟨w, ew, rw'⟩ := r.get h2
  have hl := r.length
  have hn := line63
  have fin : EP X pins σ Q w s := ⟨z, H, I, rw', q⟩
  by_cases h0 : 0 ≤ i
  · have hj : i.toNat = j := by
      rw [seqIndex_of h0 h5] at h1
      exact Option.some.inj h1
    exact wpAny_getItem_list pl.isList h0 (by omega) (by rw [hj]; simpa using ew) fin
  · have hj : (i + (its.toArray.size : Int)).toNat = j := by
      rw [seqIndex_neg (by omega) h4] at h1
      rw [List.size_toArray, ← hl]
      exact Option.some.inj h1
    exact wpAny_getItem_list_neg pl.isList (by omega) (by rw [List.size_toArray] <;> omega) (by omega) (by rw [hj]; simpa using ew) fin
/-- an op= that works on ints alone -/
def AugR (r : TIp) (g : D → D → Option D) : Prop := ∀ x y : D, ∀ z, g x y = some z → ∃ i j k, x = .int i ∧ y = .int j ∧ z = .int k ∧ ∀ H Q, Q (.int k) H → r (.int i) (.int j) H Q
theorem aug_add : AugR (ipI fun i j => i + j) addI := by
  intro x y z e
  cases x <;> cases y <;> simp only [addI] at e <;> try contradiction
  cases e
  exact ⟨_, _, _, rfl, rfl, rfl, fun H Q q => ⟨_, _, rfl, rfl, q⟩⟩
theorem aug_sub : AugR (ipI fun i j => i - j) subI := by
  intro x y z e
  cases x <;> cases y <;> simp only [subI] at e <;> try contradiction
  cases e
  exact ⟨_, _, _, rfl, rfl, rfl, fun H Q q => ⟨_, _, rfl, rfl, q⟩⟩
theorem s_aug {r : TIp} {gg : D → D → Option D} {op : Operator} (hr : AugR r gg) (ho : PIp X op r) (hN : X.N.Nodup) (hi : X.N[i]? = some x) (hx : Loc X.env.scope x) (hf : X.fn x = true ∨ X.env.scope.names.lookup x = some .local) (no : i ∉ own) (he : PE X e (vE X own T W fe)) :
    PS X (.AugAssign (.Name x p) op e pos) (wS X own T W R (sAug i gg fe)) := by
  refine PS.imp (ps_aug hN hi hx he ho hf) fun E σ H h => ?_
  obtain ⟨Z, ρ, ω, S, h⟩ := h
  have h' : Pg X.K X.mg own T W (fun Z' H' (b : V) (z : D) => ∃ k, z = .int k ∧ b = .int k) ((fun ρ => M.bind (eVar i ρ) fun x => M.bind (fe ρ) fun y => M.lift (gg x y)) ρ ω) ρ σ Z H (fun b H' => E.nx (σ.set i (some b)) H') := by
    refine Ps_E (kk := fun d ρ ω => .nx (ρ.set i (some d)) ω) h fun d ω' b H' Z' e' S' rb p => ?_
    obtain ⟨k, rfl, rfl⟩ := rb
    exact p _ H' Z' (.refl _ _) (S'.set no (.int k))
  rcases eVar_cases i ρ ω with ⟨d, hd, e⟩ | e
  · obtain ⟨_, v, h1, h2⟩ := S.sh i d hd
    simp only [M.bind, e] at h'
    refine ⟨v, h1, Z, ρ, ω, S, Pg.bind (k := fun y => M.lift (gg d y)) h' fun dy ω1 y H1 Z1 e1 S1 r1 g1 => ?_⟩
    obtain ⟨z, eg, g2⟩ := g1.lift
    obtain ⟨i1, j1, k1, rfl, rfl, rfl, hq⟩ := hr _ _ _ eg
    cases h2
    cases r1
    exact hq _ _ (g2 (.int k1) H1 Z1 (.refl _ _) S1 ⟨k1, rfl, rfl⟩)
  · simp only [M.bind, e] at h'; exact h'.elim
theorem s_augI {r : TIp} {gg : D → D → Option D} {op : Operator} (C : Cf X W k) (hr : AugR r gg) (ho : PIp X op r) (hj : own[j]? = some i) (hN : X.N[i]? = some x) (hv : Vis X.env.scope x) (hi : PE X b (vE X own T W fi)) (he : PE X e (vE X own T W fe))
    (ha : ∀ ov iv new, augStore b ov iv new = (do holding [new, ov, iv] (setItem ov iv new); release [new, ov, iv] []; pure .next)) (hd : (x == ("__debug__" : Str)) = false) (hcd : (x == ("__classdict__" : Str)) = false) :
    PS X (.AugAssign (.Subscript (.Name x p) b tpos) op e pos) (wS X own T W R (sAugI j fi gg fe)) := by
  refine PS.imp (ps_augS (pe_var hN hv hd hcd) hi get_list he ho (PSet.or set_list (set_dict (by have := C.hu; omega))) ha) fun E σ H h => ?_
  obtain ⟨Z, ρ, ω, S, h⟩ := h
  rcases eOwn_cases j ρ ω with ⟨d0, hd0, e0⟩ | e0
  · obtain ⟨a, ga, _, _, _⟩ := S.ow j i d0 hj hd0
    have h' : Pg X.K X.mg own T W (fun Z' H' vs ds => RpA X.K Z' H' vs ds) (augE j fi gg fe ρ ω) ρ σ Z H (fun vs H' => ∀ v k, vs = [v, k] → rSetL (.ref a) k v H' (fun H6 => E.nx σ H6) ∨ rSetD (.ref a) k v H' fun H6 => E.nx σ H6) := by
      refine Ps_E (a := augE j fi gg fe) (kk := mutK j gPut) h fun ds ω' vs H' Z' e' S' r p v k hv => ?_
      subst hv
      obtain ⟨d, d', g1, g2, p'⟩ := mut_end p
      obtain ⟨a', h1', nz', c', _⟩ := S'.ow j i d hj g1
      rw [ga] at h1'; cases h1'
      cases r with
      | cons r1 r2 => cases r2 with
        | cons r2 r3 =>
          cases r3
          exact put_set (kv := v) (Q := fun H6 => E.nx σ H6) c' nz' r1 r2 g2 fun o co => put_run S' hj g1 ga co p'
    refine ⟨.ref a, ga, ?_⟩
    obtain ⟨d1, a1, _, _, _, _, h1⟩ := own_run (kk := fun _ => M.bind (fi ρ) fun k => M.bind (eOwn j ρ) fun d => M.bind (M.lift (idxD d k)) fun x => M.bind (fe ρ) fun y => M.bind (M.lift (gg x y)) fun z => M.pure [z, k]) S hj h'
    refine ⟨Z, ρ, ω, S, Pg.bind (k := fun k => M.bind (eOwn j ρ) fun d => M.bind (M.lift (idxD d k)) fun x => M.bind (fe ρ) fun y => M.bind (M.lift (gg x y)) fun z => M.pure [z, k]) h1 fun dk ω1 k H1 Z1 e1 S1 r1 g1 => ?_⟩
    obtain ⟨d2, a2, w1, w2, nz, c, g2⟩ := own_run S1 hj g1
    rw [ga] at w2; cases w2
    cases ei : idxD d2 dk with
    | none => simp only [M.bind, ei, M.lift] at g2; exact g2.elim
    | some dx =>
      simp only [M.bind, ei, M.lift] at g2
      cases c with
      | dic => cases dk <;> simp [idxD] at ei
      | @lst xs ds c1 n1 q1 =>
        cases dk <;> simp only [idxD] at ei <;> try contradiction
        cases r1
        obtain ⟨x, e2, rx⟩ := atI_D q1 ei
        refine ⟨a, xs, _, x, rfl, rfl, .inl (.inl c1), e2, Z1, ρ, ω1, S1, Pg.bind (k := fun y => M.bind (M.lift (gg dx y)) fun z => M.pure [z, _]) g2 fun dy ω2 y H2 Z2 e3 S2 r2 g3 => ?_⟩
        cases eg : gg dx dy with
        | none => simp only [M.bind, eg, M.lift] at g3; exact g3.elim
        | some dz =>
          simp only [M.bind, eg, M.lift] at g3
          obtain ⟨i1, j1, k1, rfl, rfl, rfl, hq⟩ := hr _ _ _ eg
          cases rx
          cases r2
          exact hq _ _ (g3 [.int k1, .int _] H2 Z2 (.refl _ _) S2 (.cons (.int _) (.cons (.int _) .nil)) _ _ rfl)
  · exfalso
    obtain ⟨d, hd, _⟩ := Ps_own (k := fun _ => fun ρ => M.bind (fi ρ) fun k => M.bind (eOwn j ρ) fun d => M.bind (M.lift (idxD d k)) fun x => M.bind (fe ρ) fun y => M.bind (M.lift (gg x y)) fun z => M.pure [z, k]) h
    unfold eOwn at e0
    rw [hd] at e0
    cases e0
end
end Wc

set_option Elab.async false
set_option linter.all false
set_option maxRecDepth 100000
set_option maxHeartbeats 1000000
/-! Wc.Stm5: loops, raise. -/
namespace Wc
open PySem PySem.Spec PyProof.Rows L2
variable {O : Addr → Prop} {K : PySem.W.Frag} {mg : Str → Option Value} {Z Z' : Addr → Prop} {H H' : Hp} {own : List Nat} {T : Ent} {ρ ρ' : Env} {ω ω' : Om} {σ : L2.St} {W : WX} {v : V} {vs : List V} {d d' : D} {ds : List D}
/-- the ends of a loop's turn -/
theorem Ps.turn {E : Ends} {R : RR} {N : L2.St → Hp → Prop} {r : SR} {k : Env → Om → SR} (h : Ps K mg own T W R E (match r with
      | .nx ρ2 ω2 => k ρ2 ω2
      | .ct ρ2 ω2 => k ρ2 ω2
      | .bk ρ2 ω2 => .nx ρ2 ω2
      | r => r) Z H) (hN : ∀ ρ2 ω2 σ' H' Z', Ext Tr Z H Z' H' → Sx K own T Z' ρ2 ω2 σ' H' → Ps K mg own T W R E (k ρ2 ω2) Z' H' → N σ' H') : Ps K mg own T W R { E with nx := N, ct := N, bk := E.nx } r Z H := by
  cases r with
  | nx ρ2 ω2 => exact fun σ' H' Z' e S => hN ρ2 ω2 σ' H' Z' e S (h.ext e)
  | ct ρ2 ω2 => exact fun σ' H' Z' e S => hN ρ2 ω2 σ' H' Z' e S (h.ext e)
  | bk ρ2 ω2 => exact h
  | rt d ω2 => exact h
  | ex x ρ2 ω2 => exact h
  | bad => exact h
section
variable {X : Cx} {a b e : Expr} {fa fb fe fi fv : EE} {w : WW} {t : Tg} {ts : List Tg} {tg iter elt : Expr} {es : List Expr} {p pos pos' tpos apos cpos : Pos} {k i j : Nat} {x : Str} {c : TT} {R : RR} {f g : SS} {st : Stmt} {rest body : List Stmt}
theorem s_for (C : Cf X W k) (hp : PassesOwn (model X.prog X.w) X.A X.env X.xe) (hi : PI X tg iter (vW X own T W w)) (hg : PG X tg (gOf X.K t)) (no : ∀ i ∈ tgIx t, i ∉ own) (hb : PSs X body (wS X own T W R f))
    (hs : ∀ x, foldedSetIterable iter X.env x = pure x) : PS X (.For tg iter body [] pos) (wS X own T W R (sFor t w f)) := by
  refine PS.imp (ps_for hp C.calm hi hg hb hs) fun E σ H h => ?_
  refine vS_E (a := w) (kk := fun xs => sForGo t f xs) h fun ds ρ ω J H1 Z1 S1 wk h1 => ?_
  let Iv : Nat → L2.St → Hp → Prop := fun i σ H => ∃ Z ρ ω, i ≤ ds.length ∧ Ext Tr Z1 H1 Z H ∧ Sx X.K own T Z ρ ω σ H ∧ Ps X.K X.mg own T W R E (sForGo t f (ds.drop i) ρ ω) Z H
  refine ⟨fun i m σ H => m = ds.length - i ∧ Iv i σ H, ⟨ds.length, by simp, Z1, ρ, ω, Nat.zero_le _, .refl _ _, S1, by simpa using h1⟩, ?_⟩
  rintro i m σ H ⟨rfl, Z, ρ, ω, hi, e, S, h⟩
  by_cases hlt : i < ds.length
  · refine .inr ⟨wk.go _ i Z H e hlt, Iv (i + 1), fun σ' H' q => ⟨ds.length - (i + 1), by omega, rfl, q⟩, fun x H' y => ?_⟩
    have hd : ds[i]? = some ds[i] := List.getElem?_eq_getElem hlt
    obtain ⟨near, rx⟩ := wk.yld _ i Z H x H' _ e hd y
    have hdrop : ds.drop i = ds[i] :: ds.drop (i + 1) := List.drop_eq_getElem_cons hlt
    rw [hdrop] at h
    unfold sForGo at h
    cases hbd : bindT t ds[i] ρ with
    | none => rw [hbd] at h; exact h.elim
    | some ρ' =>
      rw [hbd] at h
      have S' := near.sx S
      refine g_of t no hbd S' rx fun σ2 S2 _ => ⟨Z, ρ', ω, S2, ?_⟩
      refine Ps.turn (k := sForGo t f (ds.drop (i + 1))) (h.ext (near.ext (O := Tr))) fun ρ2 ω2 σ3 H3 Z3 e3 S3 h3 => ?_
      exact ⟨Z3, ρ2, ω2, hlt, (e.trans near.ext).trans e3, S3, h3⟩
  · have q : i = ds.length := by omega
    subst q
    rw [List.drop_length] at h
    exact .inl ⟨wk.stop _ Z H e, h σ H Z (.refl _ _) S⟩
theorem sWhile_or (c : TT) (b : SS) (ρ : Env) (ω : Om) : (∃ n, whN c b n ρ ω = some (sWhile c b ρ ω)) ∨ sWhile c b ρ ω = .bad := by
  unfold sWhile
  by_cases h : ∃ n r, whN c b n ρ ω = some r
  · rw [dif_pos h]
    exact .inl ⟨_, h.choose_spec.choose_spec⟩
  · rw [dif_neg h]
    exact .inr rfl
theorem s_while {ca : Expr} (hp : PassesOwn (model X.prog X.w) X.A X.env X.xe) (hc : PT X ca (vT X own T W c)) (hb : PSs X body (wS X own T W R f)) : PS X (.While ca body [] pos) (wS X own T W R (sWhile c f)) := by
  refine PS.imp (ps_while hp hc hb) fun E σ H h => ?_
  obtain ⟨Z, ρ, ω, S, h⟩ := h
  rcases sWhile_or c f ρ ω with ⟨n, hn⟩ | hb
  · let Iv : Nat → L2.St → Hp → Prop := fun n σ H => ∃ Z ρ ω r, Sx X.K own T Z ρ ω σ H ∧ whN c f n ρ ω = some r ∧ Ps X.K X.mg own T W R E r Z H
    refine ⟨Iv, ⟨n, Z, ρ, ω, _, S, hn, h⟩, ?_⟩
    rintro m σ H ⟨Z, ρ, ω, r, S, hr, h⟩
    cases m with
    | zero => unfold whN at hr; cases hr
    | succ m =>
      unfold whN at hr
      refine ⟨Z, ρ, ω, S, ?_⟩
      cases hcq : c ρ ω with
      | bad => rw [hcq] at hr; cases hr; exact h
      | ex x ω' => rw [hcq] at hr; cases hr; exact fun cc dd H' Z' e S' r => h cc dd σ H' Z' e.tr S' r
      | ok kk ω1 =>
        rw [hcq] at hr
        intro b H1 Z1 e1 S1 rb
        subst rb
        cases b with
        | false =>
          cases hr
          rw [if_neg Bool.false_ne_true]
          exact h σ H1 Z1 e1.tr S1
        | true =>
          rw [if_pos rfl]
          refine ⟨Iv m, fun σ' H' q => ⟨m, Nat.lt_succ_self m, q⟩, Z1, ρ, ω1, S1, ?_⟩
          have h1 := h.ext e1
          simp only at hr
          cases hf : f ρ ω1 with
          | nx ρ2 ω2 => rw [hf] at hr; exact fun σ' H' Z' e' S' => ⟨Z', ρ2, ω2, r, S', hr, h1.ext e'⟩
          | ct ρ2 ω2 => rw [hf] at hr; exact fun σ' H' Z' e' S' => ⟨Z', ρ2, ω2, r, S', hr, h1.ext e'⟩
          | bk ρ2 ω2 => rw [hf] at hr; cases hr; exact h1
          | rt d ω2 => rw [hf] at hr; cases hr; exact h1
          | ex x ρ2 ω2 => rw [hf] at hr; cases hr; exact h1
          | bad => rw [hf] at hr; cases hr; exact h1
  · rw [hb] at h; exact h.elim
end
end Wc

set_option Elab.async false
set_option linter.all false
set_option maxRecDepth 100000
set_option maxHeartbeats 1000000
/-! Wc.Def: a def keeps its promise. -/
namespace Wc
open PySem PySem.Spec PyProof.Rows L2
variable {P : Program} {w : World} {K : PySem.W.Frag} {mg : Str → Option Value} {base : Heap} {tb : List (Addr × Str)}
/-- the promise of a def whose result is a new list or dict of the caller's own -/
def SpF (K : PySem.W.Frag) (mg : Str → Option Value) (tb : List (Addr × Str)) (mask : List Bool) (m : FM) : Sp := fun vs H Q E => ∃ Z ds as os, ArgsR K Z H mask vs ds as os ∧ (∀ a, Z a → ∃ o, H a = some o ∧ ∀ ps, o ≠ .tbl ps) ∧ LamX.Tabs tb H ∧
  match m ds (os.map some) with
  | .ok d ω => ∀ v H' Z', PostC K tb as Z H Z' H' ω → Fr K tb H Z' H' v d → Q v H'
  | .ex x ω => ∀ c dd H' Z', PostC K tb as Z H Z' H' ω → XRp K mg Z' H' c dd x → E c dd H'
  | .bad => False
theorem SpM.len {mask : List Bool} {m : FM} {vs : List V} {H : Hp} {Q : VK} {E : XK} (h : SpM K mg tb mask m vs H Q E) : vs.length = mask.length := by
  obtain ⟨Z, ds, as, os, A, _⟩ := h
  exact A.len
theorem SpF.len {mask : List Bool} {m : FM} {vs : List V} {H : Hp} {Q : VK} {E : XK} (h : SpF K mg tb mask m vs H Q E) : vs.length = mask.length := by
  obtain ⟨Z, ds, as, os, A, _⟩ := h
  exact A.len
/-- behind a def's body -/
theorem post_of {mask : List Bool} {vs : List V} {ds : List D} {as : List Addr} {os : List D} {more : List Nat} {H H' : Hp} {Z Z' : Addr → Prop} {ρ' : Env} {ω' : Om} {σ' : L2.St} (A : ArgsR K Z H mask vs ds as os) (zd : ∀ a, Z a → ∃ o, H a = some o ∧ ∀ ps, o ≠ .tbl ps)
    (S : Sx K (ownIx mask 0 ++ more) ⟨cutT tb H, Z, as, tb⟩ Z' ρ' ω' σ' H') (e : Ext Tr Z H Z' H') : PostC K tb as Z H Z' H' (ω'.take as.length) := by
  have keep : ∀ a o, H a = some o → a ∉ as → (∀ ps, o ≠ .tbl ps) → H' a = some o := fun a o h n t => S.keep a o (cutT_eq h t) n t
  refine ⟨⟨e.z, e.h, e.t, fun a o h n t => keep a o h n t, fun a o z n h t => ?_⟩, keep, fun a z => ?_, S.zd, S.tabs, ?_, fun t a h => ?_⟩
  · rcases S.zz a z with z | z
    · exact z
    · have z' : cutT tb H a = none := z
      rw [cutT_eq h t] at z'; cases z'
  · rcases S.zz a z with z2 | z2
    · exact .inl z2
    · refine .inr fun o ho => ?_
      have z' : cutT tb H a = none := z2
      by_cases ht : ∃ ps, o = .tbl ps
      · refine ⟨ht, fun q hq => ?_⟩
        obtain ⟨ps, rfl⟩ := ht
        unfold cutT at z'
        rw [ho] at z'
        simp only at z'
        rw [if_pos ⟨q, hq⟩] at z'; cases z'
      · rw [cutT_eq ho fun ps y => ht ⟨ps, y⟩] at z'; cases z'
  · have h1 : ω'.length = (ownIx mask 0 ++ more).length := S.wl
    have h2 := A.ownN 0
    rw [List.length_take, h1, List.length_append]; omega
  · obtain ⟨i, d, h1, h2, h3⟩ := S.par t a h
    obtain ⟨b, h4, nz, c, _⟩ := S.ow t i d h1 h3
    rw [h2] at h4; cases h4
    have : t < as.length := (List.getElem?_eq_some_iff.mp h).1
    exact ⟨d, by rw [List.getElem?_take, if_pos this]; exact h3, nz, c⟩
/-- the context of a def's body -/
abbrev Bx (P : Program) (w : World) (K : PySem.W.Frag) (mg : Str → Option Value) (base : Heap) (N : List Str) (qual : Str) (sc : Scope) (f : Addr) (cdv : Value) (A : Around) (outer : List PySem.Env) (s : Shared) (H : Hp) (E : XK) : Cx := cxOf (L2.CX P w) P w K mg base N qual sc f cdv A outer s H E
/-- what a body's proof is for: any entry -/
def Body (P : Program) (w : World) (K : PySem.W.Frag) (mg : Str → Option Value) (base : Heap) (tb : List (Addr × Str)) (N : List Str) (qual : Str) (sc : Scope) (k : Nat) (own : List Nat) (np : Nat) (st : List Stmt) (RRf : Ent → RR) (b : SS) : Prop :=
  ∀ (f : Addr) (cdv : Value) (A : Around) (outer : List PySem.Env) (s : Shared) (H : Hp) (E : XK) (H0 : Hp) (Z : Addr → Prop) (as : List Addr), as.length = np →
    Cf (Bx P w K mg base N qual sc f cdv A outer s H E) (fun c d _ H => E c d H) k → PSs (Bx P w K mg base N qual sc f cdv A outer s H E) st (wS (Bx P w K mg base N qual sc f cdv A outer s H E) own ⟨H0, Z, as, tb⟩ (fun c d _ H => E c d H) (RRf ⟨H0, Z, as, tb⟩) b)
theorem Cf.of {N : List Str} {qual : Str} {sc : Scope} {f : Addr} {cdv : Value} {A : Around} {outer : List PySem.Env} {s : Shared} {H : Hp} {E : XK} {k : Nat} (nd : N.Nodup) (hr : Room k (A.deeper (envOfC qual sc s.heap.objs.size f cdv))) : Cf (Bx P w K mg base N qual sc f cdv A outer s H E) (fun c d _ H => E c d H) k :=
  ⟨rfl, nd, hr, takes_of rfl rfl rfl rfl⟩
section
variable {x qual : Str} {st : Stmt} {f : Addr} {fd : FuncData} {N ps : List Str} {k : Nat} {mask : List Bool} {more : List Nat} {b : SS}
theorem fn_def (F : L2.Fun K x qual st f fd) (S : FnScope N ps (defScope st)) (hl : mask.length = ps.length) (hN : mask.length ≤ N.length) (nd : (ownIx mask 0 ++ more).Nodup)
    (hm : ∀ i ∈ more, mask.length ≤ i ∧ i < N.length) (hb : Body P w K mg base tb N qual (defScope st) k (ownIx mask 0 ++ more) (ownIx mask 0).length (defBody st) (fun _ => Rp K) b) : FnOk P w K mg base (L2.CX P w) (k + 1) f fd ps (SpM K mg tb mask (defM mask N.length more.length b)) := by
  refine F.okX S (fun vs H Q E h => by rw [SpM.len h, hl]) (fun cdv A outer s H vs Q E hr h => ?_)
  obtain ⟨Z, ds, as, os, a1, zd, tabs, h⟩ := h
  have hn := a1.ownN 0
  have hlo := a1.lenO
  refine ⟨_, hb f cdv A outer s H E (cutT tb H) Z as hn.symm (Cf.of S.nd hr), Z, _, _, Sx.entry a1 zd tabs hN nd hm, ?_⟩
  unfold defM at h
  rw [List.length_map] at h
  cases q : b (entryE mask ds ++ List.replicate (N.length - mask.length) none) (os.map some ++ List.replicate more.length none) with
  | nx ρ' ω' =>
    rw [q] at h
    exact fun σ' H' Z' e S' => h .non H' Z' (hlo ▸ post_of a1 zd S' e) .non
  | rt d ω' =>
    rw [q] at h
    exact fun v σ' ρ' H' Z' e S' r => h v H' Z' (hlo ▸ post_of a1 zd S' e) r
  | ex x ρ' ω' =>
    rw [q] at h
    exact fun c dd σ' H' Z' e S' r => h c dd H' Z' (hlo ▸ post_of a1 zd S' e) r
  | bk => rw [q] at h; exact h.elim
  | ct => rw [q] at h; exact h.elim
  | bad => rw [q] at h; exact h.elim
theorem Nw.cut {H : Hp} {a : Addr} (h : Nw tb (cutT tb H) a) : Nw tb H a := fun o ho => by
  by_cases ht : ∃ ps, o = .tbl ps
  · refine ⟨ht, fun q hq => ?_⟩
    obtain ⟨ps, rfl⟩ := ht
    have e : cutT tb H a = some (.tbl ps) := by
      unfold cutT
      rw [ho]
      simp only
      rw [if_pos ⟨q, hq⟩]
    exact (h _ e).2 q hq
  · exact h o (cutT_eq ho fun ps z => ht ⟨ps, z⟩)
theorem fn_defF (F : L2.Fun K x qual st f fd) (S : FnScope N ps (defScope st)) (hl : mask.length = ps.length) (hN : mask.length ≤ N.length) (nd : (ownIx mask 0 ++ more).Nodup)
    (hm : ∀ i ∈ more, mask.length ≤ i ∧ i < N.length) (hb : Body P w K mg base tb N qual (defScope st) k (ownIx mask 0 ++ more) (ownIx mask 0).length (defBody st) (fun T => Fr K T.tb T.H0) b) : FnOk P w K mg base (L2.CX P w) (k + 1) f fd ps (SpF K mg tb mask (defF mask N.length more.length b)) := by
  refine F.okX S (fun vs H Q E h => by rw [SpF.len h, hl]) (fun cdv A outer s H vs Q E hr h => ?_)
  obtain ⟨Z, ds, as, os, a1, zd, tabs, h⟩ := h
  have hn := a1.ownN 0
  have hlo := a1.lenO
  refine ⟨_, hb f cdv A outer s H E (cutT tb H) Z as hn.symm (Cf.of S.nd hr), Z, _, _, Sx.entry a1 zd tabs hN nd hm, ?_⟩
  unfold defF at h
  rw [List.length_map] at h
  cases q : b (entryE mask ds ++ List.replicate (N.length - mask.length) none) (os.map some ++ List.replicate more.length none) with
  | nx ρ' ω' => rw [q] at h; exact h.elim
  | rt d ω' =>
    rw [q] at h
    exact fun v σ' ρ' H' Z' e S' ⟨a, ha, n1, n2, c⟩ => h v H' Z' (hlo ▸ post_of a1 zd S' e) ⟨a, ha, n1.cut, n2, c⟩
  | ex x ρ' ω' =>
    rw [q] at h
    exact fun c dd σ' H' Z' e S' r => h c dd H' Z' (hlo ▸ post_of a1 zd S' e) r
  | bk => rw [q] at h; exact h.elim
  | ct => rw [q] at h; exact h.elim
  | bad => rw [q] at h; exact h.elim
end
/-- a call of a def whose result is the caller's own -/
theorem f_call {X : Cx} {own : List Nat} {T : Ent} {W : WX} {e : Expr} {es : List Expr} {pos p2 : Pos} {k : Nat} {x : Str} {l : List Ar} {m : FM} {j : Nat} (C : Cf X W k) (hc : Callee X.prog X.w X.K X.mg X.base j x (SpF X.K X.mg T.tb (maskA l) m)) (hk : j ≤ k) (hg : Gl X x) (ha : PA X (e :: es) (vX X own T W l)) (nd : (owns l).Nodup)
    (hdb : (x == ("__debug__" : Str)) = false) (he : starEach (e :: es) X.env = (false, eval e X.env) :: starEach es X.env) (hpl : (backTo pos (starEach es X.env)).any (·.1) = false) :
    PE X (.Call (.Name x p2) (e :: es) [] pos) (vF X own T W (eCall m l)) := by
  obtain ⟨f, fd, ps, hm, hkp, hb, F⟩ := hc.ex
  refine PE.imp (pe_callS F (C.room.mono hk) hg hm hkp hb (fun σ => passAt C.tk σ) ha hdb he hpl) fun σ H Q h => ?_
  obtain ⟨Z, ρ, ω, S, h⟩ := h
  refine ⟨Z, ρ, ω, S, Pg.bind (k := fun xs => callM m (owns l) xs) h fun ds ω1 vs H1 Z1 e1 S1 r1 h1 => ?_⟩
  unfold callM at h1
  split at h1
  · rename_i al
    obtain ⟨as, os, h2, h3, h4, h5⟩ := r1.args S1 nd al
    have ow : ∀ a, a ∈ as → Ow own σ a := fun a hm => by
      obtain ⟨t, ht⟩ := List.getElem?_of_mem hm
      have l1 : t < as.length := (List.getElem?_eq_some_iff.mp ht).1
      obtain ⟨i, d, e1, _, e3⟩ := h5 t _ a (List.getElem?_eq_getElem (h4 ▸ l1)) ht
      exact ⟨i, List.mem_of_getElem? e1, e3⟩
    refine ⟨Z1, ds, as, os, h2, S1.zd, S1.tabs, ?_⟩
    rw [h3] at h1
    cases q : m ds (os.map some) with
    | ok d ω' =>
      rw [q] at h1
      refine fun v H' Z' P r => h1 v H' Z' (P.e.weak ow) (S1.called nd h4 h5 P) ?_
      obtain ⟨a, rfl, n1, n2, c⟩ := r
      refine ⟨a, rfl, fun o ho => ?_, n2, c⟩
      by_cases ht : ∃ ps, o = .tbl ps
      · refine ⟨ht, fun q hq => ?_⟩
        obtain ⟨ps', e', _⟩ := S1.tabs _ hq
        exact (n1 _ e').2 q hq
      · exfalso
        by_cases hw : Ow own σ a
        · exact (S1.nw n1).2 hw
        · exact ht (n1 _ (e1.f a o ho hw fun ps z => ht ⟨ps, z⟩)).1
    | ex x ω' =>
      rw [q] at h1
      exact fun c dd H' Z' P r => h1 c dd H' Z' (P.e.weak ow) (S1.called nd h4 h5 P) r
    | bad => rw [q] at h1; exact h1
  · exact h1.elim
end Wc

set_option Elab.async false
set_option linter.all false
set_option maxRecDepth 100000
set_option maxHeartbeats 1000000
/-! Wc.More: contexts, short forms for the printed proofs. -/
namespace Wc
open PySem PySem.Spec PyProof.Rows L2
section
variable {X : Cx} {own : List Nat} {T : Ent} {W : WX} {a b c e : Expr} {fa fb fc f : EE} {pos p2 : Pos} {k i j : Nat} {x : Str}
theorem Cf.blk (C : Cf X W k) {s : Shared} {H : Hp} {sc : Scope} {ce : PySem.Env} {fp : List Addr} : Cf (X.blk s H sc ce fp) WF k := ⟨C.calm, C.nd, C.room, takes0⟩
theorem Cf.tr (C : Cf X W k) {pn : List (Addr × Obj)} {xe : Value → Shared → Prop} {W' : WX} (tk : Takes (X.tr pn xe) W') : Cf (X.tr pn xe) W' k := ⟨C.calm, C.nd, C.room, tk⟩
theorem np_of {α : Type} {as : List α} {n j : Nat} (h : as.length = n) (l : n ≤ j) : as.length ≤ j := h ▸ l
theorem con_int {i : Int} (h : ∃ t, X.mg x = some (.int i t)) : Con' X x (.int i) := by obtain ⟨t, h⟩ := h; exact .int h
theorem con_str {z : Str} (h : ∃ t, X.mg x = some (.str z t)) (n : z.length ≤ LIM) : Con' X x (.str z) := by obtain ⟨t, h⟩ := h; exact .str h n
/-- an owned place, sliced -/
def eSlO (j : Nat) (lo hi : Option EE) : EE := fun ρ => M.bind (eOwn j ρ) fun _ => M.bind (part lo ρ) fun l => M.bind (part hi ρ) fun h => M.bind (eOwn j ρ) fun x => M.lift (slD x l h)
theorem e_slO {lo hi : Option Expr} {fl fh : Option EE} {p3 : Pos} (hj : own[j]? = some i) (hN : X.N[i]? = some x) (hv : Vis X.env.scope x) (hl : PO X lo (vO X own T W (part fl))) (hh : PO X hi (vO X own T W (part fh))) (hd : (x == ("__debug__" : Str)) = false) (hcd : (x == ("__classdict__" : Str)) = false) :
    PE X (.Subscript (.Name x p2) (.Slice lo hi none p3) pos) (vE X own T W (eSlO j fl fh)) := by
  refine PE.imp (pe_slice sl_all (pe_var hN hv hd hcd) hl hh) fun σ H Q h => ?_
  obtain ⟨Z, ρ, ω, S, h⟩ := h
  obtain ⟨d0, a, _, ga, _, _, h⟩ := own_run (kk := fun _ => M.bind (part fl ρ) fun l => M.bind (part fh ρ) fun h => M.bind (eOwn j ρ) fun x => M.lift (slD x l h)) S hj h
  refine ⟨.ref a, ga, Z, ρ, ω, S, Pg.bind (k := fun l => M.bind (part fh ρ) fun h => M.bind (eOwn j ρ) fun x => M.lift (slD x l h)) h fun l ω2 l' H2 Z2 e2 S2 r2 h2 => ⟨Z2, ρ, ω2, S2, Pg.bind (k := fun h => M.bind (eOwn j ρ) fun x => M.lift (slD x l h)) h2 fun hh' ω3 hh2 H3 Z3 e3 S3 r3 h3 => ?_⟩⟩
  subst r2 r3
  obtain ⟨d, a', _, ga', _, c, h4⟩ := own_run S3 hj h3
  rw [ga] at ga'; cases ga'
  obtain ⟨d', eg, h5⟩ := Pg.lift h4
  exact sl_rd S3 c.rr eg fun v' H' Z' e' S' r' => h5 v' H' Z' e' S' r'
/-- code that is not followed -/
def sBad : SS := fun _ _ => .bad
theorem ps_bad {st : Stmt} {R : RR} : PS X st (wS X own T W R sBad) := PS.imp ps_never fun E σ H ⟨Z, ρ, ω, S, h⟩ => h.elim
end
end Wc

set_option Elab.async false
set_option linter.all false
set_option maxRecDepth 100000
set_option maxHeartbeats 1000000
/-! Wc.More2: sorted, join, list.index, range down. -/
namespace Wc
open PySem PySem.Spec PyProof.Rows L2
def intOf : D → Option Int
  | .int i => some i
  | _ => none
def leS (a b : Str) : Bool := !(PySem.Spec.ltCps b.cps.toList a.cps.toList)
def sortD : D → Option D
  | .list ds => match ds.mapM intOf with
    | some ns => some (.list ((ns.mergeSort fun a b => decide (a ≤ b)).map .int))
    | none => match ds.mapM strOf with
      | some zs => if zs.length < 64 then some (.list ((zs.mergeSort leS).map .str)) else none
      | none => none
  | .dict es => match (es.map (·.1)).mapM intOf with
    | some ns => if ns.length < 64 then some (.list ((ns.mergeSort fun a b => decide (a ≤ b)).map .int)) else none
    | none => none
  | _ => none
def joinD : D → D → Option D
  | .str a, d => match seqD d with
    | some ds => match ds.mapM strOf with
      | some zs => if decide ((zs.map (·.length)).sum + zs.length * a.length ≤ LIM) && decide ((Txt.join a zs).length ≤ LIM) then some (.str (Txt.join a zs)) else none
      | none => none
    | none => none
  | _, _ => none
def asStr : D → Option D
  | .str a => some (.str a)
  | _ => none
def asList : D → Option D
  | .list a => some (.list a)
  | _ => none
/-- the receiver's kind is looked at ahead of the argument -/
def e2k (k : D → Option D) (g : D → D → Option D) (a b : EE) : EE := fun ρ => M.bind (a ρ) fun x => M.bind (M.lift (k x)) fun x => M.bind (b ρ) fun y => M.lift (g x y)
def findD : D → D → Option D
  | .list ds, d => if SeqAt.shaped (.list ds) && SeqAt.shaped d && (PyData.list ds).plain && d.plain then (ds.findIdx? fun z => PyData.eqv z d).map (fun (i : Nat) => PyData.int (i : Int)) else none
  | _, _ => none
variable {O : Addr → Prop} {K : PySem.W.Frag} {mg : Str → Option Value} {Z Z' : Addr → Prop} {H H' : Hp} {own : List Nat} {T : Ent} {ρ ρ' : Env} {ω ω' : Om} {σ : L2.St} {W : WX} {v : V} {vs : List V} {d d' : D} {ds : List D}
theorem ints_of : ∀ {vs : List V} {ds : List D} {ns : List Int}, RpA K Z H vs ds → ds.mapM intOf = some ns → vs = ns.map V.int
  | [], [], ns, .nil, e => by simp at e; subst e; rfl
  | v :: vs, d :: ds, ns, .cons h t, e => by
    rw [List.mapM_cons] at e
    cases hb : intOf d with
    | none => rw [hb] at e; cases e
    | some b =>
      cases hr : ds.mapM intOf with
      | none => rw [hb, hr] at e; cases e
      | some bs' =>
        rw [hb, hr] at e
        cases e
        rw [ints_of t hr, List.map_cons]
        cases d <;> simp only [intOf] at hb <;> try contradiction
        cases hb; cases h; rfl
theorem strs_of : ∀ {vs : List V} {ds : List D} {zs : List Str}, RpA K Z H vs ds → ds.mapM strOf = some zs → vs = zs.map V.str ∧ ∀ z ∈ zs, z.length ≤ LIM
  | [], [], zs, .nil, e => by simp at e; subst e; exact ⟨rfl, by simp⟩
  | v :: vs, d :: ds, zs, .cons h t, e => by
    rw [List.mapM_cons] at e
    cases hb : strOf d with
    | none => rw [hb] at e; cases e
    | some b =>
      cases hr : ds.mapM strOf with
      | none => rw [hb, hr] at e; cases e
      | some bs' =>
        rw [hb, hr] at e
        cases e
        obtain ⟨h1, h2⟩ := strs_of t hr
        cases d <;> simp only [strOf] at hb <;> try contradiction
        cases hb
        cases h with
        | str _ n => exact ⟨by rw [h1, List.map_cons], fun z hz => (List.mem_cons.mp hz).elim (fun e => e ▸ n) (h2 z)⟩
theorem rp_ints : ∀ ns : List Int, RpA K Z H (ns.map V.int) (ns.map PyData.int)
  | [] => .nil
  | n :: ns => .cons (.int n) (rp_ints ns)
theorem rp_strs : ∀ zs : List Str, (∀ z ∈ zs, z.length ≤ LIM) → RpA K Z H (zs.map V.str) (zs.map PyData.str)
  | [], _ => .nil
  | z :: zs, h => .cons (.str z (h z List.mem_cons_self)) (rp_strs zs fun y hy => h y (List.mem_cons_of_mem _ hy))
/-- one order alone -/
theorem sorted_unique {α : Type} (le : α → α → Prop) (anti : ∀ a b, le a b → le b a → a = b) : ∀ {xs ys : List α}, xs.Perm ys → xs.Pairwise le → ys.Pairwise le → xs = ys
  | [], ys, p, _, _ => by rw [List.nil_perm.mp p]
  | x :: xs, [], p, _, _ => by simp at p
  | x :: xs, y :: ys, p, h1, h2 => by
    have e : x = y := by
      have hx : x ∈ y :: ys := p.subset List.mem_cons_self
      have hy : y ∈ x :: xs := p.symm.subset List.mem_cons_self
      rcases List.mem_cons.mp hx with e | hx
      · exact e
      · rcases List.mem_cons.mp hy with e | hy
        · exact e.symm
        · exact anti x y (List.rel_of_pairwise_cons h1 hy) (List.rel_of_pairwise_cons h2 hx)
    subst e
    rw [sorted_unique le anti (List.Perm.cons_inv p) h1.tail h2.tail]
theorem sortI_eq {ns ys : List Int} (p : ys.Perm ns) (h : ys.Pairwise (· ≤ ·)) : ys = ns.mergeSort fun a b => decide (a ≤ b) := by
  refine sorted_unique (· ≤ ·) (fun a b => Int.le_antisymm) (p.trans (List.mergeSort_perm ns _).symm) h ?_
  have := List.pairwise_mergeSort (le := fun a b : Int => decide (a ≤ b)) (fun a b c h1 h2 => by simp only [decide_eq_true_eq] at *; omega) (fun a b => by simp only [Bool.or_eq_true, decide_eq_true_eq]; omega) ns
  exact this.imp fun h => by simpa using h
theorem leS_iff (a b : Str) : leS a b = true ↔ a.cps.toList ≤ b.cps.toList := by
  unfold leS
  rw [PyProof.Rows.ltCps_eq, Bool.not_eq_true', decide_eq_false_iff_not]
  exact List.not_lt
theorem leS_anti {a b : Str} (h1 : leS a b = true) (h2 : leS b a = true) : a = b := by
  rw [leS_iff] at h1 h2
  have := List.le_antisymm h1 h2
  cases a; cases b
  congr 1
  exact Array.ext' this
theorem leS_trans (a b c : Str) (h1 : leS a b = true) (h2 : leS b c = true) : leS a c = true := by
  rw [leS_iff] at *
  exact List.le_trans h1 h2
theorem leS_total (a b : Str) : (leS a b || leS b a) = true := by
  rw [Bool.or_eq_true, leS_iff, leS_iff]
  exact List.le_total _ _
theorem rising_pw : ∀ (p : Str) (l : List Str), risingS p l = true → (p :: l).Pairwise fun a b => leS a b = true
  | p, [], _ => by simp
  | p, x :: r, h => by
    have h' : (leS p x && risingS x r) = true := h
    rw [Bool.and_eq_true] at h'
    have ih := rising_pw x r h'.2
    refine List.pairwise_cons.mpr ⟨fun y hy => ?_, ih⟩
    rcases List.mem_cons.mp hy with e | hy
    · rw [e]; exact h'.1
    · exact leS_trans p x y h'.1 (List.rel_of_pairwise_cons ih hy)
theorem sortS_eq {zs ys : List Str} (p : ys.Perm zs) (h : sortedS ys = true) : ys = zs.mergeSort leS := by
  refine sorted_unique (fun a b => leS a b = true) (fun a b => leS_anti) (p.trans (List.mergeSort_perm zs _).symm) ?_ (List.pairwise_mergeSort (fun a b c => leS_trans a b c) leS_total zs)
  cases ys with
  | nil => exact .nil
  | cons x r => exact rising_pw x r h
def rSort' (K : PySem.W.Frag) : List V → Hp → VK → Prop := fun xs H Q => rSortedI K xs H Q ∨ rSortedS K xs H Q ∨ (∃ (a : Addr) (kvs : List (Key × V)) (ks : List Int), xs = [.ref a] ∧ Rd H a (.dK kvs) ∧ kvs.map (·.1) = ks.map Sum.inl ∧ ks.length < 64 ∧
    ∀ (ys : List Int) (p : Addr), ys.Perm ks → ys.Pairwise (· ≤ ·) → H p = none → Q (.ref p) (upd H p (.lst (ys.map V.int))))
theorem keys_ints : ∀ {kvs : List (Key × V)} {es : List (D × D)} {ns : List Int}, RpK K Z H kvs es → (es.map (·.1)).mapM intOf = some ns → kvs.map (·.1) = ns.map Sum.inl
  | [], [], ns, .nil, e => by simp at e; subst e; rfl
  | (k, v) :: kvs, (_, d) :: es, ns, .cons h t, e => by
    rw [List.map_cons, List.mapM_cons] at e
    cases k with
    | inr z => simp [kD, intOf] at e
    | inl i =>
      cases hr : (es.map (·.1)).mapM intOf with
      | none => simp [kD, intOf, hr] at e
      | some ns' =>
        simp [kD, intOf, hr] at e
        subst e
        rw [List.map_cons, List.map_cons, keys_ints t hr]
theorem us_sorted {X : Cx} : UnS X own T (one1 (rSort' X.K)) sortD := by
  intro Z ρ ω σ H x d1 d Q S h e q
  cases d1 <;> simp only [sortD] at e <;> try contradiction
  · obtain ⟨a, xs, rfl, r, n, q1⟩ := h.list
    split at e
    · rename_i ns hn
      cases e
      have hx := ints_of q1 hn
      subst hx
      rw [List.length_map] at n
      refine .inl ⟨a, ns, rfl, .inl r, fun ys p h1 h2 hp => ?_⟩
      rw [sortI_eq h1 h2]
      exact fin_lst S hp (by rw [List.length_map, List.length_mergeSort]; exact n) (rp_ints _) q
    · split at e
      · rename_i zs hz
        split at e
        · rename_i h64
          cases e
          obtain ⟨hx, hl⟩ := strs_of q1 hz
          subst hx
          rw [List.length_map] at n
          refine .inr (.inl ⟨a, zs, rfl, .inl r, h64, fun ys p h1 h2 hp => ?_⟩)
          rw [sortS_eq h1 h2]
          exact fin_lst S hp (by rw [List.length_map, List.length_mergeSort]; exact n) (rp_strs _ fun z hz => hl z ((List.mergeSort_perm zs _).subset hz)) q
        · cases e
      · cases e
  · obtain ⟨a, kvs, rfl, r, n, q1⟩ := h.dict
    split at e
    · rename_i ns hn
      split at e
      · rename_i h64
        cases e
        refine .inr (.inr ⟨a, kvs, ns, rfl, r, keys_ints q1 hn, h64, fun ys p h1 h2 hp => ?_⟩)
        rw [sortI_eq h1 h2]
        exact fin_lst S hp (by rw [List.length_map, List.length_mergeSort]; unfold LIM; omega) (rp_ints _) q
      · cases e
    · cases e
section
variable {X : Cx} {a b c e : Expr} {es : List Expr} {fa fb fc f : EE} {pos p2 p3 p4 apos : Pos} {k : Nat} {x : Str} {tg : Expr}
theorem e_sorted (C : Cf X W k) (hg : Gl X "sorted") (hm : X.mg "sorted" = none) (ha : PE X a (vR X own T W fa)) (hs : starEach [a] X.env = (false, eval a X.env) :: starEach [] X.env) : PE X (.Call (.Name "sorted" p2) [a] [] pos) (vE X own T W (e1 sortD fa)) :=
  e_bi hg hm ha hs (by decide +kernel) (by decide +kernel) (cr_sortedI.or (cr_sortedS.or (call_sortedDI C.calm))) us_sorted (by decide +kernel)
theorem two_k {kd : D → Option D} {g : D → D → Option D} {P : V → Hp → Prop} {r : V → V → Hp → VK → Prop} {σ : L2.St} {H : Hp} {Q : VK} (hk : ∀ d d', kd d = some d' → d' = d)
    (hP : ∀ Z H v d, Rp X.K Z H v d → kd d = some d → P v H)
    (hr : ∀ Z ρ ω H v u d1 d2 d, Sx X.K own T Z ρ ω σ H → Rp X.K Z H v d1 → Rp X.K Z H u d2 → g d1 d2 = some d → (∀ v' H' Z', Ext (Ow own σ) Z H Z' H' → Sx X.K own T Z' ρ ω σ H' → Rp X.K Z' H' v' d → Q v' H') → r v u H Q)
    (h : vE X own T W (e2k kd g fa fb) σ H Q) : vE X own T W fa σ H fun x H1 => P x H1 ∧ vE X own T W fb σ H1 fun y H2 => r x y H2 Q := by
  refine tG.bind (k := fun x ρ => M.bind (M.lift (kd x)) fun x => M.bind (fb ρ) fun y => M.lift (g x y)) h fun d1 ρ ω v H1 Z1 S1 r1 h1 => ?_
  cases e1 : kd d1 with
  | none => simp only [M.bind, e1, M.lift] at h1; exact h1.elim
  | some d' =>
    obtain rfl := hk _ _ e1
    simp only [M.bind, e1, M.lift] at h1
    refine ⟨hP Z1 H1 v _ r1 e1, Z1, ρ, ω, S1, Pg.bind (k := fun y => M.lift (g d' y)) h1 fun d2 ω2 u H2 Z2 e2 S2 r2 h2 => ?_⟩
    obtain ⟨d, eg, h3⟩ := h2.lift
    exact hr Z2 ρ ω2 H2 v u _ d2 d S2 (r1.ext e2) r2 eg fun v' H' Z' e' S' r' => h3 v' H' Z' e' S' r'
theorem e_join (ha : PE X a (vE X own T W fa)) (hb : PE X b (vE X own T W fb)) (hs : starEach [b] X.env = [(false, eval b X.env)]) (hbase : attributeBase a "join" X.env (eval a X.env) = eval a X.env) (hline : (apos.endLine == pos.line) = true) : PE X (.Call (.Attribute a "join" apos) [b] [] pos) (vE X own T W (e2k asStr joinD fa fb)) := by
  refine PE.imp (L2.pe_join ha hb hs hbase hline) fun σ H Q h => two_k (r := fun x y H2 Q => ∃ a p, ∃ ys : List Str, x = .str a ∧ [y] = [.ref p] ∧ (SqL X.K H2 p (ys.map V.str) ∨ SqT X.K H2 p (ys.map V.str)) ∧
      (ys.map (·.length)).sum + ys.length * a.length ≤ 16777216 ∧ Q (.str (Txt.join a ys)) H2) (fun d d' e => ?_) (fun Z H v d r e => ?_) (fun Z ρ ω H v u d1 d2 d S r1 r2 eg q => ?_) h
  · cases d <;> simp only [asStr] at e <;> try contradiction
    cases e; rfl
  · cases d <;> simp only [asStr] at e <;> try contradiction
    cases r
    exact ⟨_, rfl⟩
  · cases d1 <;> simp only [joinD] at eg <;> try contradiction
    cases r1
    split at eg
    · rename_i ds hd
      split at eg
      · rename_i zs hz
        split at eg
        · rename_i hn
          rw [Bool.and_eq_true, decide_eq_true_eq, decide_eq_true_eq] at hn
          cases eg
          cases d2 <;> simp only [seqD] at hd <;> try contradiction
          · cases hd
            obtain ⟨p, xs, rfl, r, n, q1⟩ := (Rr.sh r2).list
            obtain ⟨rfl, hl⟩ := strs_of q1 hz
            exact ⟨_, p, zs, rfl, rfl, .inl (.inl r), hn.1, fin_v S (.str _ hn.2) q⟩
          · cases hd
            obtain ⟨p, xs, rfl, r, n, q1⟩ := (Rr.sh r2).tuple
            obtain ⟨rfl, hl⟩ := strs_of q1 hz
            exact ⟨_, p, zs, rfl, rfl, .inr r, hn.1, fin_v S (.str _ hn.2) q⟩
        · cases eg
      · cases eg
    · cases eg
theorem findIdx_spec {p : D → Bool} : ∀ {ds : List D} {i : Nat}, ds.findIdx? p = some i → ∃ z, ds[i]? = some z ∧ p z = true ∧ ∀ m z', m < i → ds[m]? = some z' → p z' = false
  | ds, i, h => by
    rw [List.findIdx?_eq_some_iff_getElem] at h
    obtain ⟨hl, h1, h2⟩ := h
    refine ⟨ds[i], List.getElem?_eq_getElem hl, h1, fun m z' hm hz => ?_⟩
    have hml : m < ds.length := by omega
    rw [List.getElem?_eq_getElem hml] at hz
    cases hz
    have := h2 m hm
    simpa using this
/-- xs.index(y), y found -/
theorem e_index (C : Cf X W k) (ha : PE X a (vE X own T W fa)) (hb : PE X b (vE X own T W fb)) (hbase : attributeBase a "index" X.env (eval a X.env) = eval a X.env)
    (hfew : ((backTo pos (starEach [b] X.env)).all (fun x => !x.1) && (backToKw pos (keywordEach [] X.env)).all (fun x => x.1.isSome)
      && decide ([b].length + ([] : List Keyword).length + (if ([] : List Keyword).isEmpty then 0 else 1) < 30)) = true)
    (hline : (apos.endLine == pos.line) = true) (hs : starEach [b] X.env = (false, eval b X.env) :: starEach [] X.env) (hplain : (backTo pos (starEach [] X.env)).any (·.1) = false) :
    PE X (.Call (.Attribute a "index" apos) [b] [] pos) (vE X own T W (e2k asList findD fa fb)) := by
  refine PE.imp (pe_bm PySem.F.plainAttrs_list PySem.F.slot_list_index PySem.F.type_list_index (mt_indexD C.hu) ha (pa_cons hb pa_nil hs) hbase hfew hline hs hplain) fun σ H Q h => two_k (r := fun x y H2 Q => rIndexD X.K x [y] H2 Q) (fun d d' e => ?_) (fun Z H v d r e => ?_) (fun Z ρ ω H v u d1 d2 d S r1 r2 eg q => ?_) h
  · cases d <;> simp only [asList] at e <;> try contradiction
    cases e; rfl
  · cases d <;> simp only [asList] at e <;> try contradiction
    obtain ⟨p, xs, rfl, r, n, q1⟩ := (Rr.sh r).list
    exact .inl ⟨rfl, xs, .inl r⟩
  · cases d1 <;> simp only [findD] at eg <;> try contradiction
    split at eg
    · rename_i ds hn
      simp only [Bool.and_eq_true] at hn
      obtain ⟨⟨⟨n1, n2⟩, n3⟩, n4⟩ := hn
      rw [Option.map_eq_some_iff] at eg
      obtain ⟨i, hi, rfl⟩ := eg
      obtain ⟨z, h1, h2, h3⟩ := findIdx_spec hi
      obtain ⟨p, xs, rfl, r, n, q1⟩ := (Rr.sh r1).list
      exact ⟨p, u, d2, ds, i, z, rfl, rfl, r1.dp _ n3, r2.dp _ n4, n1, n2, h1, h2, h3, fin_v S (.int _) q⟩
    · cases eg
/-- range(a, b, -1) -/
theorem w_down {p1 : Pos} {j : Nat} (hg : Gl X "range") (hm : X.mg "range" = none) (ha : PE X a (vE X own T W fa)) (hb : PE X b (vE X own T W fb)) (hs : starEach [a, b, .UnaryOp .USub (.Constant (.int 1) j p1) p2] X.env = (false, eval a X.env) :: starEach [b, .UnaryOp .USub (.Constant (.int 1) j p1) p2] X.env)
    (hs2 : starEach [b, .UnaryOp .USub (.Constant (.int 1) j p1) p2] X.env = (false, eval b X.env) :: starEach [.UnaryOp .USub (.Constant (.int 1) j p1) p2] X.env) (hs3 : starEach [.UnaryOp .USub (.Constant (.int 1) j p1) p2] X.env = (false, eval (.UnaryOp .USub (.Constant (.int 1) j p1) p2) X.env) :: starEach [] X.env)
    (hpl : (backTo pos (starEach [b, .UnaryOp .USub (.Constant (.int 1) j p1) p2] X.env)).any (·.1) = false) :
    PI X tg (.Call (.Name "range" p3) [a, b, .UnaryOp .USub (.Constant (.int 1) j p1) p2] [] pos) (vW X own T W (wDown fa fb)) := by
  refine PI.imp (pi_range3 hg hm (pa_cons ha (pa_cons hb (pa_cons (pe_un un_neg pe_int) pa_nil hs3) hs2) hs) hs hpl) fun σ H Q h => ?_
  refine tG.bind (k := fun x ρ => M.bind (fb ρ) fun y => match x, y with | .int i, .int j => M.lift (if in62 i && in62 j && decide ((i - j).toNat ≤ LIM) then some (intsBy i (-1) (i - j).toNat) else none) | _, _ => fun _ => .bad) h fun d ρ ω v H1 Z1 S1 r1 h1 => ?_
  refine ⟨Z1, ρ, ω, S1, h1.bind fun d2 ω2 u H2 Z2 e2 S2 r2 h2 => ?_⟩
  cases d <;> cases d2 <;> first | exact h2.elim | skip
  cases r1
  cases r2
  obtain ⟨ds, eg, h3⟩ := h2.lift
  split at eg
  · rename_i hn
    simp only [Bool.and_eq_true, decide_eq_true_eq] at hn
    obtain ⟨⟨n1, n2⟩, n3⟩ := hn
    cases eg
    obtain ⟨a1, a2⟩ := in62_iff n1
    obtain ⟨b1, b2⟩ := in62_iff n2
    exact ⟨1, rfl, _, _, -1, _, rfl, RgC.neg a1 a2 b1 b2, h3 _ H2 Z2 (.refl _ _) S2 (wk_by n3)⟩
  · cases eg
end
end Wc

set_option Elab.async false
set_option linter.all false
set_option maxRecDepth 100000
set_option maxHeartbeats 1000000
/-! Wc.ZipL: list(zip(a, b)). -/
namespace PySem
open Sem (wp)
open PySem.W
/-- a zip whose last tuple is held -/
abbrev ZipHd (h : Heap) (z TI TO T : Addr) (f : Bool) : Prop :=
  h.get? z = some { cls := .type "zip", dict := none, data := .fields #[rawInt T, .bool f, .bool false, .ref TI, .ref TO], slots := #[] }
section
variable {prog : Program} {w : World} {A : Around} {E : Value → Shared → Prop} {s : Shared} {z TI TO i1 i2 T : Addr} {fp1 fp2 : List Addr} {n1 n2 i : Nat} {P1 P2 : Nat → Value → Prop} {St1 St2 : Nat → Heap → Prop} {a1 a2 : Value} {f : Bool} {oT : Obj}
theorem zipH_free {Q : Bool → Shared → Prop} (hz : ZipHd s.heap z TI TO T f) (hT : s.heap.get? T = some oT) (hQ : ∀ h', ZipHd h' z TI TO T true → Heap.SameBut z s.heap h' → Q false { s with heap := h' }) : wpAny (model prog w) A (Builtin.SmallTypes.ownedTupleIsFree (.ref z)) Q E s := by
  obtain ⟨hp, g, d, tk0, os⟩ := s
  unfold Builtin.SmallTypes.ownedTupleIsFree
  refine wpAny_bind (wpAny_field hz rfl (x := rawInt T) rfl ?_)
  show wpAny _ _ (loadIfAlive ((T : Int).toNat) >>= _) _ _ _
  rw [Int.toNat_natCast]
  refine wpAny_bind (kdx_alive hT ?_)
  simp only [Option.isNone_some, Bool.false_eq_true, if_false]
  refine wpAny_bind (wpAny_field hz rfl (x := .bool f) rfl ?_)
  cases f with
  | true =>
    rw [if_neg (show ¬ ((Value.bool true != Value.bool true) = true) from Bool.false_ne_true)]
    exact wpAny_pure (hQ hp hz (Heap.SameBut.refl _ _))
  | false =>
    rw [if_pos (show (Value.bool false != Value.bool true) = true from rfl)]
    exact wpAny_bind (wpAny_setField_rec hz (by simp) fun h₃ he₃ hs₃ => wpAny_pure (hQ h₃ he₃ hs₃))
theorem zipH_item {Q : Value → Shared → Prop} (S : ZipSep2 z TI TO i1 i2 fp1 fp2) (D1 : Draws prog w A i1 fp1 n1 P1 St1) (D2 : Draws prog w A i2 fp2 n2 P2 St2)
    (hz : ZipHd s.heap z TI TO T f) (hT : s.heap.get? T = some oT) (hTI : IsTupOf2 s.heap TI (.ref i1) (.ref i2)) (st1 : St1 i s.heap) (st2 : St2 i s.heap) (hlt1 : i < n1) (hlt2 : i < n2)
    (hQ : ∀ x1 x2 h' tk, P1 i x1 → P2 i x2 → ZipHd h' z TI TO T true → St1 (i + 1) h' → St2 (i + 1) h' → IsTupOf2 h' s.heap.objs.size x1 x2 → h'.objs.size = s.heap.objs.size + 1 →
      (∀ c o, c ≠ z → c ≠ i1 → c ≠ i2 → s.heap.get? c = some o → h'.get? c = some o) → Q (.ref s.heap.objs.size) { s with heap := h', toks := tk }) :
    wpAny (model prog w) A (Builtin.«zip.__next__» ⟨[.ref z], []⟩) (fun fin s' => ∃ v, fin = .done (.ret v) ∧ Q v s') E s := by
  obtain ⟨hp, g, d, tk0, os⟩ := s
  show wpAny _ _ (field (.ref z) 2 >>= _) _ _ _
  refine wpAny_bind (wpAny_field hz rfl (x := .bool false) rfl ?_)
  show wpAny _ _ (field (.ref z) 3 >>= _) _ _ _
  refine wpAny_bind (wpAny_field hz rfl (x := .ref TI) rfl ?_)
  refine wpAny_bind (wpAny_seqItems hTI rfl ?_)
  show wpAny _ _ (Builtin.SmallTypes.ownedTupleIsFree (.ref z) >>= _) _ _ _
  refine wpAny_bind (zipH_free hz hT fun g0 hz0 hs0 => ?_)
  replace hz0 : ZipHd g0 z TI TO T true := hz0
  replace hs0 : Heap.SameBut z hp g0 := hs0
  simp only [Bool.false_eq_true, if_false]
  rw [show (#[Value.ref i1, Value.ref i2] : Array Value) = [Value.ref i1, Value.ref i2].toArray from rfl]
  rw [List.forIn_toArray]
  simp only [List.forIn_cons, List.forIn_nil]
  refine wpAny_bind (wpAny_bind (wpAny_bind (wpAny_holding ?_)))
  show wpAny _ _ (Builtin.SmallTypes.nextOf (.ref i1) >>= _) _ _ ⟨g0, g, d, tk0, os⟩
  refine wpAny_bind (D1.item i _ _ _ hlt1 (D1.over st1 hs0 S.zf1) fun x1 p1 tk1 hx1 sn1 hp1 => wpAny_pure ?_)
  replace hp1 : Heap.SameBut i1 g0 p1 := hp1
  refine wpAny_pure ?_
  refine wpAny_bind (wpAny_bind (wpAny_holding ?_))
  show wpAny _ _ (Builtin.SmallTypes.nextOf (.ref i2) >>= _) _ _ ⟨p1, g, d, tk1, os⟩
  refine wpAny_bind (D2.item i _ _ _ hlt2 (D2.over (D2.over st2 hs0 S.zf2) hp1 S.sep1_2) fun x2 p2 tk2 hx2 sn2 hp2 => wpAny_pure ?_)
  replace hp2 : Heap.SameBut i2 p1 p2 := hp2
  refine wpAny_pure (wpAny_pure ?_)
  show wpAny _ _ (newTuple [x1, x2] >>= fun v => ret v) _ _ ⟨p2, g, d, tk2, os⟩
  refine wpAny_bind (wpAny_newTuple (wpAny_pure ⟨_, rfl, ?_⟩))
  have hsz : p2.objs.size = hp.objs.size := by rw [hp2.1, hp1.1, hs0.1]
  have up : ∀ c o, c ≠ z → c ≠ i1 → c ≠ i2 → hp.get? c = some o → p2.get? c = some o := fun c o cz c1 c2 e => hp2.extBut _ _ c2 (hp1.extBut _ _ c1 (hs0.extBut _ _ cz e))
  have pu : ∀ c o, p2.get? c = some o → (p2.push { cls := .type "tuple", data := .seq #[x1, x2] }).get? c = some o := fun c o e => Heap.get?_push_of_some _ e
  have e1 : IsTupOf2 (p2.push { cls := .type "tuple", data := .seq #[x1, x2] }) hp.objs.size x1 x2 := by rw [← hsz]; exact Heap.get?_push_size _ rfl
  show Q (.ref p2.objs.size) _
  rw [hsz]
  exact hQ x1 x2 _ tk2 hx1 hx2 (pu _ _ (hp2.extBut _ _ S.zi2 (hp1.extBut _ _ S.zi1 hz0))) (D1.frame _ _ _ (D1.over sn1 hp2 S.sep2_1) fun b _ o e => pu b o e) (D2.frame _ _ _ sn2 fun b _ o e => pu b o e) e1 (by rw [Heap.size_push, hsz]) fun c o cz c1 c2 e => pu _ _ (up c o cz c1 c2 e)
theorem zipH_end {Q : Fin → Shared → Prop} (S : ZipSep2 z TI TO i1 i2 fp1 fp2) (D1 : Draws prog w A i1 fp1 n1 P1 St1) (D2 : Draws prog w A i2 fp2 n2 P2 St2)
    (hz : ZipHd s.heap z TI TO T f) (hT : s.heap.get? T = some oT) (hTI : IsTupOf2 s.heap TI (.ref i1) (.ref i2)) (st1 : St1 i s.heap) (st2 : St2 i s.heap) (hle1 : i ≤ n1) (hle2 : i ≤ n2) (hend : i = n1 ∨ i = n2)
    (hE : ∀ h' tk e, (∀ c o, c ≠ z → c ≠ i1 → c ≠ i2 → s.heap.get? c = some o → h'.get? c = some o) → (∃ o, h'.get? e = some o ∧ o.cls = .type "StopIteration") → E (.ref e) { s with heap := h', toks := tk }) :
    wpAny (model prog w) A (Builtin.«zip.__next__» ⟨[.ref z], []⟩) Q E s := by
  obtain ⟨hp, g, d, tk0, os⟩ := s
  show wpAny _ _ (field (.ref z) 2 >>= _) _ _ _
  refine wpAny_bind (wpAny_field hz rfl (x := .bool false) rfl ?_)
  show wpAny _ _ (field (.ref z) 3 >>= _) _ _ _
  refine wpAny_bind (wpAny_field hz rfl (x := .ref TI) rfl ?_)
  refine wpAny_bind (wpAny_seqItems hTI rfl ?_)
  show wpAny _ _ (Builtin.SmallTypes.ownedTupleIsFree (.ref z) >>= _) _ _ _
  refine wpAny_bind (zipH_free hz hT fun g0 hz0 hs0 => ?_)
  replace hs0 : Heap.SameBut z hp g0 := hs0
  simp only [Bool.false_eq_true, if_false]
  rw [show (#[Value.ref i1, Value.ref i2] : Array Value) = [Value.ref i1, Value.ref i2].toArray from rfl]
  rw [List.forIn_toArray]
  simp only [List.forIn_cons, List.forIn_nil]
  refine wpAny_bind (wpAny_bind (wpAny_bind (wpAny_holding ?_)))
  show wpAny _ _ (Builtin.SmallTypes.nextOf (.ref i1) >>= _) _ _ ⟨g0, g, d, tk0, os⟩
  by_cases hlt1 : i < n1
  · refine wpAny_bind (D1.item i _ _ _ hlt1 (D1.over st1 hs0 S.zf1) fun x1 p1 tk1 hx1 sn1 hp1 => wpAny_pure ?_)
    replace hp1 : Heap.SameBut i1 g0 p1 := hp1
    refine wpAny_pure ?_
    refine wpAny_bind (wpAny_bind (wpAny_holding ?_))
    show wpAny _ _ (Builtin.SmallTypes.nextOf (.ref i2) >>= _) _ _ ⟨p1, g, d, tk1, os⟩
    have hi2 : i = n2 := by omega
    refine wpAny_bind (D2.done ⟨p1, g, d, tk1, os⟩ _ _ (by rw [← hi2]; exact D2.over (D2.over st2 hs0 S.zf2) hp1 S.sep1_2) fun q e hq he => ?_)
    replace hq : Heap.ExtBut i2 p1 q := hq
    exact hE q tk1 e (fun c o cz c1 c2 x => hq _ _ c2 (hp1.extBut _ _ c1 (hs0.extBut _ _ cz x))) he
  · have hi1 : i = n1 := by omega
    refine wpAny_bind (D1.done ⟨g0, g, d, tk0, os⟩ _ _ (by rw [← hi1]; exact (D1.over st1 hs0 S.zf1)) fun q e hq he => ?_)
    replace hq : Heap.ExtBut i1 g0 q := hq
    exact hE q tk0 e (fun c o cz c1 c2 x => hq _ _ c1 (hs0.extBut _ _ cz x)) he
theorem zipH_next_item {Q : Option Value → Shared → Prop} (S : ZipSep2 z TI TO i1 i2 fp1 fp2) (D1 : Draws prog w A.in1 i1 fp1 n1 P1 St1) (D2 : Draws prog w A.in1 i2 fp2 n2 P2 St2)
    (hz : ZipHd s.heap z TI TO T f) (hT : s.heap.get? T = some oT) (hTI : IsTupOf2 s.heap TI (.ref i1) (.ref i2)) (st1 : St1 i s.heap) (st2 : St2 i s.heap) (hlt1 : i < n1) (hlt2 : i < n2)
    (hQ : ∀ x1 x2 h' tk, P1 i x1 → P2 i x2 → ZipHd h' z TI TO T true → St1 (i + 1) h' → St2 (i + 1) h' → IsTupOf2 h' s.heap.objs.size x1 x2 → h'.objs.size = s.heap.objs.size + 1 →
      (∀ c o, c ≠ z → c ≠ i1 → c ≠ i2 → s.heap.get? c = some o → h'.get? c = some o) → Q (some (.ref s.heap.objs.size)) { s with heap := h', toks := tk }) : wpAny (model prog w) A (pyNext (.ref z)) Q E s := by
  have hTy : s.TypeIs (.ref z) "zip" := ⟨_, hz, rfl⟩
  unfold pyNext
  exact wpAny_bind (wpAny_attempt (wpAny_callSpecial?_slot (name := Str.ofString "__next__") hTy F.slot_zip_next
    (wpAny_call_entry F.slot_zip_next hTy F.entry_zip_next
      (zipH_item S D1 D2 hz hT hTI st1 st2 hlt1 hlt2 fun x1 x2 h' tk y1 y2 b1 d1 d2 b5 b6 b7 => wpAny_pure (hQ x1 x2 h' tk y1 y2 b1 d1 d2 b5 b6 b7)) (F.args_zip_next_1 _))))
theorem zipH_next_end {Q : Option Value → Shared → Prop} (S : ZipSep2 z TI TO i1 i2 fp1 fp2) (D1 : Draws prog w A.in1 i1 fp1 n1 P1 St1) (D2 : Draws prog w A.in1 i2 fp2 n2 P2 St2)
    (hz : ZipHd s.heap z TI TO T f) (hT : s.heap.get? T = some oT) (hTI : IsTupOf2 s.heap TI (.ref i1) (.ref i2)) (st1 : St1 i s.heap) (st2 : St2 i s.heap) (hle1 : i ≤ n1) (hle2 : i ≤ n2) (hend : i = n1 ∨ i = n2)
    (hQ : ∀ h' tk, (∀ c o, c ≠ z → c ≠ i1 → c ≠ i2 → s.heap.get? c = some o → h'.get? c = some o) → Q none { s with heap := h', toks := tk }) : wpAny (model prog w) A (pyNext (.ref z)) Q E s := by
  have hTy : s.TypeIs (.ref z) "zip" := ⟨_, hz, rfl⟩
  unfold pyNext
  refine wpAny_bind (wpAny_attempt (wpAny_callSpecial?_slot (name := Str.ofString "__next__") hTy F.slot_zip_next
    (wpAny_call_entry F.slot_zip_next hTy F.entry_zip_next (zipH_end S D1 D2 hz hT hTI st1 st2 hle1 hle2 hend fun h' tk e hk he => ?_) (F.args_zip_next_1 _))))
  obtain ⟨o, ho, hc⟩ := he
  refine wpAny_bind (wpAny_isInstance (T := "StopIteration") (b := true) ⟨o, ho, hc⟩ isSubtype_stop ?_)
  exact wpAny_pure (hQ _ _ hk)
end
namespace F
theorem wc_zip_no_len : typeLookup (.type "zip") "__len__" = pure none := by rw [typeLookup_type, builtinLookup_eq_fast]; kernel_rfl
theorem wc_zip_no_hint : typeLookup (.type "zip") "__length_hint__" = pure none := by rw [typeLookup_type, builtinLookup_eq_fast]; kernel_rfl
end F
end PySem
namespace Wc
open PySem PySem.Spec PyProof.Rows L2
theorem Sc.Has.grow {K : PySem.W.Frag} {H H' : Hp} {c : Sc} {xs : List V} (h : c.Has K H xs) (g : ∀ b o, H b = some o → H' b = some o) : c.Has K H' xs := by
  cases c with
  | lst a =>
    rcases h with (h | ⟨o, h⟩) | h
    · exact .inl (.inl (g _ _ h))
    · exact .inl (.inr ⟨o, g _ _ h⟩)
    · exact .inr h
  | tup a =>
    rcases h with (h | ⟨o, h⟩) | h
    · exact .inl (.inl (g _ _ h))
    · exact .inl (.inr ⟨o, g _ _ h⟩)
    · exact .inr h
  | txt x => exact h
/-- the list of pairs, as far as it has come -/
structure LzI (xs ys : List V) (H1 H : Hp) (L : Addr) (acc : List V) : Prop where
  gr : ∀ b o, H1 b = some o → H b = some o
  ls : H L = some (.lst acc)
  fr : H1 L = none
  at_ : ∀ (j : Nat) v, acc[j]? = some v → ∃ T x y, v = .ref T ∧ T ≠ L ∧ H T = some (.tup [x, y]) ∧ xs[j]? = some x ∧ ys[j]? = some y
/-- the zip and its iterators at turn i -/
def ZAt (h : Heap) (z TI TO i1 i2 : Addr) (c d : Sc) (i : Nat) : Prop :=
  (IsZip h z TI TO .none ∨ ∃ T f o, ZipHd h z TI TO T f ∧ h.get? T = some o ∧ T ≠ z ∧ T ≠ TO ∧ T ≠ i1 ∧ T ≠ i2) ∧ IsTupOf2 h TI (.ref i1) (.ref i2) ∧ (∃ a b, IsTupOf2 h TO a b) ∧ c.At i1 i h ∧ d.At i2 i h
theorem ZAt.keep {h h' : Heap} {z TI TO i1 i2 : Addr} {c d : Sc} {i : Nat} {S : Addr} (a : ZAt h z TI TO i1 i2 c d i) (hS : ∀ b, b = z ∨ b = TI ∨ b = TO ∨ b = i1 ∨ b = i2 → b ≠ S) (hT : ∀ T f, ZipHd h z TI TO T f → T ≠ S) (k : ∀ b o, b ≠ S → h.get? b = some o → h'.get? b = some o) : ZAt h' z TI TO i1 i2 c d i := by
  obtain ⟨a1, a2, ⟨x, y, e⟩, a3, a4⟩ := a
  refine ⟨?_, k _ _ (hS _ (by simp)) a2, ⟨x, y, k _ _ (hS _ (by simp)) e⟩, a3.at fun o e => k _ o (hS _ (by simp)) e, a4.at fun o e => k _ o (hS _ (by simp)) e⟩
  rcases a1 with a1 | ⟨T, f, o, e1, e2, r⟩
  · exact .inl (k _ _ (hS _ (by simp)) a1)
  · exact .inr ⟨T, f, o, k _ _ (hS _ (by simp)) e1, k _ _ (hT T f e1) e2, r⟩
section
variable {X : Cx} {pins : List (Addr × Obj)} {σ : L2.St}
theorem lz_loop {A : Around} {R : Result → Shared → Prop} {z TI TO i1 i2 L : Addr} {c d : Sc} {xs ys : List V} {H1 : Hp} (hh : A.handled = none) (ap : Apt z TI TO i1 i2 c d) (hL : ∀ b, b = z ∨ b = TI ∨ b = TO ∨ b = i1 ∨ b = i2 → b ≠ L) (hc : c.Has X.K H1 xs) (hd : d.Has X.K H1 ys) (res : Value)
    (hn : xs.length ≤ sizeLine)
    (hR : ∀ (s' : Shared) (H : Hp) (acc : List V), Inv X pins σ H s' → LzI xs ys H1 H L acc → acc.length = min xs.length ys.length → R (.ok (.ret res)) s') :
    ∀ (k i : Nat) (s : Shared) (H : Hp) (acc : List V), min xs.length ys.length - i = k → i ≤ min xs.length ys.length → Inv X pins σ H s → (∀ b ∈ [z, TI, TO, i1, i2], FpOk X pins H b) → ZAt s.heap z TI TO i1 i2 c d i → (∀ T f, ZipHd s.heap z TI TO T f → T ≠ L) →
      LzI xs ys H1 H L acc → acc.length = i → codeAny (model X.prog X.w) A (.builtin "list.extend.loop" ⟨[.ref L, .ref z, res], []⟩) R s := by
  intro k
  induction k with
  | zero =>
    intro i s H acc hk hi I hf za hzL lz ha
    have hin : i = min xs.length ys.length := by omega
    refine codeAny_builtin PySem.F.entry_extend_loop ?_
    rw [Around.under_plainId PySem.F.plain_extend_loop _]
    show wpAny _ A.in1 (pyNext (.ref z) >>= _) _ _ _
    obtain ⟨zs, hTI, hTO, h1, h2⟩ := za
    have hc' := hc.grow lz.gr
    have hd' := hd.grow lz.gr
    obtain ⟨fp1, P1, St1, D1, hP1, st01, st11, hfp1⟩ := Sc.draws (A := A.in1.in1) I hc' hh (ap.c i1 (by simp)) h1
    obtain ⟨fp2, P2, St2, D2, hP2, st02, st12, hfp2⟩ := Sc.draws (A := A.in1.in1) I hd' hh (ap.d i2 (by simp)) h2
    have S := ap.sep hfp1 hfp2
    have fin : ∀ h' tk, (∀ b o, b ≠ z → b ≠ TO → b ≠ i1 → b ≠ i2 → s.heap.get? b = some o → h'.get? b = some o) → R (.ok (.ret res)) { s with heap := h', toks := tk } := fun h' tk hk =>
      hR _ H acc (I.turnedL (t' := tk) (ch := [z, TI, TO, i1, i2]) (fun b o hb q => hk b o (fun e => hb (by simp [e])) (fun e => hb (by simp [e])) (fun e => hb (by simp [e])) (fun e => hb (by simp [e])) q) hf) lz (by rw [ha, hin])
    rcases zs with e1 | ⟨T, f, o, e1, e2, n1, n2, n3, n4⟩
    · obtain ⟨a, b, e2⟩ := hTO
      exact wpAny_bind (wpAny_pyNext_zipD2_end S D1 D2 e1 hTI e2 st01 st02 (by omega) (by omega) (by omega) fun h' tk hk => wpAny_pure (fin h' tk hk))
    · exact wpAny_bind (zipH_next_end S D1 D2 e1 e2 hTI st01 st02 (by omega) (by omega) (by omega) fun h' tk hk => wpAny_pure (fin h' tk fun b o n1 _ n3 n4 => hk b o n1 n3 n4))
  | succ k ih =>
    intro i s H acc hk hi I hf za hzL lz ha
    have hlt : i < min xs.length ys.length := by omega
    have hx : xs[i]? = some xs[i] := List.getElem?_eq_getElem (by omega)
    have hy : ys[i]? = some ys[i] := List.getElem?_eq_getElem (by omega)
    refine codeAny_builtin PySem.F.entry_extend_loop ?_
    rw [Around.under_plainId PySem.F.plain_extend_loop _]
    show wpAny _ A.in1 (pyNext (.ref z) >>= _) _ _ _
    obtain ⟨zs, hTI, hTO, h1, h2⟩ := za
    have hc' := hc.grow lz.gr
    have hd' := hd.grow lz.gr
    obtain ⟨fp1, P1, St1, D1, hP1, st01, st11, hfp1⟩ := Sc.draws (A := A.in1.in1) I hc' hh (ap.c i1 (by simp)) h1
    obtain ⟨fp2, P2, St2, D2, hP2, st02, st12, hfp2⟩ := Sc.draws (A := A.in1.in1) I hd' hh (ap.d i2 (by simp)) h2
    have S := ap.sep hfp1 hfp2
    have hll : L < s.heap.objs.size := I.hok.lt lz.ls
    have small : ∀ b, (b = z ∨ b = TI ∨ b = TO ∨ b = i1 ∨ b = i2) → b < s.heap.objs.size := fun b e' => by
      obtain ⟨_, _, hTO⟩ := hTO
      rcases e' with e | e | e | e | e
      · subst e
        rcases zs with e1 | ⟨_, _, _, e1, _⟩
        · exact Heap.lt_size e1
        · exact Heap.lt_size e1
      · subst e; exact Heap.lt_size hTI
      · subst e; exact Heap.lt_size hTO
      · subst e; obtain ⟨o, ho, _⟩ := h1.obj; exact Heap.lt_size ho
      · subst e; obtain ⟨o, ho, _⟩ := h2.obj; exact Heap.lt_size ho
    -- behind a turn
    have turn : ∀ u v h' tk, P1 i u → P2 i v → ((IsZip h' z TI TO (rawInt s.heap.objs.size)) ∨ ∃ T, T < s.heap.objs.size ∧ T ≠ L ∧ ZipHd h' z TI TO T true ∧ (∃ o, s.heap.get? T = some o) ∧ T ≠ z ∧ T ≠ TO ∧ T ≠ i1 ∧ T ≠ i2) → IsTupOf2 h' TI (.ref i1) (.ref i2) → (∃ a b, IsTupOf2 h' TO a b) → St1 (i + 1) h' → St2 (i + 1) h' → IsTupOf2 h' s.heap.objs.size u v →
        (∀ b o, b ≠ z → b ≠ TO → b ≠ i1 → b ≠ i2 → s.heap.get? b = some o → h'.get? b = some o) →
        wpAny (model X.prog X.w) A.in1 (updateSeq L (·.push (.ref s.heap.objs.size)) >>= fun _ => again (.builtin "list.extend.loop" ⟨[.ref L, .ref z, res], []⟩))
          (fun fin s' => match fin with | .done f => R (.ok f) s' | .again c' => c'.quiet = true ∧ codeAny (model X.prog X.w) A c' R s') (fun e s' => R (.error e) s') { s with heap := h', toks := tk } := by
      intro u v h' tk hu hv hzz hTI' hTO' st1 st2 hT hk'
      obtain ⟨x', hx', ru⟩ := hP1 i u hu
      obtain ⟨y', hy', rv⟩ := hP2 i v hv
      have new : ObjOk X.prog X.w (upd H s.heap.objs.size (.tup [x', y'])) h' s.heap.objs.size (.tup [x', y']) :=
        ⟨by show 2 ≤ sizeLine; decide, [u, v], .cons ru (.cons rv .nil), ⟨_, hT, rfl, _, rfl⟩⟩
      have hn0 : H s.heap.objs.size = none := I.hok.fresh (Nat.le_refl _)
      have hLT : L ≠ s.heap.objs.size := Nat.ne_of_lt hll
      have I1 : Inv X pins σ (upd H s.heap.objs.size (.tup [x', y'])) { s with heap := h', toks := tk } :=
        I.turnedNew (t' := tk) (ch := [z, TI, TO, i1, i2]) (fun b ob hb q => hk' b ob (fun e => hb (by simp [e])) (fun e => hb (by simp [e])) (fun e => hb (by simp [e])) (fun e => hb (by simp [e])) q) hf (Nat.le_refl _) new
      have hl1 : (upd H s.heap.objs.size (.tup [x', y'])) L = some (.lst acc) := by rw [upd_ne hLT]; exact lz.ls
      obtain ⟨zl, its, n, rr, hlen, eL⟩ := I1.lstM hl1
      have eL' : h'.get? L = some { cls := .type "list", data := .seq its.toArray n } := eL
      have hi2 : i < xs.length := by omega
      have I2 := I1.lset (t' := tk) (f := fun a => a.push (.ref s.heap.objs.size)) (ys := acc ++ [V.ref s.heap.objs.size]) (its' := its ++ [.ref s.heap.objs.size]) hl1 eL (by simp) (rr.append (.cons (show L2.RelV (V.ref s.heap.objs.size) (Value.ref s.heap.objs.size) from rfl) .nil)) (by rw [List.length_append, ha]; exact Nat.le_trans hi2 hn)
      have held : ∀ T f, ZipHd h' z TI TO T f → T ≠ L := fun T f e => by
        have inj : ∀ {T0 : Addr} {f0 : Bool}, ZipHd h' z TI TO T0 f0 → T = T0 := fun {T0 f0} e0 => by
          have q := e.symm.trans e0
          simp [rawInt] at q
          exact Int.ofNat_inj.mp q.1
        rcases hzz with e0 | ⟨T0, l, ne, e0, _⟩
        · rw [inj (f0 := false) e0]; exact Ne.symm hLT
        · rw [inj e0]; exact ne
      refine wpAny_bind ?_
      refine wpAny_updateSeq eL' rfl (wpAny_pure ⟨plainId_quiet PySem.F.plain_extend_loop _, ih (i + 1) _ (upd (upd H s.heap.objs.size (.tup [x', y'])) L (.lst (acc ++ [V.ref s.heap.objs.size]))) (acc ++ [V.ref s.heap.objs.size]) (by omega) hlt I2 (fun b hb => ?_) ?_ ?_ ?_ (by rw [List.length_append, ha]; rfl)⟩) ?_ ?_
      · have hb' : b < s.heap.objs.size := by
          have e' : b = z ∨ b = TI ∨ b = TO ∨ b = i1 ∨ b = i2 := by simpa using hb
          exact small b e'
        obtain ⟨f0, fr⟩ := hf b hb
        refine ⟨?_, fr⟩
        rw [upd_ne (hL b (by simpa using hb)), upd_ne (Nat.ne_of_lt hb')]
        exact f0
      · refine ZAt.keep (S := L) ⟨?_, hTI', hTO', st11 _ _ st1, st12 _ _ st2⟩ hL (fun T f e => ?_) fun b o hb e => (Heap.get?_update_other _ _ (Ne.symm hb)).trans e
        · rcases hzz with e | ⟨T, l, ne, e, ⟨o, eo⟩, n1, n2, n3, n4⟩
          · exact .inr ⟨s.heap.objs.size, false, _, e, hT, Nat.ne_of_gt (small _ (by simp)), Nat.ne_of_gt (small _ (by simp)), Nat.ne_of_gt (small _ (by simp)), Nat.ne_of_gt (small _ (by simp))⟩
          · exact .inr ⟨T, true, o, e, hk' _ _ n1 n2 n3 n4 eo, n1, n2, n3, n4⟩
        · exact held T f e
      · intro T f e
        refine held T f ?_
        have e2 : (h'.update L (Obj.mapSeq (·.push (.ref s.heap.objs.size)))).get? z = h'.get? z := Heap.get?_update_other _ _ (Ne.symm (hL z (by simp)))
        exact e2.symm.trans e
      · refine ⟨fun b o e => ?_, upd_same, lz.fr, fun j v e => ?_⟩
        · have nL : b ≠ L := ne_of_none e lz.fr
          have nT : b ≠ s.heap.objs.size := ne_of_none (lz.gr _ _ e) hn0
          rw [upd_ne nL, upd_ne nT]
          exact lz.gr _ _ e
        · rcases Nat.lt_or_ge j acc.length with hj | hj
          · rw [List.getElem?_append_left hj] at e
            obtain ⟨T, x, y, e1, e2, e3, e4⟩ := lz.at_ j v e
            have nT : T ≠ s.heap.objs.size := ne_of_none e3 hn0
            exact ⟨T, x, y, e1, e2, by rw [upd_ne e2, upd_ne nT]; exact e3, e4⟩
          · rw [List.getElem?_append_right hj] at e
            have hj2 : j - acc.length = 0 := by
              have := (List.getElem?_eq_some_iff.mp e).1
              simp at this; omega
            rw [hj2] at e
            have ev : V.ref s.heap.objs.size = v := by simpa using e
            have ej : j = i := by omega
            subst ej
            exact ⟨s.heap.objs.size, x', y', ev.symm, Ne.symm hLT, by rw [upd_ne (Ne.symm hLT)]; exact upd_same, hx', hy'⟩
      · rw [List.size_toArray, ← hlen, ha]; omega
      · show (its.toArray.push _).size ≤ sizeLine + 1
        rw [Array.size_push, List.size_toArray, ← hlen, ha]; omega
    rcases zs with e1 | ⟨T, f, o, e1, e2, n1, n2, n3, n4⟩
    · obtain ⟨a, b, e2⟩ := hTO
      refine wpAny_bind (wpAny_pyNext_zipD2_item S D1 D2 e1 hTI e2 st01 st02 (by omega) (by omega) fun u v h' tk hu hv b1 b2 d1 d2 b5 b6 hk' => ?_)
      exact turn u v h' tk hu hv (.inl b1) (hk' _ _ S.TIz S.TITO S.TIi1 S.TIi2 hTI) ⟨_, _, b2⟩ d1 d2 b5 hk'
    · refine wpAny_bind (zipH_next_item S D1 D2 e1 e2 hTI st01 st02 (by omega) (by omega) fun u v h' tk hu hv b1 d1 d2 b5 b6 hk' => ?_)
      exact turn u v h' tk hu hv (.inr ⟨T, Heap.lt_size e2, hzL T f e1, b1, ⟨o, e2⟩, n1, n2, n3, n4⟩) (hk' _ _ S.TIz S.TIi1 S.TIi2 hTI) (let ⟨a, b, e⟩ := hTO; ⟨a, b, hk' _ _ S.TOz ap.T1 ap.T2 e⟩) d1 d2 b5 fun b o n1 _ n3 n4 => hk' b o n1 n3 n4
/-- list(z) of a zip just made -/
theorem lz_call {z TI TO i1 i2 : Addr} {c d : Sc} {xs ys : List V} {H : Hp} {s : Shared} {Q : Value → Shared → Prop} {E : Value → Shared → Prop} (ap : Apt z TI TO i1 i2 c d) (I : Inv X pins σ H s) (hcalm : X.calm = true) (hc : c.Has X.K H xs) (hd : d.Has X.K H ys) (hn : xs.length ≤ sizeLine)
    (hf : ∀ b ∈ [z, TI, TO, i1, i2], FpOk X pins H b) (hz : IsZip s.heap z TI TO .none) (hTI : IsTupOf2 s.heap TI (.ref i1) (.ref i2)) (hTO : ∃ a b, IsTupOf2 s.heap TO a b) (h1 : c.At i1 0 s.heap) (h2 : d.At i2 0 s.heap)
    (hQ : ∀ (s' : Shared) (L : Addr) (H' : Hp) (acc : List V), Inv X pins σ H' s' → LzI xs ys H H' L acc → acc.length = min xs.length ys.length → Q (.ref L) s') :
    wpAny (model X.prog X.w) X.A (call (.type "list") [.ref z]) Q E s := by
  refine callType_codes (Q₁ := fun obj s₁ => obj = .ref s.heap.objs.size ∧ s₁ = { s with heap := s.heap.push { cls := .type "list", data := .seq #[] } }) PySem.F.called_list (PySem.F.typeCall_list_1 _) PySem.F.entry_list_init
    (code_list_new _ ⟨rfl, rfl⟩) fun obj s₁ h₁ => ?_
  obtain ⟨rfl, rfl⟩ := h₁
  generalize hL : s.heap.objs.size = L
  have hS : (s.heap.push { cls := .type "list", data := .seq #[] }).get? L = some { cls := .type "list", data := .seq #[] } := by rw [← hL]; exact Heap.get?_push_size _ rfl
  have hn0 : H L = none := I.hok.fresh (Nat.le_of_eq hL)
  have hh : X.A.handled = none := I.ok.hd hcalm
  have small : ∀ b, (b = z ∨ b = TI ∨ b = TO ∨ b = i1 ∨ b = i2) → b < s.heap.objs.size := fun b e' => by
    obtain ⟨_, _, hTO⟩ := hTO
    rcases e' with e | e | e | e | e
    · subst e; exact Heap.lt_size hz
    · subst e; exact Heap.lt_size hTI
    · subst e; exact Heap.lt_size hTO
    · subst e; obtain ⟨o, ho, _⟩ := h1.obj; exact Heap.lt_size ho
    · subst e; obtain ⟨o, ho, _⟩ := h2.obj; exact Heap.lt_size ho
  have ne : ∀ b, (b = z ∨ b = TI ∨ b = TO ∨ b = i1 ∨ b = i2) → b ≠ L := fun b e => by rw [← hL]; exact Nat.ne_of_lt (small b e)
  have hzL : z ≠ L := ne z (by simp)
  -- the heap while the list is made ready
  have ready : ∀ (h : Heap) (its : Array Value) (n : Nat), h.get? L = some { cls := .type "list", data := .seq its n } → (∀ b o, b ≠ L → s.heap.get? b = some o → h.get? b = some o) → (IsZip h z TI TO .none ∧ IsTupOf2 h TI (.ref i1) (.ref i2) ∧ (∃ a b, IsTupOf2 h TO a b) ∧ c.At i1 0 h ∧ d.At i2 0 h) := fun h its n _ k =>
    ⟨k _ _ (ne z (by simp)) hz, k _ _ (ne TI (by simp)) hTI, let ⟨a, b, e⟩ := hTO; ⟨a, b, k _ _ (ne TO (by simp)) e⟩, h1.at fun o e => k _ o (ne i1 (by simp)) e, h2.at fun o e => k _ o (ne i2 (by simp)) e⟩
  have loop : ∀ (h : Heap) (n tk : Nat), h.get? L = some { cls := .type "list", data := .seq #[] n } → (∀ b o, b ≠ L → s.heap.get? b = some o → h.get? b = some o) →
      codeAny (model X.prog X.w) X.A.in1 (.builtin "list.extend.loop" ⟨[.ref L, .ref z, .none], []⟩) (wants (fun r s₂ => r = .none ∧ Q (.ref L) s₂) E) { s with heap := h, toks := tk } := fun h n tk e k => by
    have I2 : Inv X pins σ (upd H L (.lst [])) { s with heap := h, toks := tk } :=
      I.laid (t' := tk) (fun b o q => k b o (by rw [← hL]; exact Nat.ne_of_lt (Heap.lt_size q)) q) (Nat.le_of_eq hL) ⟨Nat.zero_le _, [], n, .nil, e⟩
    obtain ⟨r1, r2, r3, r4, r5⟩ := ready h #[] n e k
    refine lz_loop (A := X.A.in1) (H1 := H) hh ap ne hc hd .none hn (fun s' H' acc I' lz ha => ?_) _ 0 _ _ [] rfl (Nat.zero_le _) I2 (fun b hb => ?_) ⟨.inl r1, r2, r3, r4, r5⟩ (fun T f e' => ?_) ⟨fun b o q => by rw [upd_ne (ne_of_none q hn0)]; exact q, upd_same, hn0, fun j v q => by simp at q⟩ rfl
    · exact ⟨rfl, hQ s' L H' acc I' lz ha⟩
    · obtain ⟨f0, fr⟩ := hf b hb
      exact ⟨by rw [upd_ne (ne b (by simpa using hb))]; exact f0, fr⟩
    · have q := r1.symm.trans e'
      simp [rawInt] at q
  refine ⟨⟨_, hS, rfl⟩, PySem.F.args_list_init_2 _ _, ?_⟩
  show wpAny _ _ (do let old ← Builtin.List.listItems (.ref L); Builtin.List.listUpdate (.ref L) (fun _ => #[]); letGo old.toList.reverse; Builtin.List.listExtendWith (.ref L) (.ref z) .none) _ _ _
  refine wpAny_bind ?_
  unfold Builtin.List.listItems
  refine wpAny_bind (wpAny_seqItems hS rfl (wpAny_pure ?_))
  show wpAny _ _ (updateSeq L (fun _ => #[]) >>= fun _ => letGo (#[] : Array Value).toList.reverse >>= fun _ => Builtin.List.listExtendWith (.ref L) (.ref z) .none) _ _ _
  refine wpAny_bind (wpAny_updateSeq hS rfl ?_)
  have hS₂ := Heap.get?_update_self (Obj.mapSeq (fun _ => (#[] : Array Value))) hS rfl
  have k2 : ∀ b o, b ≠ L → s.heap.get? b = some o → ((s.heap.push { cls := .type "list", data := .seq #[] }).update L (Obj.mapSeq (fun _ => (#[] : Array Value)))).get? b = some o :=
    fun b o hb e => (Heap.get?_update_other _ _ (Ne.symm hb)).trans (Heap.get?_push_of_some _ e)
  refine wpAny_bind (wpAny_letGo ?_)
  generalize hh2 : (s.heap.push { cls := .type "list", data := .seq #[] }).update L (Obj.mapSeq (fun _ => (#[] : Array Value))) = g2 at hS₂ k2
  unfold Builtin.List.listExtendWith
  have hTy : Shared.TypeIs { s with heap := g2 } (.ref z) "zip" := ⟨_, k2 _ _ hzL hz, rfl⟩
  refine wpAny_bind (wpAny_typeOf hTy ?_)
  have e1 : Builtin.List.listSameRef (.ref L) (.ref z) = false := by simp [Builtin.List.listSameRef, Ne.symm hzL]
  have e2 : (Value.type "zip" == Value.type "list") = false := by decide
  have e3 : (Value.type "zip" == Value.type "tuple") = false := by decide
  simp only [e1, e2, e3, Bool.or_false, Bool.false_eq_true, if_false]
  refine wpAny_bind (wpAny_pyIter_zip (k2 _ _ hzL hz) ?_)
  refine wpAny_bind (wpAny_holding ?_)
  unfold Builtin.List.listLengthHint
  refine wpAny_bind (wpAny_specialOf hTy F.wc_zip_no_len ?_)
  show wpAny _ _ (specialOf (Value.ref z) (Str.ofString "__length_hint__") >>= _) _ _ _
  refine wpAny_bind (wpAny_specialOf hTy F.wc_zip_no_hint ?_)
  refine wpAny_pure ?_
  show wpAny _ _ (rule "list.extend.makes-room" >>= fun _ => Builtin.List.listTouch (.ref L) >>= fun _ => again (.builtin "list.extend.loop" ⟨[.ref L, .ref z, .none], []⟩)) _ _ _
  refine wpAny_bind (wpAny_rule ?_)
  refine wpAny_bind ?_
  show wpAny _ _ (updateSeq L (·.push .none) >>= fun _ => updateSeq L (·.pop)) _ _ _
  refine wpAny_bind (wpAny_updateSeq hS₂ rfl ?_)
  have hS₃ := Heap.get?_update_self (Obj.mapSeq (·.push Value.none)) hS₂ rfl
  refine wpAny_updateSeq (hz := by seq_fits) hS₃ rfl ?_
  have hS₄ := Heap.get?_update_self (Obj.mapSeq (·.pop)) hS₃ rfl
  refine wpAny_pure ⟨plainId_quiet F.plain_extend_loop _, loop _ _ s.toks hS₄ fun b o hb e => ?_⟩
  exact (Heap.get?_update_other _ _ (Ne.symm hb)).trans ((Heap.get?_update_other _ _ (Ne.symm hb)).trans (k2 b o hb e))
end
end Wc

set_option Elab.async false
set_option linter.all false
set_option maxRecDepth 100000
set_option maxHeartbeats 1000000
/-! Wc.ZipR: `list(zip(a, b))` as a value. -/
namespace Wc
open PySem PySem.Spec PyProof.Rows L2
def eLW (w : WW) : EE := fun ρ => M.bind (w ρ) fun xs => M.pure (.list xs)
section
variable {K : PySem.W.Frag} {own : List Nat} {T : Ent} {Z : Addr → Prop} {ρ : Env} {ω : Om} {σ : L2.St} {H H' : Hp} {O : Addr → Prop}
theorem Ext.grow (k : ∀ a o, H a = some o → H' a = some o) : Ext O Z H Z H' := ⟨fun _ h => h, fun a o _ e => k _ _ e, fun a o _ e => k _ _ e, fun a o e _ _ => k _ _ e, fun _ _ z _ _ _ => z⟩
theorem Sx.grow (S : Sx K own T Z ρ ω σ H) (k : ∀ a u, H a = some u → H' a = some u) : Sx K own T Z ρ ω σ H' := by
  have e : Ext (fun _ => False) Z H Z H' := .grow k
  refine ⟨S.len, S.nd, fun i d h => ?_, S.wl, fun j i d h1 h2 => ?_, S.dj, fun a z => ?_, S.z0, S.zz, fun a u h m t => k _ _ (S.keep a u h m t), S.par, S.tabs.ext k, S.kt0, fun a h => let ⟨u, hu, n⟩ := S.st a h; ⟨u, k _ _ hu, n⟩, S.ol⟩
  · obtain ⟨ni, v, h1, h2⟩ := S.sh i d h
    exact ⟨ni, v, h1, h2.ext e⟩
  · obtain ⟨a, h3, nz, c, f⟩ := S.ow j i d h1 h2
    exact ⟨a, h3, nz, c.ext e fun o h => k _ _ h, f⟩
  · obtain ⟨u, h, nt⟩ := S.zd a z
    exact ⟨u, k _ _ h, nt⟩
theorem lz_rp {L : Addr} : ∀ {xs ys : List V} {ds es : List D}, RpA K Z H' xs ds → RpA K Z H' ys es → ∀ (acc : List V), acc.length = min xs.length ys.length → (∀ (j : Nat) v, acc[j]? = some v → ∃ T x y, v = .ref T ∧ T ≠ L ∧ H' T = some (.tup [x, y]) ∧ xs[j]? = some x ∧ ys[j]? = some y) → RpA K Z H' acc (zipD ds es)
  | _, _, _, _, .nil, _, [], _, _ => by unfold zipD; exact .nil
  | _, _, _, _, .nil, _, a :: l, ha, _ => by simp at ha
  | _, _, _, _, .cons h t, .nil, [], _, _ => by unfold zipD; exact .nil
  | _, _, _, _, .cons h t, .nil, a :: l, ha, _ => by simp at ha
  | _, _, _, _, .cons h t, .cons h2 t2, [], ha, _ => by simp at ha
  | _, _, _, _, .cons h t, .cons h2 t2, a :: l, ha, hat => by
    obtain ⟨T, x, y, rfl, _, e, e1, e2⟩ := hat 0 a rfl
    cases e1; cases e2
    exact .cons (.tup (.inl (.inl e)) (by show 2 ≤ 16777216; decide) (RpA.two h h2)) (lz_rp t t2 l (by simp at ha; omega) fun j v hj => hat (j + 1) v hj)
end
section
variable {X : Cx} {own : List Nat} {T : Ent} {W : WX} {fa fb : EE} {a b : Expr} {p p2 pos pos2 : Pos} {k : Nat}
/-- what the two sources are, and what is wanted of the list -/
def LzMid (X : Cx) (own : List Nat) (T : Ent) (W : WX) (σ : L2.St) (Q : VK) (vs : List V) (H1 : Hp) : Prop :=
  ∃ c d xs ys Z1 ρ ω ds es, vs = [Sc.v c, Sc.v d] ∧ c.Has X.K H1 xs ∧ d.Has X.K H1 ys ∧ Sx X.K own T Z1 ρ ω σ H1 ∧ RpA X.K Z1 H1 xs ds ∧ RpA X.K Z1 H1 ys es ∧ xs.length ≤ LIM ∧ Pg X.K X.mg own T W (Rp X.K) (.ok (.list (zipD ds es)) ω) ρ σ Z1 H1 Q
theorem e_lzip (C : Cf X W k) (hgl : Gl X "list") (hml : X.mg "list" = none) (hg : Gl X "zip") (hm : X.mg "zip" = none) (ha : PE X a (vE X own T W fa)) (hb : PE X b (vE X own T W fb))
    (hs : starEach [a, b] X.env = (false, eval a X.env) :: starEach [b] X.env) (hs2 : starEach [b] X.env = (false, eval b X.env) :: starEach [] X.env) (hpl : (backTo pos2 (starEach [b] X.env)).any (·.1) = false)
    (hs3 : starEach [.Call (.Name "zip" p2) [a, b] [] pos2] X.env = (false, eval (.Call (.Name "zip" p2) [a, b] [] pos2) X.env) :: starEach [] X.env) :
    PE X (.Call (.Name "list" p) [.Call (.Name "zip" p2) [a, b] [] pos2] [] pos) (vE X own T W (eLW (wZip fa fb))) := by
  refine ⟨fun pins s σ H Q I h => ?_⟩
  refine Call_ (ld_blt I hgl hml PyProof.Rows.boot_list (PyProof.Rows.callWith_type1 (args_cons ?_ hs3) hs3))
  refine Call_ (ld_blt I hg hm PyProof.Rows.boot_zip (PyProof.Rows.callWith_type1 (thn ((pa_cons ha (pa_cons hb pa_nil hs2) hs).run pos2 pins s σ H (LzMid X own T W σ Q) I ?_) fun us s1 ⟨vs, H1, I1, r1, q1⟩ => ?_) hs hpl))
  · refine tG.bind (k := fun x ρ => M.bind (M.bind (fb ρ) fun y => M.bind (M.lift (itemsD x)) fun xs => M.bind (M.lift (itemsD y)) fun ys => M.pure (zipD xs ys)) fun xs => M.pure (.list xs)) (R' := Rp X.K) (Q' := Q) (by
      obtain ⟨Z, ρ, ω, S, h⟩ := h
      refine ⟨Z, ρ, ω, S, ?_⟩
      have e : M.bind (fa ρ) (fun x => M.bind (M.bind (fb ρ) fun y => M.bind (M.lift (itemsD x)) fun xs => M.bind (M.lift (itemsD y)) fun ys => M.pure (zipD xs ys)) fun xs => M.pure (PyData.list xs)) ω = eLW (wZip fa fb) ρ ω := by
        show _ = M.bind (M.bind (fa ρ) _) _ ω
        unfold M.bind
        cases fa ρ ω <;> rfl
      show Pg X.K X.mg own T W (Rp X.K) (M.bind (fa ρ) (fun x => M.bind (M.bind (fb ρ) fun y => M.bind (M.lift (itemsD x)) fun xs => M.bind (M.lift (itemsD y)) fun ys => M.pure (zipD xs ys)) fun xs => M.pure (PyData.list xs)) ω) ρ σ Z H Q
      rw [e]; exact h) fun d ρ ω v H1 Z1 S1 r1 h1 => ?_
    refine ⟨Z1, ρ, ω, S1, ?_⟩
    refine Pg.bind (k := fun y => M.bind (M.bind (M.lift (itemsD d)) fun xs => M.bind (M.lift (itemsD y)) fun ys => M.pure (zipD xs ys)) fun xs => M.pure (PyData.list xs)) (R' := Rp X.K) (Q' := Q) (by
      have e : M.bind (fb ρ) (fun y => M.bind (M.bind (M.lift (itemsD d)) fun xs => M.bind (M.lift (itemsD y)) fun ys => M.pure (zipD xs ys)) fun xs => M.pure (PyData.list xs)) ω = M.bind (M.bind (fb ρ) fun y => M.bind (M.lift (itemsD d)) fun xs => M.bind (M.lift (itemsD y)) fun ys => M.pure (zipD xs ys)) (fun xs => M.pure (PyData.list xs)) ω := by
        unfold M.bind
        cases fb ρ ω <;> rfl
      exact e ▸ h1) fun d2 ω2 u H2 Z2 e2 S2 r2 h2 => ?_
    cases eg : itemsD d with
    | none => simp only [M.bind, eg, M.lift] at h2; exact h2.elim
    | some ds =>
      cases eg2 : itemsD d2 with
      | none => simp only [M.bind, eg, eg2, M.lift] at h2; exact h2.elim
      | some es =>
        simp only [M.bind, eg, eg2, M.lift, M.pure] at h2
        obtain ⟨c, xs, rfl, q, n, hc⟩ := sc_of (r1.ext e2) eg
        obtain ⟨c2, ys, rfl, q2, n2, hc2⟩ := sc_of r2 eg2
        exact ⟨c, c2, xs, ys, Z2, ρ, ω2, ds, es, rfl, hc (fun _ => False) _ _ (.refl _ _), hc2 (fun _ => False) _ _ (.refl _ _), S2, q, q2, n, h2⟩
  · obtain ⟨c, d, xs, ys, Z1, ρ, ω, ds, es, ex, hqx, hqy, S, rq, rq2, n, h⟩ := q1
    subst ex
    cases r1 with
    | cons r rr =>
      cases rr with
      | cons r' rr =>
        cases rr
        obtain ⟨o1, Hh1, B1, hB1, at1, lt1⟩ := Sc.begins I1 hqx r
        obtain ⟨o2, Hh2, B2, hB2, at2, lt2⟩ := Sc.begins I1 hqy r'
        refine zip_begins2 B1 B2 hB1 hB2 fun h' hz hTI hTO h1 h2 hsz hk => ?_
        have I2 : Inv X pins σ H1 { s1 with heap := h' } := I1.kept (t' := s1.toks) hk
        refine args_nil ?_
        have big : ∀ b, (b = s1.heap.objs.size + 4 ∨ b = s1.heap.objs.size + 3 ∨ b = s1.heap.objs.size ∨ b = s1.heap.objs.size + 1) → s1.heap.objs.size ≤ b := fun b hb => by
          rcases hb with z | z | z | z
          · rw [z]; exact Nat.le_add_right _ _
          · rw [z]; exact Nat.le_add_right _ _
          · rw [z]; exact Nat.le_refl _
          · rw [z]; exact Nat.le_add_right _ _
        have A : Apt (s1.heap.objs.size + 4) (s1.heap.objs.size + 2) (s1.heap.objs.size + 3) s1.heap.objs.size (s1.heap.objs.size + 1) c d := by
          generalize s1.heap.objs.size = N at *
          exact { TIz := show (N + 2 : Nat) ≠ N + 4 by omega, TOz := show (N + 3 : Nat) ≠ N + 4 by omega, TITO := show (N + 2 : Nat) ≠ N + 3 by omega, TIi1 := show (N + 2 : Nat) ≠ N by omega, TIi2 := show (N + 2 : Nat) ≠ N + 1 by omega, z1 := show (N + 4 : Nat) ≠ N by omega, z2 := show (N + 4 : Nat) ≠ N + 1 by omega, T1 := show (N + 3 : Nat) ≠ N by omega, T2 := show (N + 3 : Nat) ≠ N + 1 by omega, i12 := show (N : Nat) ≠ N + 1 by omega, c := fun b hb e => absurd (lt1 b e) (Nat.not_lt.mpr (big b hb)), d := fun b hb e => absurd (lt2 b e) (Nat.not_lt.mpr (big b hb)) }
        refine lz_call A I2 C.calm hqx hqy (lim_le n) (fun b hcm => ?_) hz hTI ⟨_, _, hTO⟩ (at1 _ _ h1) (at2 _ _ h2) fun s' L H' acc I' lz ha => ?_
        · have e' : b = s1.heap.objs.size + 4 ∨ b = s1.heap.objs.size + 2 ∨ b = s1.heap.objs.size + 3 ∨ b = s1.heap.objs.size ∨ b = s1.heap.objs.size + 1 := by simpa using hcm
          have hle : s1.heap.objs.size ≤ b := by
            rcases e' with z | z | z | z | z
            · rw [z]; exact Nat.le_add_right _ _
            · rw [z]; exact Nat.le_add_right _ _
            · rw [z]; exact Nat.le_add_right _ _
            · rw [z]; exact Nat.le_refl _
            · rw [z]; exact Nat.le_add_right _ _
          exact I1.fpOk hle (I1.hok.fresh hle)
        · have S' := S.grow lz.gr
          have f0 := S.fresh0 lz.fr
          have S2 := S'.still lz.ls f0 fun j i d h1 h2 h3 => by
            obtain ⟨a, h4, _, c, _⟩ := S.ow j i d h1 h2
            rw [h3] at h4; cases h4
            obtain ⟨u, hu, _⟩ := c.obj
            rw [lz.fr] at hu; cases hu
          have e1 : Ext (Ow own σ) Z1 H1 Z1 H' := .grow lz.gr
          have e2 : Ext (Ow own σ) Z1 H1 (addZ Z1 L) H' := ⟨fun _ h => .inl h, e1.h, e1.t, e1.f, fun a u z _ h _ => z.elim id fun q => by rw [q, lz.fr] at h; cases h⟩
          refine ⟨.ref L, H', I', rfl, h _ H' _ e2 S2 (.lst (.inr rfl) lz.ls (by rw [ha]; exact Nat.le_trans (Nat.min_le_left _ _) n) (lz_rp (L := L) (RpA.ext e2 _ rq) (RpA.ext e2 _ rq2) acc ha lz.at_))⟩
end
end Wc

set_option Elab.async false
set_option linter.all false
set_option maxRecDepth 100000
set_option maxHeartbeats 2000000
/-! Wc.Sup: `super().__init__(..)` in the `__init__` of an own exception class. -/
namespace Wc
open PySem PySem.Spec PyProof.Rows PySem.W L2
section
variable {prog : Program} {w : World} {A : Around} {E : Value → Shared → Prop} {h : Heap} {g : Array GenState} {d : Drawn} {t : Nat} {os : OsState}
variable {nm q : Str} {C N : Addr} {bs bm : List Value} {hdct : Bool} {sn : List Str} {sub : List Value} {ab : Bool} {col : Option Bool} {dd : Option Addr} {k0 k1 k2 k3 k5 : Option Value}
/-- the bound built-in `__init__` called: the args are laid anew -/
theorem call_mwV {u e t0 : Addr} {rest : List Value} {Q : Value → Shared → Prop}
    (hC : h.get? C = some (excClassObj nm q C N bs bm hdct sn sub ab col dd k0 k1 k2 k3 k5 "ValueError.__new__")) (hbm : PySem.HandSPX.refsVE bm = true) (he : h.get? e = some (PySem.HandSPX.excO C t0)) (hu : h.get? u = some (kxs_mw "ValueError.__init__" e)) (hrest : rest.length ≤ sizeLine)
    (hq : ∀ h' t1, (∀ b o, b ≠ e → h.get? b = some o → h'.get? b = some o) → h'.get? e = some (PySem.HandSPX.excO C t1) → Q .none ⟨h', g, d, t, os⟩) :
    wpAny (model prog w) A (call (.ref u) rest) Q E ⟨h, g, d, t, os⟩ := by
  refine wpAny_call (codeAny_of_tree ?_)
  show wpAny _ A.in1 (callAny (.ref u) ⟨rest, []⟩) _ _ _
  simp only [callAny]
  refine wpAny_bind (wpAny_load hu ?_)
  simp only [kxs_mw, show (Value.type "method-wrapper" == Value.type "method" || Value.type "method-wrapper" == Value.type "builtin_function_or_method" || Value.type "method-wrapper" == Value.type "method-wrapper") = true by decide, if_true]
  refine PySem.W.KFB.if_so (by decide) ?_
  refine wpAny_bind (check_bound_init F.excBase_ValueError.toExcCallFacts hC he rfl ?_)
  refine wpAny_bind (wpAny_pure (wpAny_pure ?_))
  refine ⟨Code.quiet_builtin _ (by decide +kernel), codeAny_builtin F.excBase_ValueError.initEntry ?_⟩
  rw [Around.under_plainId F.excBase_ValueError.init.plain _]
  wp_walk
  refine hq _ h.objs.size (fun b o hb ho => ?_) ?_
  · rw [Heap.get?_update_other _ _ (Ne.symm hb)]
    exact Heap.get?_push_of_some _ ho
  · rw [Heap.get?_update_self _ (Heap.get?_push_of_some _ he) rfl]
    rfl
end

/-! the context of such a body: one free name, `__class__` -/
def cxS (CX : CXT) (P : Program) (w : World) (K : PySem.W.Frag) (mg : Str → Option Value) (base : Heap) (N : List Str) (qual : Str) (scope : Scope) (f : Addr) (cd : Value) (cc : Addr) (A : Around) (outer : List PySem.Env) (s : Shared) (H : Hp) (E : XK) : Cx where
  prog := P
  w := w
  K := K
  mg := mg
  base := base
  A := A.deeper (ksEnv qual scope s.heap.objs.size f cd cc)
  N := N
  s_0 := s
  H_0 := H
  env := ksEnv qual scope s.heap.objs.size f cd cc
  outer := outer
  stack := ksEnv qual scope s.heap.objs.size f cd cc :: outer
  ex := []
  calm := true
  fn := fun y => y != "__class__"
  pn := []
  xe := fun e s' => wpAny (model P w) (A.deeper (ksEnv qual scope s.heap.objs.size f cd cc)) (leaving (ksEnv qual scope s.heap.objs.size f cd cc) e) (fun _ s'' => CX outer H s E e s'') (fun e' s'' => CX outer H s E e' s'') s'
structure ScopeS (N P : List Str) (sc : Scope) : Prop where
  kind : sc.kind = .function
  co : sc.isCoroutine = false
  gen : sc.isGenerator = false
  nd : N.Nodup
  pre : N.take P.length = P
  par : ∀ x ∈ P, sc.names.lookup x = some .local
  nocell : ∀ y ∈ sc.names, y.2 ≠ .cell
  free : ∀ y ∈ sc.names, y.2 = .free → y.1 = "__class__"
theorem zip_rev {ps : List Str} (nd : ps.Nodup) : ∀ {us : List Value} {i : Nat} {y : Str} {u : Value}, ps[i]? = some y → us[i]? = some u → (ps.zip us).reverse.lookup y = some u := by
  induction ps with
  | nil => intro us i y u h; simp at h
  | cons p ps ih =>
    intro us i y u h1 h2
    cases us with
    | nil => simp at h2
    | cons v us =>
      have nd' := List.nodup_cons.mp nd
      rw [List.zip_cons_cons, List.reverse_cons, List.lookup_append]
      cases i with
      | zero =>
        have e1 : p = y := by simpa using h1
        have e2 : v = u := by simpa using h2
        subst e1 e2
        have : (ps.zip us).reverse.lookup p = none := by
          rw [List.lookup_eq_none_iff]
          intro q hq
          have := (List.of_mem_zip (List.mem_reverse.mp hq)).1
          have : q.1 ≠ p := fun e => nd'.1 (e ▸ this)
          simpa using Ne.symm this
        rw [this]
        simp
      | succ i =>
        rw [ih nd'.2 (i := i) (by simpa using h1) (by simpa using h2)]
        rfl
theorem inv_startS {CX : CXT} {P : Program} {w : World} {K : PySem.W.Frag} {mg : Str → Option Value} {base : Heap} {N ps : List Str} {qual : Str} {scope : Scope} {f cc : Addr} {cd : Value} {A : Around} {outer : List PySem.Env} {s : Shared} {H : Hp} {E : XK} {us : List Value} {vs : List V} {h1 : Heap} {tk : Nat} {cl : Value} {cld : Option Addr} {csl : Array (Option Value)} {vc : Option Value}
    (S : ScopeS N ps scope) (hd : A.handled = none) (e0 : Env0 P w K mg base A outer s H) (hl : vs.length = ps.length) (r : Vals vs us) (hcell : K.lookup cc = some ⟨cl, cld, .cell vc, csl⟩)
    (hns : h1.Ns s.heap.objs.size (fun x => (ps.zip us).reverse.lookup x)) (hk : ∀ b o, s.heap.get? b = some o → h1.get? b = some o) :
    Inv (cxS CX P w K mg base N qual scope f cd cc A outer s H E) [] (start N vs) H { s with heap := h1, toks := tk } := by
  have hpl : ps.length ≤ N.length := by have := congrArg List.length S.pre; rw [List.length_take] at this; omega
  have noA : ∀ b : Addr, b ∉ (cxS CX P w K mg base N qual scope f cd cc A outer s H E).ex := fun b z => absurd (show b ∈ ([] : List Addr) from z) (by simp)
  have one : ∀ {x : Str} {c : Addr}, ([("__class__", cc)] : List (Str × Addr)).lookup x = some c → x = "__class__" ∧ c = cc := fun {x c} h => by
    rw [List.lookup_cons] at h
    split at h
    · rename_i q
      cases h
      exact ⟨by simpa using q, rfl⟩
    · cases h
  have base_cc : ∃ o, base.get? cc = some o := ⟨_, e0.mod.kin _ _ hcell⟩
  obtain ⟨ob, hob⟩ := base_cc
  refine ⟨⟨e0.mod, S.kind, rfl, rfl, Nat.le_refl _, fun y z c h1 h2 => (one h1).1.trans (one h2).1.symm, fun y hy => ?_, fun y c hf h => ?_, fun _ => hd, Around.frames_deeper e0.frames, .inr ⟨rfl, rfl⟩, fun b z => absurd z (noA b), e0.bs, e0.bsz, fun b _ _ => noA b, fun b z => absurd z (noA b), e0.funs, e0.frf⟩,
    rfl, e0.bare, Un.kept hk, ⟨_, hns, fun i y v h1 h2 h3 => ?_⟩, fun y c h => ?_, e0.hok.fresh (Nat.le_refl _), fun y c h => ?_, fun p hp => absurd (show p ∈ ([] : List (Addr × Obj)) from hp) (by simp), e0.hok.kept hk, ?_⟩
  · have hy : scope.names.lookup y = some .cell ∨ scope.names.lookup y = some .free := hy
    rcases hy with hy | hy
    · exact absurd rfl (S.nocell _ (PySem.mem_of_lookup hy))
    · exact ⟨cc, by rw [show y = "__class__" from S.free _ (PySem.mem_of_lookup hy) rfl]; rfl⟩
  · rw [(one h).1] at hf
    exact absurd (show (("__class__" : Str) != "__class__") = true from hf) (by decide)
  · have hi : i < vs.length := by
      unfold L2.start at h2
      by_cases hi : i < vs.length
      · exact hi
      · rw [List.getElem?_append_right (by simpa using hi)] at h2
        rw [List.getElem?_replicate] at h2
        split at h2 <;> cases h2
    have ha : vs[i]? = some v := by
      unfold L2.start at h2
      rw [List.getElem?_append_left (by simpa using hi), List.getElem?_map] at h2
      cases e : vs[i]? with
      | none => rw [e] at h2; cases h2
      | some a => rw [e] at h2; cases h2; rfl
    obtain ⟨u, hu, rv⟩ := r.get ha
    have hp : ps[i]? = some y := by
      rw [← S.pre, List.getElem?_take_of_lt (by omega)]; exact h1
    have ndP : ps.Nodup := by rw [← S.pre]; exact S.nd.sublist (List.take_sublist _ _)
    exact ⟨u, rv, .inl ⟨S.par y (List.mem_of_getElem? hp), zip_rev ndP hp hu⟩⟩
  · obtain ⟨_, rfl⟩ := one h
    exact ⟨_, _, hk _ _ (e0.bs _ _ (e0.mod.kin _ _ hcell)).1, rfl⟩
  · obtain ⟨_, rfl⟩ := one h
    exact (e0.bs _ _ (e0.mod.kin _ _ hcell)).2
  · unfold L2.start
    show _ = N.length
    rw [List.length_append, List.length_map, List.length_replicate]
    omega

/-- what the written part says of a class whose `__init__` says super().__init__(..) -/
structure SupK (prog : Program) (K : PySem.W.Frag) (mg : Str → Option Value) (C f cc cda : Addr) : Prop where
  exc : OexC K C
  cell : ∃ cl cld csl, K.lookup cc = some ⟨cl, cld, .cell (some (.ref C)), csl⟩
  code : ∃ ccl cdd vs ccs file tf, K.lookup cda = some ⟨ccl, cdd, .fields vs, ccs⟩ ∧ vs[2]? = some (.str file tf) ∧ ((prog.main.file : Str) == file) = true
  cls : ∃ cdD, clsIn K C = some cdD
  sub : mroIn K C (.ref C) = some true
  sup : ks_superIn K C C "__init__" = some (some (.builtin "ValueError.__init__"))
  val : subIn K (.ref C) (.type "ValueError") = some true
  any : nsIn K cStatics "thirdparty.any" = some none
  mgs : mg "super" = none
  top : (prog.main.scope.names.lookup ("super" : Str)).isSome = false
section
variable {CX : CXT} {P : Program} {w : World} {K : PySem.W.Frag} {mg : Str → Option Value} {base : Heap} {N ps : List Str} {name qual : Str} {params : Arguments} {body rest : List Stmt} {es : List Expr} {e1 : Expr} {scope : Scope} {dV kV doc pm ct oc : Value} {an od : Option Addr} {osl : Array (Option Value)}
  {pl : PySem.Env → Sem Bool} {C f cc cda : Addr} {ar : Arg} {k : Nat} {sp : Sp} {p0 p1 p2 p3 p4 : Pos}
theorem sup_core (SK : SupK P K mg C f cc cda) (lk : K.lookup f = some ⟨oc, od, .func (ksFn name qual params (.Expr (.Call (.Attribute (.Call (.Name "super" p0) [] [] p1) "__init__" p2) (e1 :: es) [] p3) p4 :: rest) scope dV kV doc pm an (.ref cda) ct cc), osl⟩)
    (hcd : codeIn K (.ref cda) qual = true) (S : ScopeS N ps scope) (len : ∀ vs H Q E, sp vs H Q E → vs.length = ps.length)
    (hp : (params.posonlyargs ++ params.args).head? = some ar) (h0 : ps[0]? = some ar.arg) (hks : scope.names.lookup ("super" : Str) = some .globalImplicit) (hkc : scope.names.lookup ("__class__" : Str) = some .free)
    (hbody : ∀ (A : Around) (outer : List PySem.Env) (s : Shared) (H : Hp) (vs : List V) (Q : VK) (E : XK), Room k (A.deeper (ksEnv qual scope s.heap.objs.size f (.ref cda) cc)) → sp vs H Q E →
      ∃ a ws t ta, vs = .ref a :: ws ∧ H a = some (exo a C none) ∧ PA (cxS CX P w K mg base N qual scope f (.ref cda) cc A outer s H E) (e1 :: es) ta ∧ ta (start N vs) H (fun us H' => H' = H ∧ us.length ≤ LIM) ∧
        PSs (cxS CX P w K mg base N qual scope f (.ref cda) cc A outer s H E) rest t ∧ t { nx := fun _ H' => Q .non H', rt := Q } (start N vs) H)
    (he : ∀ env, eval (.Call (.Attribute (.Call (.Name "super" p0) [] [] p1) "__init__" p2) (e1 :: es) [] p3) env = (do
      let ov ← attributeBase (.Call (.Name "super" p0) [] [] p1) "__init__" env (eval (.Call (.Name "super" p0) [] [] p1) env)
      standAt p2.atName
      let (f, first) ← holding [ov] (getMethod ov "__init__" (pl env))
      callWith p3 f first (backTo p3 (starEach (e1 :: es) env)) []))
    (hst : ∀ env, starEach (e1 :: es) env = (false, eval e1 env) :: starEach es env) (hpl : ∀ env, (backTo p3 (starEach es env)).any (·.1) = false) :
    FnOk P w K mg base CX (k + 1) f (ksFn name qual params (.Expr (.Call (.Attribute (.Call (.Name "super" p0) [] [] p1) "__init__" p2) (e1 :: es) [] p3) p4 :: rest) scope dV kV doc pm an (.ref cda) ct cc) ps sp := by
  refine ⟨len, fun A outer s H args us vs Q E hr e0 hb r hsp => ?_⟩
  have hl := len _ _ _ _ hsp
  have KX : K.In s.heap := e0.mod.kin.keeps fun b o e => (e0.bs b o e).1
  have lim : s.heap.NoLimit := e0.mod.nolimit.keeps fun b o e => (e0.bs b o e).1
  obtain ⟨cl, cld, csl, hcell⟩ := SK.cell
  obtain ⟨ccl, cdd, cvs, ccs, file, tf, hcode, hvs, hfile⟩ := SK.code
  obtain ⟨cdD, hD⟩ := SK.cls
  obtain ⟨a, ws, t, ta, rfl, ha, pa, qa, pss, qs⟩ := hbody A outer s H vs Q E (hr.deeper _) hsp
  refine ks_codeAny_call_defAt (binds := ps.zip us) hr.depth (KX _ _ lk) rfl lim (PySem.W.codeRec_of KX hcd) rfl hb S.nocell (fun ⟨n, v⟩ hy => S.par n (List.of_mem_zip hy).1) (fun h₁ hns hk => ?_) S.co S.gen S.kind
  have I : Inv (cxS CX P w K mg base N qual scope f (.ref cda) cc A outer s H E) [] (start N (.ref a :: ws)) H { s with heap := h₁, toks := s.toks + (ps.zip us).length } := inv_startS S hr.hd e0 hl r hcell hns hk
  generalize hX : cxS CX P w K mg base N qual scope f (.ref cda) cc A outer s H E = X at *
  have eP : X.prog = P := by rw [← hX]; rfl
  have ew : X.w = w := by rw [← hX]; rfl
  have eK : X.K = K := by rw [← hX]; rfl
  have em : X.mg = mg := by rw [← hX]; rfl
  have ev : X.env = ksEnv qual scope s.heap.objs.size f (.ref cda) cc := by rw [← hX]; rfl
  have key : _root_.PySem.wpAt (model X.prog X.w) X.A (.func (.Expr (.Call (.Attribute (.Call (.Name "super" p0) [] [] p1) "__init__" p2) (e1 :: es) [] p3) p4 :: rest) X.env) (execs (.Expr (.Call (.Attribute (.Call (.Name "super" p0) [] [] p1) "__init__" p2) (e1 :: es) [] p3) p4 :: rest) X.env)
      (fun fl s' => CR CX outer P w H s Q E (.ok (.ret (match fl with | .ret v => v | _ => .none))) s') X.xe { s with heap := h₁, toks := s.toks + (ps.zip us).length } := by
    have hu0 : us[0]? = some (.ref a) := by
      obtain ⟨u, hu, rv⟩ := r.get (i := 0) (x := .ref a) rfl
      rw [hu]; exact congrArg some rv
    have hv : (fun x => (ps.zip us).reverse.lookup x) ar.arg = some (.ref a) := by
      have ndP : ps.Nodup := by rw [← S.pre]; exact S.nd.sublist (List.take_sublist _ _)
      exact zip_rev ndP h0 hu0
    have X₀ : K.In h₁ := fun b o e => hk b o (KX b o e)
    obtain ⟨nm, q, N0, bs, bm, sn, sub, ab, col, dd, k0, k1, k2, k3, k5, hC, hbm⟩ := SK.exc.cls
    obtain ⟨t0, hx⟩ := exo_at I.hok ha
    rw [ev]
    refine ks_wpAt_execs_cons (ks_wpAt_Expr_any (ks_wpAt_MethodCall ?_ (he _)) (by simp [interactive, S.kind]) rfl)
    refine ks_wpAt_super_base (env := ksEnv qual scope s.heap.objs.size f (.ref cda) cc) hks hkc (by decide) rfl (hk _ _ (KX _ _ lk)) rfl hp rfl (X₀ _ _ hcode) rfl hvs (by rw [eP]; exact hfile) (by rw [eP]; exact SK.top) ?_
    obtain ⟨mb, hb1, hb2⟩ := I.mod.blt
    refine ks_loadName_global S.kind hks (Calls.loadGlobal_builtin (env := ksEnv qual scope s.heap.objs.size f (.ref cda) cc) (I.mod.glob.keeps I.bk) (by rw [em]; exact SK.mgs) (hb1.keeps I.bk) ((hb2 _ (by decide)).trans (by decide +kernel)) ⟨rfl, ?_⟩)
    refine wpAny_loadName_free S.kind hkc rfl ⟨_, X₀ _ _ hcell, rfl⟩ ?_
    refine wpAny_loadName_local S.kind (S.par _ (List.mem_of_getElem? h0)) hns hv ?_
    refine ks_wpAny_isType_cls (X₀ _ _ hC) rfl ⟨rfl, ?_⟩
    refine ks_wpAny_call_super (X₀ _ _ hC) rfl hx rfl (fun c e => by cases e) (looks_mroIn X₀ SK.sub) (fun h2 e2 k2 => ?_)
    have X₂ : K.In h2 := fun b o e => k2 b o (X₀ b o e)
    cases hc : clsIn K C with
    | none => rw [hc] at hD; cases hD
    | some cd =>
    have hm := SK.sup
    unfold ks_superIn at hm
    rw [hc] at hm
    have IA : InstAt h2 a (PySem.HandSPX.excO C t0) C none := ⟨k2 _ _ hx, rfl, rfl, trivial⟩
    have hI : Looks (model X.prog X.w) h2 (isInstance (.ref a) (.type "ValueError")) true := IA.type.andThen (looks_subIn X₂ SK.val)
    refine kxs_getMethod kxs_ValueError e2 (looks_opaque X₂ SK.any) (l₀ := cd.mro) (fun A Q E s k q => wpAny_bind ((looks_clsIn X₂ hc) A _ E s k (wpAny_pure q))) rfl X₂ hm hI (ks_ne X₂ IA hc) (by decide) ?_
    show PySem.wpAny _ _ (callWith p3 (.ref h2.objs.size) [] (backTo p3 (starEach (e1 :: es) _)) []) _ _ _
    rw [← ev]
    rw [hst]
    refine kxs_callWith (i := "ValueError.__init__") (x := a) (by show (false || (backTo p3 (starEach es X.env)).any (·.1)) = false; rw [hpl]; rfl) ?_
    have hsp : spliced (backTo p3 ((false, eval e1 X.env) :: starEach es X.env)) = spliced (backTo p3 (starEach (e1 :: es) X.env)) := by rw [hst]
    refine Calls.evalArgs_plain ?_
    show PySem.wpAny _ _ (spliced (backTo p3 ((false, eval e1 X.env) :: starEach es X.env))) _ _ _
    rw [hsp]
    have I3 : Inv X [(h2.objs.size, kxs_mw "ValueError.__init__" a)] (start N (.ref a :: ws)) H ⟨h2.push (kxs_mw "ValueError.__init__" a), s.gens, s.drawn, s.toks + (ps.zip us).length + 1, s.os⟩ :=
      ClX.pin_new (s := { s with heap := h₁, toks := s.toks + (ps.zip us).length }) (t' := s.toks + (ps.zip us).length + 1) (h' := h2.push (kxs_mw "ValueError.__init__" a)) I (fun b o e => Heap.get?_push_of_some _ (k2 b o e)) (Nat.le_of_lt (Heap.lt_size e2)) (Heap.get?_push_size _ rfl) (fun v e => by cases e)
    refine thn (pa.run p3 _ _ _ H _ I3 qa) fun us' s3 ⟨vs', H3, I4, rv, e3, l3⟩ => ⟨ClX.pin_at I4, ?_⟩
    subst e3
    obtain ⟨h3, g3, d3, t3, os3⟩ := s3
    obtain ⟨t1, ho⟩ := exo_at I4.hok ha
    refine call_mwV (by have := I4.kIn; rw [eK] at this; exact this _ _ hC) hbm ho (ClX.pin_at I4) (by show us'.length ≤ sizeLine; rw [← Paired.length rv]; exact lim_le l3) fun h4 t4 k4 e4 => ?_
    have J := (ClX.unpin I4).write (t' := t3) (x := a) (e := a) (o := exo a C none) (by rw [ha]; exact True.intro) (.inl rfl) k4 ⟨_, e4⟩ (exo_ok e4)
    have eu : upd H3 a (exo a C none) = H3 := by
      funext b
      by_cases hb : b = a
      · rw [hb, upd_same, ha]
      · rw [upd_ne hb]
    rw [eu] at J
    refine wpAt_of_wpAny (wpAny_mono (pss.run [] _ _ H3 _ J qs) (fun fl s' hs => ?_) fun _ _ h => h)
    subst hX
    have fin : ∀ {σ' : L2.St} {H' : Hp} {v : V} {u : Value}, Inv (cxS CX P w K mg base N qual scope f (.ref cda) cc A outer s H3 E) [] σ' H' s' → RelV v u → Q v H' → CE outer P w H3 s Q u s' :=
      fun {σ' H' v u} J rv q => ⟨v, H', J.os, J.bare, J.base, J.hok, rv, q⟩
    cases fl with
    | ret u =>
      obtain ⟨v, σ', H', J, rv, q⟩ := hs
      exact fin J rv q
    | next =>
      obtain ⟨σ', H', J, q⟩ := hs
      exact fin (v := V.non) (u := Value.none) J rfl q
    | brk =>
      obtain ⟨_, _, _, q⟩ := hs
      exact False.elim q
    | cont =>
      obtain ⟨_, _, _, q⟩ := hs
      exact False.elim q
  subst hX
  exact key
end
end Wc

set_option Elab.async false
set_option linter.all false
set_option maxRecDepth 100000
set_option maxHeartbeats 2000000
/-! Wc.Raise: own exceptions made and raised. -/
namespace Wc
open PySem PySem.Spec PyProof.Rows PySem.W L2
/-- what such an `__init__` does: its fields are stored -/
def spOx (K : PySem.W.Frag) (C : Addr) (fs : List Str) : Sp := fun vs H Q _ =>
  ∃ a ws, vs = .ref a :: ws ∧ ws.length = fs.length ∧ H a = some (exo a C none) ∧
    ∀ dx H2, H dx = none → dx ≠ a → H2 a = some (exo a C (some dx)) → H2 dx = some (exd dx (fs.zip ws).reverse) → (∀ b, b ≠ a → b ≠ dx → H2 b = H b) → Q .non H2
theorem spOx_len {K : PySem.W.Frag} {C : Addr} {fs : List Str} (x : Str) : ∀ vs H Q E, spOx K C fs vs H Q E → vs.length = (x :: fs).length := by
  rintro vs H Q E ⟨a, ws, rfl, hl, _⟩
  simp [hl]
section
variable {CX : CXT} {P : Program} {w : World} {K : PySem.W.Frag} {mg : Str → Option Value} {base : Heap} {name qual x y : Str} {params : Arguments} {scope : Scope} {dV kV doc pm ct oc : Value} {an od : Option Addr} {osl : Array (Option Value)}
  {pl : PySem.Env → Sem Bool} {C f cc cda : Addr} {ar : Arg} {k : Nat} {p0 p1 p2 p3 p4 q1 q2 q3 q4 q5 r1 r2 r3 r4 r5 : Pos}
theorem start1 {a b : V} : L2.start ["self", x] [a, b] = [some a, some b] := rfl
theorem sup1 (SK : SupK P K mg C f cc cda) (lk : K.lookup f = some ⟨oc, od, .func (ksFn name qual params [.Expr (.Call (.Attribute (.Call (.Name "super" p0) [] [] p1) "__init__" p2) [.Name x q1] [] p3) p4, .Assign [.Attribute (.Name "self" q2) x q3] (.Name x q4) q5] scope dV kV doc pm an (.ref cda) ct cc), osl⟩)
    (hcd : codeIn K (.ref cda) qual = true) (S : ScopeS ["self", x] ["self", x] scope) (hp : (params.posonlyargs ++ params.args).head? = some ar) (h0 : ar.arg = "self") (hks : scope.names.lookup ("super" : Str) = some .globalImplicit) (hkc : scope.names.lookup ("__class__" : Str) = some .free)
    (hno : PySem.W.findIn K (.ref C) x = some none) (hd : (x == ("__debug__" : Str)) = false) (hd2 : (x == ("__classdict__" : Str)) = false)
    (he : ∀ env, eval (.Call (.Attribute (.Call (.Name "super" p0) [] [] p1) "__init__" p2) [.Name x q1] [] p3) env = (do
      let ov ← attributeBase (.Call (.Name "super" p0) [] [] p1) "__init__" env (eval (.Call (.Name "super" p0) [] [] p1) env)
      standAt p2.atName
      let (f, first) ← holding [ov] (getMethod ov "__init__" (pl env))
      callWith p3 f first (backTo p3 (starEach [.Name x q1] env)) [])) :
    FnOk P w K mg base CX (k + 1) f (ksFn name qual params [.Expr (.Call (.Attribute (.Call (.Name "super" p0) [] [] p1) "__init__" p2) [.Name x q1] [] p3) p4, .Assign [.Attribute (.Name "self" q2) x q3] (.Name x q4) q5] scope dV kV doc pm an (.ref cda) ct cc) ["self", x] (spOx K C [x]) := by
  refine sup_core SK lk hcd S (spOx_len "self") hp (by rw [h0]; rfl) hks hkc (fun A outer s H vs Q E hr hsp => ?_) he (fun env => rfl) (fun env => rfl)
  obtain ⟨a, ws, rfl, hl, ha, hQ⟩ := hsp
  match ws, hl with
  | [v], _ =>
    have vx : Vis (cxS CX P w K mg base ["self", x] qual scope f (.ref cda) cc A outer s H E).env.scope x := .inl (S.par x (by simp))
    have vs : Vis (cxS CX P w K mg base ["self", x] qual scope f (.ref cda) cc A outer s H E).env.scope "self" := .inl (S.par "self" (by simp))
    refine ⟨a, [v], _, _, rfl, ha, pa_cons (pe_var (i := 1) rfl vx hd hd2) pa_nil, ⟨v, rfl, rfl, by show 1 ≤ 16777216; decide⟩, pss_one (ps_ost (pe_var (i := 0) rfl vs) (pe_var (i := 1) rfl vx hd hd2)), ?_⟩
    refine ⟨v, rfl, .ref a, rfl, a, C, rfl, SK.exc, hno, .inl ⟨ha, fun dx n ne => ?_⟩⟩
    refine hQ dx _ n ne upd_same ?_ fun b h1 h2 => ?_
    · rw [upd_ne ne]; exact upd_same
    · rw [upd_ne h1, upd_ne h2]
theorem sup2 (SK : SupK P K mg C f cc cda) (lk : K.lookup f = some ⟨oc, od, .func (ksFn name qual params [.Expr (.Call (.Attribute (.Call (.Name "super" p0) [] [] p1) "__init__" p2) [.Name x q1, .Name y r1] [] p3) p4, .Assign [.Attribute (.Name "self" q2) x q3] (.Name x q4) q5, .Assign [.Attribute (.Name "self" r2) y r3] (.Name y r4) r5] scope dV kV doc pm an (.ref cda) ct cc), osl⟩)
    (hcd : codeIn K (.ref cda) qual = true) (S : ScopeS ["self", x, y] ["self", x, y] scope) (hp : (params.posonlyargs ++ params.args).head? = some ar) (h0 : ar.arg = "self") (hks : scope.names.lookup ("super" : Str) = some .globalImplicit) (hkc : scope.names.lookup ("__class__" : Str) = some .free)
    (hno : PySem.W.findIn K (.ref C) x = some none) (hno2 : PySem.W.findIn K (.ref C) y = some none) (hd : (x == ("__debug__" : Str)) = false) (hd2 : (x == ("__classdict__" : Str)) = false) (hd3 : (y == ("__debug__" : Str)) = false) (hd4 : (y == ("__classdict__" : Str)) = false)
    (he : ∀ env, eval (.Call (.Attribute (.Call (.Name "super" p0) [] [] p1) "__init__" p2) [.Name x q1, .Name y r1] [] p3) env = (do
      let ov ← attributeBase (.Call (.Name "super" p0) [] [] p1) "__init__" env (eval (.Call (.Name "super" p0) [] [] p1) env)
      standAt p2.atName
      let (f, first) ← holding [ov] (getMethod ov "__init__" (pl env))
      callWith p3 f first (backTo p3 (starEach [.Name x q1, .Name y r1] env)) [])) :
    FnOk P w K mg base CX (k + 1) f (ksFn name qual params [.Expr (.Call (.Attribute (.Call (.Name "super" p0) [] [] p1) "__init__" p2) [.Name x q1, .Name y r1] [] p3) p4, .Assign [.Attribute (.Name "self" q2) x q3] (.Name x q4) q5, .Assign [.Attribute (.Name "self" r2) y r3] (.Name y r4) r5] scope dV kV doc pm an (.ref cda) ct cc) ["self", x, y] (spOx K C [x, y]) := by
  refine sup_core SK lk hcd S (spOx_len "self") hp (by rw [h0]; rfl) hks hkc (fun A outer s H vs Q E hr hsp => ?_) he (fun env => rfl) (fun env => rfl)
  obtain ⟨a, ws, rfl, hl, ha, hQ⟩ := hsp
  match ws, hl with
  | [v, u], _ =>
    have vx : Vis (cxS CX P w K mg base ["self", x, y] qual scope f (.ref cda) cc A outer s H E).env.scope x := .inl (S.par x (by simp))
    have vy : Vis (cxS CX P w K mg base ["self", x, y] qual scope f (.ref cda) cc A outer s H E).env.scope y := .inl (S.par y (by simp))
    have vs : Vis (cxS CX P w K mg base ["self", x, y] qual scope f (.ref cda) cc A outer s H E).env.scope "self" := .inl (S.par "self" (by simp))
    refine ⟨a, [v, u], _, _, rfl, ha, pa_cons (pe_var (i := 1) rfl vx hd hd2) (pa_cons (pe_var (i := 2) rfl vy hd3 hd4) pa_nil), ⟨v, rfl, u, rfl, rfl, by show 2 ≤ 16777216; decide⟩, pss_cons (ps_ost (pe_var (i := 0) rfl vs) (pe_var (i := 1) rfl vx hd hd2)) (pss_one (ps_ost (pe_var (i := 0) rfl vs) (pe_var (i := 2) rfl vy hd3 hd4))), ?_⟩
    refine ⟨v, rfl, .ref a, rfl, a, C, rfl, SK.exc, hno, .inl ⟨ha, fun dx n ne => ?_⟩⟩
    have e1 : upd (upd H dx (exd dx [(x, v)])) a (exo a C (some dx)) dx = some (exd dx [(x, v)]) := by rw [upd_ne ne]; exact upd_same
    refine ⟨u, rfl, .ref a, rfl, a, C, rfl, SK.exc, hno2, .inr ⟨dx, _, upd_same, e1, by show 1 ≤ 900; decide, ?_⟩⟩
    refine hQ dx _ n ne ?_ upd_same fun b h1 h2 => ?_
    · rw [upd_ne (Ne.symm ne)]; exact upd_same
    · rw [upd_ne h2, upd_ne h1, upd_ne h2]
end
/-- an own exception class: what a raise must know of it -/
structure ExcM (P : Program) (w : World) (K : PySem.W.Frag) (mg : Str → Option Value) (base : Heap) (x : Str) (fs : List Str) : Prop where
  ex : ∃ C fI fd ps, mg x = some (.ref C) ∧ OexC K C ∧ PySem.W.findIn K (.ref C) "__init__" = some (some (.ref fI)) ∧ PySem.W.typeIn K (.ref fI) = some (.type "function") ∧ Binds K fd ps [] ∧ FnOk P w K mg base (L2.CX P w) 1 fI fd ps (spOx K C fs)
theorem zip_revV {ps : List Str} (nd : ps.Nodup) : ∀ {us : List V} {i : Nat} {y : Str} {u : V}, ps[i]? = some y → us[i]? = some u → (ps.zip us).reverse.lookup y = some u := by
  induction ps with
  | nil => intro us i y u h; simp at h
  | cons p ps ih =>
    intro us i y u h1 h2
    cases us with
    | nil => simp at h2
    | cons v us =>
      have nd' := List.nodup_cons.mp nd
      rw [List.zip_cons_cons, List.reverse_cons, List.lookup_append]
      cases i with
      | zero =>
        have e1 : p = y := by simpa using h1
        have e2 : v = u := by simpa using h2
        subst e1 e2
        have : (ps.zip us).reverse.lookup p = none := by
          rw [List.lookup_eq_none_iff]
          intro q hq
          have := (List.of_mem_zip (List.mem_reverse.mp hq)).1
          have : q.1 ≠ p := fun e => nd'.1 (e ▸ this)
          simpa using Ne.symm this
        rw [this]
        simp
      | succ i =>
        rw [ih nd'.2 (i := i) (by simpa using h1) (by simpa using h2)]
        rfl
theorem zip_look {fs : List String} : ∀ {ds : List D} {n : String} {d : D}, (fs.zip ds).lookup n = some d → ∃ i : Nat, fs[i]? = some n ∧ ds[i]? = some d := by
  induction fs with
  | nil => intro ds n d h; cases h
  | cons f fs ih =>
    intro ds n d h
    cases ds with
    | nil => cases h
    | cons e es =>
      rw [List.zip_cons_cons, List.lookup_cons] at h
      split at h
      · rename_i q
        cases h
        exact ⟨0, by simpa using (beq_iff_eq.mp q).symm, rfl⟩
      · obtain ⟨i, h1, h2⟩ := ih h
        exact ⟨i + 1, by simpa using h1, by simpa using h2⟩
theorem RpA.at_ {K : PySem.W.Frag} {Z : Addr → Prop} {H : Hp} {vs : List V} {ds : List D} (h : RpA K Z H vs ds) {i : Nat} {d : D} (e : ds[i]? = some d) : ∃ v, vs[i]? = some v ∧ Rp K Z H v d := h.get e
section
variable {X : Cx} {own : List Nat} {T : Ent} {W : WX} {R : (Addr → Prop) → Hp → V → D → Prop} {e : Expr} {es : List Expr} {p pos pos' : Pos} {k : Nat}
theorem s_raise {cls : String} {fs : List String} {as : List It1} (Cc : Cf X W k) (hk : 2 ≤ k) (M : ExcM X.prog X.w X.K X.mg X.base (Str.ofString cls) (fs.map Str.ofString)) (nd : (fs.map Str.ofString).Nodup) (hg : Gl X (Str.ofString cls))
    (ha : PA X (e :: es) (vA X own T W (items as))) (hl : fs.length ≤ 1000)
    (hdb : ((Str.ofString cls) == ("__debug__" : Str)) = false) (he : starEach (e :: es) X.env = (false, eval e X.env) :: starEach es X.env) (hpl : (backTo pos (starEach es X.env)).any (·.1) = false) :
    PS X (.Raise (some (.Call (.Name (Str.ofString cls) p) (e :: es) [] pos)) none pos') (wS X own T W R (sRaise cls fs as)) := by
  obtain ⟨C, fI, fd, ps, hm, oe, iC, tI, hb, F1⟩ := M.ex
  have hx : Passes (L2.CX X.prog X.w) X (fun _ _ _ => False) := fun pins σ H s e s' I c => by
    obtain ⟨_, _, _, _, _, _, _, _, _, _, _, _, q⟩ := c
    exact q.elim
  refine PS.imp (ps_raise Cc.calm Cc.tk (pmk_oex oe iC tI F1 (Cc.room.mono hk) hb .nil hx hg hm ha hdb he hpl)) fun E σ H h => ?_
  refine vS_E h fun ds ρ ω vs H1 Z1 S1 r q => ?_
  by_cases hq : ds.length = fs.length
  · rw [if_pos hq] at q
    have hvl : vs.length = fs.length := by rw [r.length]; exact hq
    refine ⟨by omega, fun a hn => ⟨a, vs, by simp, by simp [hvl], upd_same, fun dx H2 n1 ne e1 e2 ag => ⟨rfl, dx, _, e1, e2, ?_, ?_⟩⟩⟩
    · rw [upd_ne ne] at n1; exact n1
    · have n0 : H1 dx = none := by rw [upd_ne ne] at n1; exact n1
      have eH : upd (del H2 a) dx (.xd ((fs.map Str.ofString).zip vs).reverse) = upd H1 dx (.xd ((fs.map Str.ofString).zip vs).reverse) := by
        funext b
        by_cases h1 : b = dx
        · rw [h1, upd_same, upd_same]
        · rw [upd_ne h1, upd_ne h1]
          by_cases h2 : b = a
          · rw [h2, del_same, hn]
          · rw [del_ne h2, ag b h2 h1, upd_ne h2]
      rw [eH]
      refine q (.ref C) (some dx) σ _ Z1 (.new n0) (S1.new n0) ⟨C, rfl, hm, .inr ⟨dx, _, rfl, upd_same, fun n d hlk => ?_⟩⟩
      obtain ⟨i, h1, h2⟩ := zip_look hlk
      obtain ⟨v, h3, h4⟩ := r.at_ h2
      exact ⟨v, zip_revV nd (i := i) (by simp [h1]) h3, h4.ext (Ext.new (O := fun _ => False) n0)⟩
  · rw [if_neg hq] at q; exact q.elim
end
end Wc

set_option Elab.async false
set_option linter.all false
set_option maxRecDepth 100000
set_option maxHeartbeats 1000000
/-! Wc.Try: try, with clauses that return a constant. -/
namespace Wc
open PySem PySem.Spec PyProof.Rows L2
/-- raised class, clause's class: does it catch? -/
abbrev XT := String → String → Option Bool
def tryC (tab : XT) (x : Exn) (ρ : Env) (ω : Om) : List (String × D) → SR
  | [] => .ex x ρ ω
  | (c, d) :: r => match tab x.cls c with
    | some true => .rt d ω
    | some false => tryC tab x ρ ω r
    | none => .bad
def sTryC (tab : XT) (b : SS) (l : List (String × D)) : SS := fun ρ ω => match b ρ ω with
  | .ex x ρ' ω' => tryC tab x ρ' ω' l
  | r => r
structure XTab (K : PySem.W.Frag) (mg : Str → Option Value) (tab : XT) : Prop where
  ok : ∀ a c b C D, tab a c = some b → mg (Str.ofString a) = some (.ref C) → mg (Str.ofString c) = some (.ref D) → PySem.W.exmOne K (.ref C) (.ref D) = some b
inductive CoE : Expr → V → D → Prop
  | bl {b : Bool} {j : Nat} {p : Pos} : CoE (.Constant (.bool b) j p) (.bl b) (.bool b)
  | non {j : Nat} {p : Pos} : CoE (.Constant .none j p) .non .none
theorem CoE.pe {e : Expr} {v : V} {d : D} (h : CoE e v d) (X : Cx) : PE X e (L2.tC v) := by
  cases h with
  | bl => exact pe_bl
  | non => exact pe_non
theorem CoE.rp {e : Expr} {v : V} {d : D} (h : CoE e v d) (K : PySem.W.Frag) (Z : Addr → Prop) (H : Hp) : Rp K Z H v d := by
  cases h with
  | bl => exact .bl _
  | non => exact .non
inductive HdsC (X : Cx) : List ExceptHandler → List (String × D) → Prop
  | nil : HdsC X [] []
  | cons {c : String} {e : Expr} {v : V} {d : D} {np p1 p2 : Pos} {hds : List ExceptHandler} {l : List (String × D)} (hg : Gl X (Str.ofString c)) (hm : ∃ D, X.mg (Str.ofString c) = some (.ref D)) (hd : ((Str.ofString c) == ("__debug__" : Str)) = false) (he : CoE e v d) (r : HdsC X hds l) :
      HdsC X (.ExceptHandler (some (.Name (Str.ofString c) np)) none [.Return (some e) p1] p2 :: hds) ((c, d) :: l)
inductive HRel (K : PySem.W.Frag) (mg : Str → Option Value) : List (String × D) → List (Value × (Addr → Value → Option Addr → TS)) → Prop
  | nil : HRel K mg [] []
  | cons {c : String} {C : Addr} {v : V} {d : D} {l : List (String × D)} {l' : List (Value × (Addr → Value → Option Addr → TS))} (hm : mg (Str.ofString c) = some (.ref C)) (hr : ∀ Z H, Rp K Z H v d) (r : HRel K mg l l') : HRel K mg ((c, d) :: l) ((.ref C, fun _ _ _ => tRet (L2.tC v)) :: l')
section
variable {X : Cx} {own : List Nat} {T : Ent} {W : WX} {k : Nat} {b : SS} {tab : XT} {l : List (String × D)} {body : List Stmt} {h₀ : ExceptHandler} {hds : List ExceptHandler} {pos : Pos}
theorem HdsC.ok {hds : List ExceptHandler} (h : HdsC X hds l) : ∃ l', HdsOk X hds l' ∧ HRel X.K X.mg l l' := by
  induction h with
  | nil => exact ⟨[], .nil, .nil⟩
  | cons hg hm hd he r ih =>
    obtain ⟨l', h1, h2⟩ := ih
    obtain ⟨C, hm⟩ := hm
    exact ⟨_, .cons ⟨hg, hd, .inl hm⟩ (fun a oe cls d pn _ _ => pss_one (ps_ret (he.pe _))) h1, .cons hm (he.rp _) h2⟩
theorem s_tryC (xt : XTab X.K X.mg tab) (C : Cf X W k) (hs : X.stack = X.env :: X.outer) (hf : X.env.frame = some X.env.locals)
    (hb : ∀ (W' : WX) (pn : List (Addr × Obj)) (xe : Value → Shared → Prop), Takes (X.tr pn xe) W' → PassesOwn (model X.prog X.w) X.A X.env xe → PSs (X.tr pn xe) body (wS (X.tr pn xe) own T W' (Rp X.K) b))
    (hh : HdsC X (h₀ :: hds) l) : PS X (.Try body (h₀ :: hds) [] [] pos) (wS X own T W (Rp X.K) (sTryC tab b l)) := by
  obtain ⟨l', h1, h2⟩ := hh.ok
  refine PS.imp (ps_try_many (tb := fun W' => wS X own T W' (Rp X.K) b) hs hf C.tk hb h1) fun E σ H h => ?_
  obtain ⟨Z, ρ, ω, S, h⟩ := h
  refine ⟨Z, ρ, ω, S, ?_⟩
  unfold sTryC at h
  cases q : b ρ ω with
  | nx ρ2 ω2 => rw [q] at h; exact h
  | bk ρ2 ω2 => rw [q] at h; exact h
  | ct ρ2 ω2 => rw [q] at h; exact h
  | rt d ω2 => rw [q] at h; exact h
  | bad => rw [q] at h; exact h
  | ex x ρ2 ω2 =>
    rw [q] at h
    intro c dd σ' H' Z' e S' xr
    have h' : Ps X.K X.mg own T W (Rp X.K) E (tryC tab x ρ2 ω2 l) Z H := h
    clear h h1 q hh
    obtain ⟨D0, rfl, hm, hx⟩ := id xr
    induction h2 with
    | nil => exact h' _ _ _ _ _ e S' xr
    | @cons c C1 v d l l' hm1 hr r ih =>
      unfold tryC at h'
      cases qt : tab x.cls c with
      | none => rw [qt] at h'; exact h'.elim
      | some bb =>
        refine ⟨bb, xt.ok _ _ _ _ _ qt hm hm1, fun eb a _ => ?_, fun eb => ?_⟩
        · subst eb
          rw [qt] at h'
          exact h' v σ' ρ2 H' Z' e S' (hr _ _)
        · subst eb
          rw [qt] at h'
          exact ih h'
end
end Wc

set_option Elab.async false
set_option linter.all false
set_option maxRecDepth 100000
set_option maxHeartbeats 1000000
/-! Wc.TryX: several clauses, some with a name. -/
namespace Wc
open PySem PySem.Spec PyProof.Rows L2
/-- a clause: its class, its name's slot, what its suite does -/
structure Cl where
  c : Value
  i : Option Nat
  ts : Addr → Value → Option Addr → TS
def setI (σ : L2.St) (v : Option V) : Option Nat → L2.St
  | none => σ
  | some i => σ.set i v
def goneE (i : Option Nat) (D : Ends) : Ends := { nx := fun σ H => D.nx (setI σ none i) H, rt := D.rt, bk := fun σ H => D.bk (setI σ none i) H, ct := fun σ H => D.ct (setI σ none i) H }
def wMix (K : PySem.W.Frag) (Wout : WX) (D : Ends) : List Cl → WX
  | [] => Wout
  | q :: r => fun cls d σ H => ∃ b, PySem.W.exmOne K cls q.c = some b ∧ (b = true → ∀ a, H a = none → q.ts a cls d (goneE q.i D) (setI σ (some (.ref a)) q.i) H) ∧ (b = false → wMix K Wout D r cls d σ H)
inductive ClOk (X : Cx) : Option Str → Option Nat → Prop
  | no : ClOk X none none
  | as_ {n : Str} {i : Nat} (hi : X.N[i]? = some n) (hl : X.env.kindOf n = some .local) : ClOk X (some n) (some i)
inductive HdsX (X : Cx) : List ExceptHandler → List Cl → Prop
  | nil : HdsX X [] []
  | cons {x : Str} {nm : Option Str} {q : Cl} {b₀ : Stmt} {suite : List Stmt} {np pos' : Pos} {hds : List ExceptHandler} {l : List Cl} (hc : Names X x q.c) (hn : ClOk X nm q.i)
      (hsu : ∀ (a : Addr) (oe : Obj) (cls : Value) (d : Option Addr) (pn : List (Addr × Obj)), Zc cls d oe → (∃ vs, oe.data = .fields vs) → PSs (X.suite a ((a, oe) :: pn)) (b₀ :: suite) (q.ts a cls d)) (r : HdsX X hds l) :
      HdsX X (.ExceptHandler (some (.Name x np)) nm (b₀ :: suite) pos' :: hds) (q :: l)
section
variable {X : Cx} {body : List Stmt} {h₀ : ExceptHandler} {hds : List ExceptHandler} {l : List Cl} {pos : Pos} {tb : WX → TS} {Wout : WX}
theorem SP.out {a : Addr} {oe : Obj} {pins : List (Addr × Obj)} {D : Ends} {f : Flow} {s : Shared} (ok : X.Ok) (hsp : SP (X.suite a ((a, oe) :: (X.pn ++ pins))) [] D f s) : SP X pins D f s := by
  cases f with
  | next => obtain ⟨_, _, S, q⟩ := hsp; exact ⟨_, _, S.unsuite ok, q⟩
  | brk => obtain ⟨_, _, S, q⟩ := hsp; exact ⟨_, _, S.unsuite ok, q⟩
  | cont => obtain ⟨_, _, S, q⟩ := hsp; exact ⟨_, _, S.unsuite ok, q⟩
  | ret u => obtain ⟨_, _, _, S, r, q⟩ := hsp; exact ⟨_, _, _, S.unsuite ok, r, q⟩
theorem SP.offTry {xe : Value → Shared → Prop} {pins : List (Addr × Obj)} {D : Ends} {f : Flow} {s : Shared} (ok : X.Ok) (hsp : SP (X.tr (X.pn ++ pins) xe) [] D f s) : SP X pins D f s := by
  cases f with
  | next => obtain ⟨_, _, S, q⟩ := hsp; exact ⟨_, _, S.ofTry ok, q⟩
  | brk => obtain ⟨_, _, S, q⟩ := hsp; exact ⟨_, _, S.ofTry ok, q⟩
  | cont => obtain ⟨_, _, S, q⟩ := hsp; exact ⟨_, _, S.ofTry ok, q⟩
  | ret u => obtain ⟨_, _, _, S, r, q⟩ := hsp; exact ⟨_, _, _, S.ofTry ok, r, q⟩
theorem ps_try_mix (hs : X.stack = X.env :: X.outer) (hf : X.env.frame = some X.env.locals) (hN : X.N.Nodup) (tk : Takes X Wout)
    (hb : ∀ (W : WX) (pn : List (Addr × Obj)) (xe : Value → Shared → Prop), Takes (X.tr pn xe) W → PassesOwn (model X.prog X.w) X.A X.env xe → PSs (X.tr pn xe) body (tb W))
    (hh : HdsX X (h₀ :: hds) l) : PS X (.Try body (h₀ :: hds) [] [] pos) (fun D σ H => tb (wMix X.K Wout D l) D σ H) := by
  refine ⟨fun pins s σ H D I h => ?_⟩
  have ok := I.ok
  have hfr : X.A.frames = some (X.env :: X.outer) := by rw [ok.frames, hs]
  refine wpAny_Try_except (wpAny_mono ((hb (wMix X.K Wout D l) (X.pn ++ pins) (fun e s₁ => wpAny (model X.prog X.w) X.A (noteFrame e X.env) (fun _ s₂ => wpAny (model X.prog X.w) X.A (setFlight e none) (fun _ s₃ =>
    wpAny (model X.prog X.w) X.A (handleBy e X.env (h₀ :: hds)) (SP X pins D) X.xe s₃) X.xe s₂) X.xe s₁) (fun u s' xx => ?_) PassesOwn.looking).run [] s σ H D (I.toTry _) h) (fun f s1 hsp => ?_) fun e s1 he => he)
  · obtain ⟨a, B, sI, pins', σ', H', cls, d, rfl, J', nb, up, sky, na, os, ag, w⟩ := xx
    have J : Inv X pins σ' H' sI := J'.ofTry ok
    show wpAny (model X.prog X.w) X.A (noteFrame (.ref a) X.env) _ _ _
    refine Sky.land Zc.steady hfr hf (by rw [← hs]; exact sky) fun h3 fl3 up3 => ?_
    have J3 : Inv X pins σ' H' { s' with heap := h3 } := J.landed nb fl3.1 (up.trans up3) os ag
    obtain ⟨oe3, vs3, he3, hz3, hd3⟩ := fl3.there
    have nfr : a ∉ frs (X.env :: X.outer) := fun hm => by
      obtain ⟨_, o', e', hnf⟩ := fl3.2.2.1.mem hm
      rw [he3] at e'; cases e'
      exact hnf _ hd3
    have nL : a ≠ X.env.locals := fun z => nfr (List.mem_filterMap.mpr ⟨X.env, List.mem_cons_self, by rw [hf, z]⟩)
    have nF : a ∉ X.fs := fun hm => by
      obtain ⟨e, he, q⟩ := List.mem_filterMap.mp hm
      exact nfr (List.mem_filterMap.mpr ⟨e, List.mem_cons_of_mem _ he, q⟩)
    have S3 := J3.suite he3 hd3 na nL nF
    suffices go : ∀ {hds' : List ExceptHandler} {l' : List Cl}, HdsX X hds' l' → wMix X.K Wout D l' cls d σ' H' → wpAny (model X.prog X.w) X.A (handleBy (.ref a) X.env hds') (SP X pins D) X.xe { s' with heap := h3 } from go hh w
    intro hds' l' hk
    induction hk with
    | nil =>
      intro w
      refine wpAny_handleBy_nil ?_
      obtain ⟨k1, k2, k3, oe, vs, T, oT, ts', he, hz, hd, h1, hr⟩ := id fl3
      unfold PySem.passOn
      refine wpAny_bind (wpAny_field he hd h1 ?_)
      rw [if_neg (show ¬ ((Value.ref T == Value.none) = true) from by simp)]
      have fin : wpAny (model X.prog X.w) X.A (setFlight (.ref a) X.env.frame) (fun _ s4 => wpAny (model X.prog X.w) X.A (throw (.ref a) : Sem Flow) (SP X pins D) X.xe s4) X.xe { s' with heap := h3 } := by
        rw [hf]
        exact HandSPX.setFlight_upZ fl3 fun h4 hh4 up4 => wpAny_throw (tk _ _ ⟨a, B, sI, pins, σ', H', cls, d, rfl, J, nb, (up.trans up3).trans up4, .inr (.inr (by rw [hs]; exact hh4)), na, os, ag, w⟩)
      first
        | exact wpAny_bind (wpAny_pure (wpAny_bind fin))
        | exact wpAny_bind fin
    | @cons x nm q b₀ suite np pos' hds2 l2 hc hn hsu r ih =>
      rintro ⟨b, hb1, hyes, hno⟩
      refine wpAny_handleBy_cons (codeAny_handlers_test ?_) (by intro q; cases q)
      have LM := PySem.W.exm_one (M := model X.prog X.w) (J3.kIn) (fun A Q E s k q => wpAny_typeOf_ref (k _ _ he3) (by rw [hz3.1]; exact q)) hb1
      have test : ∀ {Q : Value → Shared → Prop} {E : Value → Shared → Prop}, Q q.c { s' with heap := h3 } → wpAny (model X.prog X.w) (X.A.mark (some (.ref a))) (eval (.Name x np) X.env) Q E { s' with heap := h3 } := fun {Q E} qq => by
        obtain ⟨hg, hdbg, hm | ⟨hm, hv, hnn⟩⟩ := hc
        · exact ld_glob (X := X.suite a ((a, oe3) :: (X.pn ++ pins))) S3 hg hm qq hdbg
        · exact ld_blt (X := X.suite a ((a, oe3) :: (X.pn ++ pins))) S3 hg hm hv qq hnn hdbg
      refine test (LM.here ?_)
      cases b with
      | false =>
        show wpAny _ X.A (handleBy (.ref a) X.env hds2) _ _ _
        exact ih (hno rfl)
      | true =>
        have hy := hyes rfl a na
        obtain ⟨qc, qi, qt⟩ := q
        cases hn with
        | no =>
          refine codeAny_handlers_suite (HandSPX.lands_againZ fl3 fun h4 fl4 up4 => ?_)
          have J4 : Inv X pins σ' H' { s' with heap := h4 } := J.landed nb fl4.1 ((up.trans up3).trans up4) os ag
          obtain ⟨oe4, vs4, he4, hz4, hd4⟩ := fl4.there
          exact wpAny_mono ((hsu a oe4 cls d (X.pn ++ pins) hz4 ⟨_, hd4⟩).run [] _ _ H' _ (J4.suite he4 hd4 na nL nF) hy) (fun f s6 hsp => SP.out ok hsp) (fun _ _ z => False.elim z)
        | @as_ n i hi hln =>
          refine codeAny_handlers_suite_as (HandSPX.lands_againZ fl3 fun h4 fl4 up4 => ?_)
          have J4 : Inv X pins σ' H' { s' with heap := h4 } := J.landed nb fl4.1 ((up.trans up3).trans up4) os ag
          obtain ⟨oe4, vs4, he4, hz4, hd4⟩ := fl4.there
          refine store_ok (X := X.suite a ((a, oe4) :: (X.pn ++ pins))) (v := .ref a) (J4.suite he4 hd4 na nL nF) hN hi (.inl hln) rfl (fun s5 S5 => ?_) (.inr hln)
          refine wpAny_mono ((hsu a oe4 cls d (X.pn ++ pins) hz4 ⟨_, hd4⟩).run [] s5 _ H' _ S5 hy) (fun f s6 hsp => ?_) (fun _ _ z => False.elim z)
          have end_ : ∀ {σ6 : L2.St} {H6 : Hp} {Q : Shared → Prop}, Inv (X.suite a ((a, oe4) :: (X.pn ++ pins))) [] σ6 H6 s6 → (∀ s7, Inv X pins (σ6.set i none) H6 s7 → Q s7) →
              wpAny (model X.prog X.w) X.A (do bindName X.env n .none; unbindBehindTheSuite X.env n pos') (fun _ s7 => Q s7) X.xe s6 := fun {σ6 H6 Q} S6 hq => gone_ok (S6.unsuite ok) hN hi hln hq
          cases f with
          | next => obtain ⟨_, _, S6, q6⟩ := hsp; exact end_ S6 fun s7 J7 => ⟨_, _, J7, q6⟩
          | brk => obtain ⟨_, _, S6, q6⟩ := hsp; exact end_ S6 fun s7 J7 => ⟨_, _, J7, q6⟩
          | cont => obtain ⟨_, _, S6, q6⟩ := hsp; exact end_ S6 fun s7 J7 => ⟨_, _, J7, q6⟩
          | ret u => obtain ⟨_, _, _, S6, r6, q6⟩ := hsp; exact end_ S6 fun s7 J7 => ⟨_, _, _, J7, r6, q6⟩
  · have hsp := SP.offTry ok hsp
    cases f with
    | next => exact wpAny_execs_nil hsp
    | brk => exact hsp
    | cont => exact hsp
    | ret u => exact hsp
end
end Wc

set_option Elab.async false
set_option linter.all false
set_option maxRecDepth 100000
set_option maxHeartbeats 1000000
/-! Wc.Came: `came(lambda: e)`, the def that gives the error's fields as a list. -/
namespace Wc
open PySem PySem.Spec PyProof.Rows L2
section
variable {K : PySem.W.Frag} {own : List Nat} {T : Ent} {Z : Addr → Prop} {ρ : Env} {ω : Om} {σ : L2.St} {H H1 : Hp} {O : Addr → Prop}
theorem Ext.tabbed (S : Sx K own T Z ρ ω σ H) (e : LamX.ExtN H H1) : Ext O Z H Z H1 :=
  ⟨fun _ h => h, fun a o z h => by obtain ⟨u, hu, nt⟩ := S.zd a z; rw [h] at hu; cases hu; exact e a o h nt, fun a o m h => e a o h (fun ps q => by subst q; exact m), fun a o h n t => e a o h t, fun _ _ z _ _ _ => z⟩
/-- the tables have grown -/
theorem Sx.tabbed (S : Sx K own T Z ρ ω σ H) (e : LamX.ExtN H H1) (t : LamX.Tabs T.tb H1) : Sx K own T Z ρ ω σ H1 := by
  have x : Ext (fun _ => False) Z H Z H1 := .tabbed S e
  refine ⟨S.len, S.nd, fun i d h => ?_, S.wl, fun j i d h1 h2 => ?_, S.dj, fun a z => ?_, S.z0, S.zz, fun a u h m t => e _ _ (S.keep a u h m t) t, S.par, t, S.kt0, fun a h => let ⟨u, hu, n⟩ := S.st a h; ⟨u, e _ _ hu n, n⟩, S.ol⟩
  · obtain ⟨ni, v, h1, h2⟩ := S.sh i d h
    exact ⟨ni, v, h1, h2.ext x⟩
  · obtain ⟨a, h3, nz, c, f⟩ := S.ow j i d h1 h2
    refine ⟨a, h3, nz, c.ext x fun o h => ?_, f⟩
    obtain ⟨u, hu, nt⟩ := c.stands
    rw [h] at hu; cases hu
    exact e _ _ h nt
  · obtain ⟨u, h, nt⟩ := S.zd a z
    exact ⟨u, e _ _ h nt, nt⟩
end
/-- class, tag, fields -/
abbrev CameT := List (String × (Str × List String))
def getFs (x : Exn) : List String → Option (List D)
  | [] => some []
  | f :: r => match x.fs.lookup f, getFs x r with
    | some d, some ds => some (d :: ds)
    | _, _ => none
def cameD (l : CameT) (x : Exn) : Option D := match l.lookup x.cls with
  | some (tag, fs) => (getFs x fs).map fun ds => .list (.str tag :: ds)
  | none => none
def eCame (l : CameT) (f : EE) : EE := fun ρ ω => match f ρ ω with
  | .ok d ω' => .ok d ω'
  | .ex x ω' => match cameD l x with
    | some d => .ok d ω'
    | none => .bad
  | .bad => .bad
/-- the fields read -/
def FldV (dd : Option Addr) (H : Hp) (fs : List Str) (vs : List V) : Prop := (fs = [] ∧ vs = []) ∨ ∃ d kvs, dd = some d ∧ H d = some (.xd kvs) ∧ fs.map (fun f => kvs.lookup f) = vs.map some
abbrev CamA := List (Addr × (Str × List Str))
def wC (K : PySem.W.Frag) (Q : VK) : CamA → XK
  | [] => fun _ _ _ => False
  | (C, tag, fs) :: r => fun cls dd H => ∃ b, PySem.W.exmOne K cls (.ref C) = some b ∧ (b = true → cls = .ref C ∧ ∃ vs, FldV dd H fs vs ∧ vs.length < 1000 ∧ ∀ p, H p = none → Q (.ref p) (upd H p (.lst (.str tag :: vs)))) ∧ (b = false → wC K Q r cls dd H)
inductive Flds (ev : Str) : List Expr → List Str → Prop
  | nil : Flds ev [] []
  | cons {p q : Pos} {f : Str} {es : List Expr} {fs : List Str} (r : Flds ev es fs) : Flds ev (.Attribute (.Name ev p) f q :: es) (f :: fs)
def tFlds (a : Addr) (cls : Value) (d : Option Addr) (C : Addr) (i : Nat) : List Str → TA
  | [] => tNil
  | f :: r => tCons (tXf a cls d C f (tVar i)) (tFlds a cls d C i r)
theorem pa_flds {X : Cx} {a C : Addr} {oe : Obj} {cls : Value} {d : Option Addr} {pn : List (Addr × Obj)} {ev : Str} {i : Nat} (T : XfC X.K C) (hz : Zc cls d oe) (hf : ∃ vs, oe.data = .fields vs) (he : ∀ p, PE (X.suite a ((a, oe) :: pn)) (.Name ev p) (tVar i)) :
    ∀ {es : List Expr} {fs : List Str}, (∀ f ∈ fs, PySem.W.findIn X.K (.ref C) f = some none) → Flds ev es fs → PA (X.suite a ((a, oe) :: pn)) es (tFlds a cls d C i fs)
  | _, _, _, .nil => pa_nil
  | _, _, h, .cons r => pa_cons (pe_xf T (h _ List.mem_cons_self) hz hf (he _)) (pa_flds T hz hf he (fun f hm => h f (List.mem_cons_of_mem _ hm)) r)
theorem flds_run {a : Addr} {cls : Value} {dd : Option Addr} {C : Addr} {i : Nat} {σ : L2.St} {H : Hp} (hs : σ[i]? = some (some (.ref a))) (hc : cls = .ref C) : ∀ {fs : List Str} {vs : List V} {Q : List V → Hp → Prop}, FldV dd H fs vs → Q vs H → tFlds a cls dd C i fs σ H Q
  | [], vs, Q, h, q => by
    rcases h with ⟨_, rfl⟩ | ⟨_, _, _, _, h⟩
    · exact q
    · cases vs with
      | nil => exact q
      | cons v vs => cases h
  | f :: fs, vs, Q, h, q => by
    rcases h with ⟨h, _⟩ | ⟨d, kvs, rfl, hd, h⟩
    · cases h
    · cases vs with
      | nil => cases h
      | cons v vs =>
        rw [List.map_cons, List.map_cons] at h
        obtain ⟨h1, h2⟩ := List.cons.inj h
        exact ⟨.ref a, hs, rfl, hc, d, kvs, v, rfl, hd, h1, flds_run hs hc (.inr ⟨d, kvs, rfl, hd, h2⟩) q⟩
/-- the clauses -/
inductive HdsCm (K : PySem.W.Frag) (mg : Str → Option Value) (sg : Scope) (Ng : List Str) (ev : Str) (i : Nat) : List ExceptHandler → CamA → Prop
  | nil : HdsCm K mg sg Ng ev i [] []
  | cons {x tag : Str} {C : Addr} {fs : List Str} {es : List Expr} {np p p2 p3 p4 : Pos} {j : Nat} {hds : List ExceptHandler} {l : CamA} (hg : sg.names.lookup x = some .globalImplicit) (hd : (x == ("__debug__" : Str)) = false) (hm : mg x = some (.ref C)) (T : XfC K C) (hf : ∀ f ∈ fs, PySem.W.findIn K (.ref C) f = some none) (fl : Flds ev es fs)
      (r : HdsCm K mg sg Ng ev i hds l) : HdsCm K mg sg Ng ev i (.ExceptHandler (some (.Name x np)) (some ev) [.Return (some (.List (.Constant (.str tag) j p :: es) p2)) p3] p4 :: hds) ((C, tag, fs) :: l)
  | no {x tag : Str} {C : Addr} {np p p2 p3 p4 : Pos} {j : Nat} {hds : List ExceptHandler} {l : CamA} (hg : sg.names.lookup x = some .globalImplicit) (hd : (x == ("__debug__" : Str)) = false) (hm : mg x = some (.ref C))
      (r : HdsCm K mg sg Ng ev i hds l) : HdsCm K mg sg Ng ev i (.ExceptHandler (some (.Name x np)) none [.Return (some (.List [.Constant (.str tag) j p] p2)) p3] p4 :: hds) ((C, tag, []) :: l)
inductive CRel (i : Nat) : CamA → List Cl → Prop
  | nil : CRel i [] []
  | cons {tag : Str} {C : Addr} {fs : List Str} {io : Option Nat} {l : CamA} {l' : List Cl} (h : fs = [] ∨ io = some i) (r : CRel i l l') : CRel i ((C, tag, fs) :: l) (⟨.ref C, io, fun a cls d => tRet (tLst (tCons (L2.tC (.str tag)) (tFlds a cls d C i fs)))⟩ :: l')
section
variable {X : Cx} {hds : List ExceptHandler} {l : CamA} {ev : Str} {i : Nat}
theorem HdsCm.ok {K : PySem.W.Frag} {mg : Str → Option Value} {sg : Scope} {Ng : List Str} (h : HdsCm K mg sg Ng ev i hds l) (eK : X.K = K) (em : X.mg = mg) (es : X.env.scope = sg) (eN : X.N = Ng) (hi : Ng[i]? = some ev) (hl : sg.names.lookup ev = some .local) (hd : (ev == ("__debug__" : Str)) = false) (hcd : (ev == ("__classdict__" : Str)) = false) :
    ∃ l', HdsX X hds l' ∧ CRel i l l' := by
  subst eK em es eN
  induction h with
  | nil => exact ⟨[], .nil, .nil⟩
  | cons hg hdx hm T hf fl r ih =>
    obtain ⟨l', h1, h2⟩ := ih
    exact ⟨_, .cons ⟨hg, hdx, .inl hm⟩ (.as_ (i := i) hi hl) (fun a oe cls d pn hz hq => pss_one (ps_ret (pe_lst (pa_cons pe_str (pa_flds T hz hq (fun p => pe_var hi (.inl hl) hd hcd) hf fl))))) h1, .cons (.inr rfl) h2⟩
  | no hg hdx hm r ih =>
    obtain ⟨l', h1, h2⟩ := ih
    exact ⟨_, .cons ⟨hg, hdx, .inl hm⟩ .no (fun a oe cls d pn hz hq => pss_one (ps_ret (pe_lst (pa_cons pe_str pa_nil)))) h1, .cons (.inl rfl) h2⟩
theorem wC.mix {K : PySem.W.Frag} {D : Ends} {Q : VK} {l' : List Cl} {cls : Value} {dd : Option Addr} {σ : L2.St} {H : Hp} (h : CRel i l l') (hq : D.rt = Q) (hi : i < σ.length) (w : wC K Q l cls dd H) : wMix K (fun _ _ _ _ => False) D l' cls dd σ H := by
  induction h with
  | nil => exact w
  | @cons tag C fs io l l' hio r ih =>
    obtain ⟨b, h1, h2, h3⟩ := w
    refine ⟨b, h1, fun hb a _ => ?_, fun hb => ih (h3 hb)⟩
    obtain ⟨ec, vs, hv, hn, q⟩ := h2 hb
    have go : tFlds a cls dd C i fs (setI σ (some (.ref a)) io) H fun ys H1 => (V.str tag :: ys).length ≤ sizeLine ∧ ∀ p, H1 p = none → Q (.ref p) (upd H1 p (.lst (.str tag :: ys))) := by
      have fin : (V.str tag :: vs).length ≤ sizeLine ∧ ∀ p, H p = none → Q (.ref p) (upd H p (.lst (.str tag :: vs))) := ⟨by rw [List.length_cons, sizeLine_eq]; omega, q⟩
      rcases hio with e | e
      · subst e
        rcases hv with ⟨_, rfl⟩ | ⟨_, _, _, _, e⟩
        · exact fin
        · cases vs with
          | nil => exact fin
          | cons => cases e
      · subst e
        exact flds_run (by show (σ.set i _)[i]? = _; rw [List.getElem?_set_self hi]) ec hv fin
    show tLst (tCons (L2.tC (.str tag)) (tFlds a cls dd C i fs)) (setI σ (some (.ref a)) io) H D.rt
    rw [hq]
    exact go
/-- what the def makes of the lambda's reading -/
def TTc (K : PySem.W.Frag) (l : CamA) : (XK → Hp → VK → Prop) → Hp → VK → Prop := fun tl H Q => tl (wC K Q l) H Q
theorem Takes.len {W : WX} (t : Takes X W) : Takes X fun c d σ H => σ.length = X.N.length → W c d σ H := fun u s' ⟨a, B, sI, pins, σ, H, cls, d, e, I, nb, up, sky, na, os, ag, w⟩ =>
  t u s' ⟨a, B, sI, pins, σ, H, cls, d, e, I, nb, up, sky, na, os, ag, w I.len⟩
theorem came_gives {Ng : List Str} {x a q : Str} {sg : Scope} {g : Addr} {cdg : Value} {h₀ : ExceptHandler} {p1 p2 p3 p8 : Pos} (nd : Ng.Nodup) (h : HdsCm X.K X.mg sg Ng ev i (h₀ :: hds) l) (hi : Ng[i]? = some ev) (hl : sg.names.lookup ev = some .local) (hd : (ev == ("__debug__" : Str)) = false) (hcd : (ev == ("__classdict__" : Str)) = false) (h0 : ∀ f : Addr, (L2.start Ng [V.ref f])[0]? = some (some (V.ref f))) :
    LamX.GivesTo X Ng x sg g cdg [.Try [.Return (some (.Call (.Name a p1) [] [] p2)) p3] (h₀ :: hds) [] [] p8] a q (TTc X.K l) := by
  intro f c' s H Q tl act hc hq
  obtain ⟨l', hx, hr⟩ := h.ok (X := (cxOf C8.CX0 X.prog X.w X.K X.mg X.base Ng x sg g cdg X.A X.stack s H C8.E0).nox) rfl rfl rfl rfl hi hl hd hcd
  refine ⟨_, pss_one (ps_try_mix (X := (cxOf C8.CX0 X.prog X.w X.K X.mg X.base Ng x sg g cdg X.A X.stack s H C8.E0).nox)
      (tb := fun W D σ H => ∃ Ech : XK, (∀ cls d σ' H', Ech cls d H' → σ'.length = Ng.length → W cls d σ' H') ∧ σ[0]? = some (some (.ref f)) ∧ H c' = some (LamX.CodeO c' q) ∧ tl Ech H D.rt)
      rfl rfl nd LamX.takes0 (fun W pn xe tk _ => ?_) hx), ?_⟩
  · refine ⟨fun pins s' σ H' D I h' => ?_⟩
    obtain ⟨Ech, hW, h1, h2, h3⟩ := h'
    have hp := act (fun c d σ H => σ.length = Ng.length → W c d σ H) pn xe Ech p1 p2 (Takes.len tk) hW
    exact (pss_one (ps_ret (pos := p3) hp)).run pins s' σ H' D I ⟨h1, h2, h3⟩
  · refine ⟨wC X.K Q l, fun cls d σ' H' hw hlen => ?_, h0 f, hc, hq⟩
    have hi' : i < σ'.length := by rw [hlen]; exact (List.getElem?_eq_some_iff.mp hi).1
    exact wC.mix (D := { nx := fun _ H' => Q .non H', rt := Q }) hr rfl hi' hw
end
inductive CamRel (mg : Str → Option Value) : CameT → CamA → Prop
  | nil : CamRel mg [] []
  | cons {c : String} {tag : Str} {fs : List String} {C : Addr} {l : CameT} {l' : CamA} (hm : mg (Str.ofString c) = some (.ref C)) (r : CamRel mg l l') : CamRel mg ((c, tag, fs) :: l) ((C, tag, fs.map Str.ofString) :: l')
section
variable {K : PySem.W.Frag} {mg : Str → Option Value} {own : List Nat} {T : Ent} {Z : Addr → Prop} {ρ : Env} {ω : Om} {σ : L2.St} {H : Hp}
theorem getFs_run {dd : Option Addr} {x : Exn} (h : x.fs = [] ∨ ∃ a fs, dd = some a ∧ H a = some (.xd fs) ∧ ∀ n d, x.fs.lookup n = some d → ∃ v, fs.lookup (Str.ofString n) = some v ∧ Rp K Z H v d) :
    ∀ {fs : List String} {ds : List D}, getFs x fs = some ds → ∃ vs, FldV dd H (fs.map Str.ofString) vs ∧ RpA K Z H vs ds ∧ vs.length = fs.length
  | [], ds, e => by cases e; exact ⟨[], .inl ⟨rfl, rfl⟩, .nil, rfl⟩
  | f :: fs, ds, e => by
    unfold getFs at e
    cases q1 : x.fs.lookup f with
    | none => rw [q1] at e; cases e
    | some d =>
      cases q2 : getFs x fs with
      | none => rw [q1, q2] at e; cases e
      | some ds' =>
        rw [q1, q2] at e; cases e
        obtain ⟨vs, h1, h2, h3⟩ := getFs_run h q2
        rcases h with h | ⟨a, kvs, rfl, ha, hk⟩
        · rw [h] at q1; cases q1
        · obtain ⟨v, e1, e2⟩ := hk _ _ q1
          refine ⟨v :: vs, .inr ⟨a, kvs, rfl, ha, ?_⟩, .cons e2 h2, by simp [h3]⟩
          rcases h1 with ⟨h1, rfl⟩ | ⟨a', kvs', e', ha', h1⟩
          · have : fs = [] := List.map_eq_nil_iff.mp h1
            subst this
            simp [e1]
          · cases e'
            rw [ha] at ha'; cases ha'
            simp only [List.map_cons, e1, List.cons.injEq, true_and]
            exact h1
theorem wC_of {x : Exn} {c : Value} {dd : Option Addr} {d : D} {Q : VK} {l : CameT} {lA : CamA} (r : CamRel mg l lA) (xr : XRp K mg Z H c dd x) (tst : ∀ b ∈ l.map (·.1), ∀ B, mg (Str.ofString b) = some (.ref B) → PySem.W.exmOne K c (.ref B) = some (x.cls == b)) (e : cameD l x = some d)
    (ok : ∀ q ∈ l, q.2.1.length ≤ LIM ∧ q.2.2.length < 999) (h : ∀ v H' Z', Ext (Ow own σ) Z H Z' H' → Sx K own T Z' ρ ω σ H' → Rp K Z' H' v d → Q v H') (S : Sx K own T Z ρ ω σ H) : wC K Q lA c dd H := by
  induction r with
  | nil => cases e
  | @cons c0 tag fs C l lA hm r ih =>
    have e0 := e
    unfold cameD at e
    rw [List.lookup_cons] at e
    refine ⟨_, tst c0 (by simp) C hm, fun hb => ?_, fun hb => ?_⟩
    · have hx : x.cls = c0 := by simpa using hb
      subst hx
      simp only [beq_self_eq_true] at e
      obtain ⟨C', rfl, hm', hf⟩ := xr
      rw [hm] at hm'; cases hm'
      cases q : getFs x fs with
      | none => rw [q] at e; cases e
      | some ds =>
        rw [q] at e; cases e
        obtain ⟨vs, h1, h2, h3⟩ := getFs_run hf q
        have ok1 := ok _ List.mem_cons_self
        refine ⟨rfl, vs, h1, by rw [h3]; have := ok1.2; simp at this; omega, fun p hp => ?_⟩
        refine h _ _ _ (.newZ hp) (S.newZ hp) (.lst (.inr rfl) upd_same ?_ (.cons (.str tag ok1.1) (RpA.ext (Ext.newZ (O := Ow own σ) hp) _ h2)))
        have := ok1.2
        have hL : (999 : Nat) < LIM := by decide
        simp only [List.length_cons] at this ⊢
        omega
    · have hx : (x.cls == c0) = false := hb
      rw [hx] at e
      exact ih (fun b hb => tst b (by simp [hb])) (by unfold cameD; exact e) fun q hq => ok q (List.mem_cons_of_mem _ hq)
end
/-- the def that comes -/
structure CameF (K : PySem.W.Frag) (mg : Str → Option Value) (x : Str) (l : CameT) (st : Stmt) (Ng : List Str) (a ev : Str) (i : Nat) (hds : List ExceptHandler) : Prop where
  ex : ∃ g fd lA, mg x = some (.ref g) ∧ L2.Fun K x x st g fd ∧ Binds K fd [a] [] ∧ CamRel mg l lA ∧ HdsCm K mg (defScope st) Ng ev i hds lA
  tst : ∀ a ∈ l.map (·.1), ∀ b ∈ l.map (·.1), ∀ A B, mg (Str.ofString a) = some (.ref A) → mg (Str.ofString b) = some (.ref B) → PySem.W.exmOne K (.ref A) (.ref B) = some (a == b)
/-- a def's code object and its table -/
def LamAt (base : Heap) (mg : Str → Option Value) (tb : List (Addr × Str)) (c : Addr) (q : Str) : Prop := ∃ P, LamX.TabB base mg c P ∧ (P, q) ∈ tb ∧ ∀ p ∈ tb, p.1 = P → p.2 = q
section
variable {X : Cx} {own : List Nat} {T : Ent} {W : WX} {f : EE} {k k' : Nat} {l : CameT} {x a ev : Str} {i : Nat} {st : Stmt} {Ng : List Str} {h₀ : ExceptHandler} {hds : List ExceptHandler} {params : Arguments} {body : Expr} {scope : Scope} {p p1 p2 p3 p8 lpos pos : Pos} {c : Addr}
theorem Cf.lam (C : Cf X W k') {A : Around} {outer : List PySem.Env} {s : Shared} {H : Hp} {E : XK} {f c' : Addr} (hr : Room k (A.deeper (LamX.lamEnv X scope s.heap.objs.size f c'))) : Cf (LamX.lamCx X A outer s H E scope f c') (fun c d _ H => E c d H) k :=
  ⟨rfl, C.nd, hr, takes_of rfl rfl rfl rfl⟩
theorem e_came (C : Cf X W k') (F : CameF X.K X.mg x l st Ng a ev i (h₀ :: hds)) (hb : defBody st = [.Try [.Return (some (.Call (.Name a p1) [] [] p2)) p3] (h₀ :: hds) [] [] p8]) (Sg : FnScope Ng [a] (defScope st)) (hi : Ng[i]? = some ev) (hl : (defScope st).names.lookup ev = some .local) (hva : Vis (defScope st) a) (hNg : Ng[0]? = some a) (h0 : ∀ f : Addr, (L2.start Ng [V.ref f])[0]? = some (some (V.ref f)))
    (hg : Gl X x) (L : LamAt X.base X.mg T.tb c (X.env.qual ++ "<lambda>")) (hcode : X.env.code = .ref c) (hk : k + 2 ≤ k') (hL : LamX.LamS X.env.scope scope) (hdef : defaultsOf params X.env = ([], []))
    (hbind : ∀ (q : Str) (cl : List (Str × Addr)) (pm cv ctv : Value), bindArgs (PySem.W.kla_fn "<lambda>" q params body scope cl pm cv ctv) ⟨[], []⟩ = pure [])
    (ok : ∀ q ∈ l, q.2.1.length ≤ LIM ∧ q.2.2.length < 999)
    (hbody : ∀ (A : Around) (outer : List PySem.Env) (s : Shared) (H : Hp) (E : XK) (f' c' : Addr), Room k (A.deeper (LamX.lamEnv X scope s.heap.objs.size f' c')) → PE (LamX.lamCx X A outer s H E scope f' c') body (vE (LamX.lamCx X A outer s H E scope f' c') own T (fun c d _ H => E c d H) f))
    (hdb : (x == ("__debug__" : Str)) = false) (hd : (a == ("__debug__" : Str)) = false) (hcd : (a == ("__classdict__" : Str)) = false) (hd2 : (ev == ("__debug__" : Str)) = false) (hcd2 : (ev == ("__classdict__" : Str)) = false) :
    PE X (.Call (.Name x p) [.Lambda params body scope lpos] [] pos) (vE X own T W (eCame l f)) := by
  obtain ⟨g, fd, lA, hm, FF, hbi, cr, hh⟩ := F.ex
  obtain ⟨oc, od, kV, doc, pm, an, cdv, ct, osl, rfl, lk, hcg⟩ := FF.ex
  obtain ⟨P, TB, hmT, hu⟩ := L
  rw [hb] at lk hbi
  refine PE.imp (LamX.pe_lamcall (T := T.tb) (t := fun E => vE X own T (fun c d _ H => E c d H) f) hg hm FF.kp lk hcg hbi Sg hNg hva (came_gives Sg.nd hh hi hl hd2 hcd2 h0) TB hcode hmT hu (C.room.mono hk) hL hdef hbind hbody hdb hd hcd) fun σ H Q h => ?_
  obtain ⟨Z, ρ, ω, S, h⟩ := h
  refine ⟨S.tabs, fun H1 eN T1 => ?_⟩
  have S1 := S.tabbed eN T1
  have e1 : Ext (Ow own σ) Z H Z H1 := .tabbed S eN
  refine ⟨Z, ρ, ω, S1, ?_⟩
  unfold eCame at h
  cases q : f ρ ω with
  | ok d ω' =>
    rw [q] at h
    exact fun b H' Z' e S' r => h b H' Z' (e1.trans e) S' r
  | bad => rw [q] at h; exact h
  | ex x0 ω' =>
    rw [q] at h
    cases qc : cameD l x0 with
    | none => simp only [qc] at h; exact h.elim
    | some d =>
      simp only [qc] at h
      intro c dd H' Z' e S' xr
      obtain ⟨C0, rfl, hm0, _⟩ := id xr
      have hin : x0.cls ∈ l.map (·.1) := by
        unfold cameD at qc
        cases ql : l.lookup x0.cls with
        | none => rw [ql] at qc; cases qc
        | some z =>
          rw [List.lookup_eq_some_iff] at ql
          obtain ⟨l1, l2, e, _⟩ := ql
          rw [e]; simp
      exact wC_of cr xr (fun b hb B hB => F.tst _ hin b hb _ _ hm0 hB) qc ok (fun v H2 Z2 e2 S2 r2 => h v H2 Z2 (e1.trans (e.trans e2)) S2 r2) S'
end
/-! a def that makes lambdas: its code object is known -/
structure FunL (K : PySem.W.Frag) (x qual : Str) (st : Stmt) (f : Addr) (fd : FuncData) (c : Addr) : Prop where
  ex : ∃ (oc : Value) (od : Option Addr) (kV doc pm : Value) (an : Option Addr) (ct : Value) (osl : Array (Option Value)),
    fd = PySem.W.fnOf x qual (defArgs st) (defBody st) (defScope st) .none kV doc pm an (.ref c) ct ∧ K.lookup f = some ⟨oc, od, .func fd, osl⟩ ∧ PySem.W.codeIn K (.ref c) qual = true
  kp : PySem.W.keepIn K (.ref f) = true
def BodyC (P : Program) (w : World) (K : PySem.W.Frag) (mg : Str → Option Value) (base : Heap) (tb : List (Addr × Str)) (N : List Str) (qual : Str) (sc : Scope) (k : Nat) (own : List Nat) (np : Nat) (st : List Stmt) (RRf : Ent → RR) (b : SS) (cdv : Value) : Prop :=
  ∀ (f : Addr) (A : Around) (outer : List PySem.Env) (s : Shared) (H : Hp) (E : XK) (H0 : Hp) (Z : Addr → Prop) (as : List Addr), as.length = np →
    Cf (Bx P w K mg base N qual sc f cdv A outer s H E) (fun c d _ H => E c d H) k → PSs (Bx P w K mg base N qual sc f cdv A outer s H E) st (wS (Bx P w K mg base N qual sc f cdv A outer s H E) own ⟨H0, Z, as, tb⟩ (fun c d _ H => E c d H) (RRf ⟨H0, Z, as, tb⟩) b)
section
variable {P : Program} {w : World} {K : PySem.W.Frag} {mg : Str → Option Value} {base : Heap} {tb : List (Addr × Str)} {x qual : Str} {st : Stmt} {f c : Addr} {fd : FuncData} {N ps : List Str} {k : Nat} {mask : List Bool} {more : List Nat} {b : SS}
theorem fn_defL (F : FunL K x qual st f fd c) (S : FnScope N ps (defScope st)) (hl : mask.length = ps.length) (hN : mask.length ≤ N.length) (nd : (ownIx mask 0 ++ more).Nodup)
    (hm : ∀ i ∈ more, mask.length ≤ i ∧ i < N.length) (hb : BodyC P w K mg base tb N qual (defScope st) k (ownIx mask 0 ++ more) (ownIx mask 0).length (defBody st) (fun _ => Rp K) b (.ref c)) : FnOk P w K mg base (L2.CX P w) (k + 1) f fd ps (SpM K mg tb mask (defM mask N.length more.length b)) := by
  obtain ⟨oc, od, kV, doc, pm, an, ct, osl, rfl, lk, hcd⟩ := F.ex
  refine fn_of lk hcd S (fun vs H Q E h => by rw [SpM.len h, hl]) (fun A outer s H vs Q E hr h => ?_)
  obtain ⟨Z, ds, as, os, a1, zd, tabs, h⟩ := h
  have hn := a1.ownN 0
  have hlo := a1.lenO
  refine ⟨_, hb f A outer s H E (cutT tb H) Z as hn.symm (Cf.of S.nd hr), Z, _, _, Sx.entry a1 zd tabs hN nd hm, ?_⟩
  unfold defM at h
  rw [List.length_map] at h
  cases q : b (entryE mask ds ++ List.replicate (N.length - mask.length) none) (os.map some ++ List.replicate more.length none) with
  | nx ρ' ω' =>
    rw [q] at h
    exact fun σ' H' Z' e S' => h .non H' Z' (hlo ▸ post_of a1 zd S' e) .non
  | rt d ω' =>
    rw [q] at h
    exact fun v σ' ρ' H' Z' e S' r => h v H' Z' (hlo ▸ post_of a1 zd S' e) r
  | ex x ρ' ω' =>
    rw [q] at h
    exact fun c dd σ' H' Z' e S' r => h c dd H' Z' (hlo ▸ post_of a1 zd S' e) r
  | bk => rw [q] at h; exact h.elim
  | ct => rw [q] at h; exact h.elim
  | bad => rw [q] at h; exact h.elim
end
/-- a try's clauses -/
def tryH : List Stmt → List ExceptHandler
  | [.Try _ h _ _ _] => h
  | _ => []
end Wc

set_option Elab.async false
set_option linter.all false
set_option maxRecDepth 100000
set_option maxHeartbeats 1000000
/-! Wc.Bag: `_law_bag(script)`: the script is a list that nothing is told of but its numbers. -/
namespace Wc
open PySem PySem.Spec PyProof.Rows L2
/-- slot 0 is the script -/
def Scr (K : PySem.W.Frag) (ns : List Int) (σ : L2.St) (H : Hp) : Prop := ∃ a, σ[0]? = some (some (.ref a)) ∧ SqL K H a (ns.map V.int) ∧ ns.length ≤ LIM
def dInts (ns : List Int) : List D := ns.map PyData.int
theorem rpInts {K : PySem.W.Frag} {Z : Addr → Prop} {H : Hp} : ∀ (ns : List Int), RpA K Z H (ns.map V.int) (dInts ns)
  | [] => .nil
  | i :: ns => .cons (.int i) (rpInts ns)
theorem cutV63 (ns : List Int) : cutV (ns.map V.int) none (some 63) = (ns.take 63).map V.int := by
  unfold cutV
  have h1 : HT.sIx (ns.map V.int).length 0 none = 0 := rfl
  have h2 : HT.sIx (ns.map V.int).length (ns.map V.int).length (some 63) = min 63 ns.length := by
    have := HT.sIx_nat (ns.map V.int).length (ns.map V.int).length 63
    rw [List.length_map] at this ⊢
    exact this
  rw [h1, h2]
  simp [List.map_take]
section
variable {X : Cx} {own : List Nat} {T : Ent} {W : WX} {k : Nat} {x : Str} {ns : List Int} {tg iter elt : Expr} {w : WW} {t : Tg} {c : TT} {fe : EE} {P : L2.St → Hp → Prop} {p p1 p2 p3 pos : Pos} {j1 : Nat}
theorem pi_script (hN : X.N[0]? = some x) (hv : Vis X.env.scope x) (hd : (x == ("__debug__" : Str)) = false) (hcd : (x == ("__classdict__" : Str)) = false) :
    PI X tg (.Subscript (.Name x p1) (.Slice none (some (.Constant (.int 63) j1 p2)) none p3) pos) (fun σ H R => Scr X.K ns σ H ∧ vW X own T W (fun _ => M.pure (dInts (ns.take 63))) σ H R) := by
  refine PI.imp (pi_sc (pe_slice sl_all (pe_var hN hv hd hcd) po_none (po_some pe_int))) fun σ H R ⟨⟨a, h1, h2, hn⟩, h⟩ => ?_
  obtain ⟨Z, ρ, ω, S, h⟩ := h
  refine ⟨.ref a, h1, 63, rfl, .inl ⟨a, ns.map V.int, rfl, h2, fun q hq => ?_⟩⟩
  rw [cutV63]
  have hL : ((ns.take 63).map V.int).length ≤ LIM := by
    rw [List.length_map, List.length_take]
    exact Nat.le_trans (Nat.min_le_right _ _) hn
  have hz : ∀ O Z' H', Ext O (addZ Z q) (upd H q (.lst ((ns.take 63).map V.int))) Z' H' → (Sc.lst q).Has X.K H' ((ns.take 63).map V.int) := fun O Z' H' e => .inl (.inl (e.h _ _ (.inr rfl) upd_same))
  exact ⟨.lst q, _, rfl, hz (fun _ => False) _ _ (.refl _ _), h _ _ (addZ Z q) (.newZ hq) (S.newZ hq) (wk_sc (rpInts _) hL hz)⟩
theorem e_lcP {scope : Scope} {own' : List (Str × Nat)} {ifs : List Expr} {vs : List Nat} (C : Cf X W k) (hi : PI X tg iter (fun σ H R => P σ H ∧ vW X own T W w σ H R)) (ok : BlkOk X.N X.env.scope scope own')
    (hg : Blk X scope fun B => PG B tg (gOf X.K t)) (ht : Blk X scope fun B => PTs B ifs (vT B own T WF c)) (he : Blk X scope fun B => PE B elt (vE B own T WF fe)) (hv : vs = own'.map (·.2)) (hT : ∀ i ∈ tgIx t, i ∈ vs) (no : ∀ i ∈ own, i ∉ vs)
    (hs : ∀ x, foldedSetIterable iter X.env x = pure x) : PE X (.ListComp elt [⟨tg, iter, ifs, 0⟩] scope pos) (fun σ H Q => P σ H ∧ vE X own T W (eLc w t c fe vs) σ H Q) := by
  refine PE.imp (pe_lc (tt := tG X.K X.mg own T WF (fun _ _ (b a : Bool) => b = a) c) (te := tG X.K X.mg own T WF (Rp X.K) fe) C.calm C.nd hi ok hg ht he hs) fun σ H Q ⟨hp, h⟩ => ?_
  rw [← hv]
  refine ⟨hp, tG.bind (k := fun xs ρ => M.bind (lcGo t c fe (wipeE ρ vs) xs) fun ys => M.pure (PyData.list ys)) h fun ds ρ ω J H1 Z1 S1 wk h1 => ?_⟩
  intro L hL
  exact tLc_run rfl rfl hT no wk S1 h1 L hL
/-- the bag of the numbers -/
def bagD (ns : List Int) : D := .list [.int 0, .int 1234567891, .int 0, .list ((ns.take 63).map fun i => PyData.int i.natAbs)]
def bagLc (ns : List Int) (i : Nat) : EE := eLc (fun _ => M.pure (dInts (ns.take 63))) (.nm i) tYes (e1 absD (eVar i)) [i]
def bagB (ns : List Int) (i : Nat) : SS := sRet (eLst [.one (eC (.int 0)), .one (eC (.int 1234567891)), .one (eC (.int 0)), .one (bagLc ns i)])
theorem s_bag {lc : Expr} {i : Nat} {j2 j3 : Nat} (hlc : PE X lc (fun σ H Q => Scr X.K ns σ H ∧ vE X own T W (bagLc ns i) σ H Q)) (hs : starEach [lc] X.env = (false, eval lc X.env) :: starEach [] X.env) :
    PSs X [.Return (some (.List [.Constant (.int 0) j1 p, .Constant (.int 1234567891) j2 p1, .Constant (.int 0) j3 p2, lc] p3)) pos] (fun D σ H => Scr X.K ns σ H ∧ wS X own T W (Fr X.K T.tb T.H0) (bagB ns i) D σ H) := by
  refine PSs.imp (pss_one (ps_ret (pe_lst (pa_cons pe_int (pa_cons pe_int (pa_cons pe_int (pa_cons hlc pa_nil hs))))))) fun D σ H ⟨hp, h⟩ => ?_
  obtain ⟨Z, ρ, ω, S, h⟩ := h
  refine ⟨hp, Z, ρ, ω, S, ?_⟩
  unfold bagB sRet sE eLst at h
  simp only [items, M.bind, M.pure, eC, limited] at h
  cases q : bagLc ns i ρ ω with
  | ok d ω' =>
    rw [q] at h
    simp only [List.length_cons, List.length_nil] at h
    rw [if_pos (by decide)] at h
    intro b H1 Z1 e1 S1 r1
    refine ⟨by show 4 ≤ sizeLine; decide, fun p hp => ?_⟩
    have e2 : Ext (fun _ => False) Z1 H1 Z1 (upd H1 p (.lst [.int 0, .int 1234567891, .int 0, b])) := .new hp
    refine h (.ref p) σ ρ _ Z1 (e1.tr.trans e2.tr) (S1.new hp) ⟨p, rfl, nw_none (S1.fresh0 hp), fun z => ?_, .lst upd_same (by show 4 ≤ 16777216; decide) (.cons (.int _) (.cons (.int _) (.cons (.int _) (.cons (r1.ext e2) .nil))))⟩
    obtain ⟨o, ho, _⟩ := S1.zd p z
    rw [hp] at ho; cases ho
  | ex x ω' =>
    rw [q] at h
    exact fun c dd H' Z' e S' xr => h c dd σ H' Z' e.tr S' xr
  | bad => rw [q] at h; exact h
end
end Wc

set_option Elab.async false
set_option linter.all false
set_option maxRecDepth 100000
set_option maxHeartbeats 2000000
/-! Wc.Head: the head's facts, for this layer. -/
namespace Wc
open PySem PySem.Spec PyProof.Rows L2 He
/-- a def: where it stands, its text, the names of its closure -/
structure DefW where
  at_ : Str × Option Str
  name : Str
  qual : Str
  st : Stmt
  cl : List Str := []
abbrev FnZ : Type := Option (Str × Str × Arguments × FuncBody × Scope × Addr × List Str × Addr)
def fnZ (K : PySem.W.Frag) (p : Str × Option Str) : FnZ := match K.lookup (fAd K p) with
  | some ⟨_, _, .func fd, _⟩ => some (fd.name, fd.qualname, fd.params, fd.body, fd.scope, fd.globals, fd.closure.map (·.1), fd.builtins)
  | _ => none
def DefW.val (d : DefW) : FnZ := some (d.name, d.qual, defArgs d.st, .stmts (defBody d.st), defScope d.st, mainGlobals, d.cl, builtinsNs)
def noDfl : Value → Bool
  | .none => true
  | _ => false
theorem noDfl_ok {v : Value} (h : noDfl v = true) : v = .none := by cases v <;> first | rfl | cases h
def DefW.ok (K : PySem.W.Frag) (d : DefW) : Bool := PySem.W.keepIn K (.ref (fAd K d.at_)) && (match K.lookup (fAd K d.at_) with
  | some ⟨_, _, .func fd, _⟩ => PySem.W.codeIn K fd.code d.qual && noDfl fd.defaults
  | _ => false)
theorem DefW.fun {K : PySem.W.Frag} {d : DefW} (e : fnZ K d.at_ = d.val) (c : d.ok K = true) : ∃ (oc : Value) (od : Option Addr) (kV doc pm : Value) (an : Option Addr) (cdv ct : Value) (osl : Array (Option Value)) (cl : List (Str × Addr)),
    K.lookup (fAd K d.at_) = some ⟨oc, od, .func (PySem.W.fnX d.name d.qual (defArgs d.st) (defBody d.st) (defScope d.st) cl .none kV doc pm an cdv ct), osl⟩ ∧ PySem.W.codeIn K cdv d.qual = true ∧ PySem.W.keepIn K (.ref (fAd K d.at_)) = true ∧ cl.map (·.1) = d.cl := by
  obtain ⟨kp, c2⟩ := ba c
  unfold fnZ at e
  cases q : K.lookup (fAd K d.at_) with
  | none => rw [q] at c2; cases c2
  | some o =>
    obtain ⟨oc, od, dt, osl⟩ := o
    rw [q] at c2 e
    cases dt with
    | func fd =>
      obtain ⟨n1, n2, n3, n4, n5, n6, n7, n8, n9, n10, n11, n12, n13, n14, n15⟩ := fd
      have e2 : (some (n1, n2, n3, n4, n5, n6, n7.map (·.1), n15) : FnZ) = some (d.name, d.qual, defArgs d.st, .stmts (defBody d.st), defScope d.st, mainGlobals, d.cl, builtinsNs) := e
      simp only [Option.some.injEq, Prod.mk.injEq] at e2
      obtain ⟨h1, h2, h3, h4, h5, h6, h7, h8⟩ := e2
      have c3 : (PySem.W.codeIn K n13 d.qual && noDfl n8) = true := c2
      obtain ⟨k1, k2⟩ := ba c3
      have k3 := noDfl_ok k2
      subst h1 h2 h3 h4 h5 h6 h8 k3
      exact ⟨oc, od, n9, n10, n11, n12, n13, n14, osl, n7, rfl, k1, kp, h7⟩
    | _ => cases c2
theorem DefW.l2 {K : PySem.W.Frag} {d : DefW} (e : fnZ K d.at_ = d.val) (c : d.ok K = true) (hc : d.cl = []) : ∃ fd, L2.Fun K d.name d.qual d.st (fAd K d.at_) fd := by
  obtain ⟨oc, od, kV, doc, pm, an, cdv, ct, osl, cl, lk, hcd, kp, hcl⟩ := d.fun e c
  have : cl = [] := by rw [hc] at hcl; exact List.map_eq_nil_iff.mp hcl
  subst this
  exact ⟨_, ⟨oc, od, kV, doc, pm, an, cdv, ct, osl, rfl, lk, hcd⟩, kp⟩
theorem DefW.l2L {K : PySem.W.Frag} {d : DefW} (e : fnZ K d.at_ = d.val) (c : d.ok K = true) (hc : d.cl = []) : ∃ fd, L2.Fun K d.name d.qual d.st (fAd K d.at_) fd ∧ FunL K d.name d.qual d.st (fAd K d.at_) fd (codeOf K d.at_) := by
  obtain ⟨oc, od, kV, doc, pm, an, cdv, ct, osl, cl, lk, hcd, kp, hcl⟩ := d.fun e c
  have : cl = [] := by rw [hc] at hcl; exact List.map_eq_nil_iff.mp hcl
  subst this
  obtain ⟨c', rfl⟩ := codeIn_ref hcd
  have ec := codeOf_eq lk rfl
  exact ⟨_, ⟨⟨oc, od, kV, doc, pm, an, _, ct, osl, rfl, lk, hcd⟩, kp⟩, ⟨⟨oc, od, kV, doc, pm, an, ct, osl, by rw [ec], lk, by rw [ec]; exact hcd⟩, kp⟩⟩
/-! ### the Hook -/
/-- what is told -/
structure SaysW (fa : List Fa) (fn : List DefW) (tf : List Defn) (ex : PySem.W.Frag → Bool) (h : Heap) (K : PySem.W.Frag) : Prop where
  fs : ∀ f ∈ fa, f.ok K = true
  ds : ∀ d ∈ fn, d.ok K = true ∧ fnZ K d.at_ = d.val
  more : ex K = true
  hd : ∀ p ∈ tf, PySem.W.codeHdIn K (cT K p).1 (cT K p).2 = true
  out : ∀ p ∈ tf, K.lookup (cT K p).2 = none
  empty : ∀ p ∈ tf, h.get? (cT K p).2 = some { cls := .none, data := .fields #[] }
abbrev AlW : Type := Bool × List FnZ
/-- what the module's names reach, and the statics -/
def asW (g : Addr → Option Obj) (n : Nat) : List Addr := cStatics :: (asD g n).filter fun a => !(a == cStatics)
def obsK (fa : List Fa) (fn : List DefW) (tf : List Defn) (ex : PySem.W.Frag → Bool) (g : Addr → Option Obj) (K : PySem.W.Frag) : AlW := ((fa.all fun f => f.ok K) && ((fn.all fun d => d.ok K) && (ex K && tabsB g tf K)), fn.map fun d => fnZ K d.at_)
def obsW (n : Nat) (fa : List Fa) (fn : List DefW) (tf : List Defn) (ex : PySem.W.Frag → Bool) (g : Addr → Option Obj) : AlW := obsK fa fn tf ex g (frT g (asW g n))
def valW (fn : List DefW) : AlW := (true, fn.map DefW.val)
theorem map_eq_at {α β : Type} {f g : α → β} : ∀ {l : List α}, l.map f = l.map g → ∀ x ∈ l, f x = g x
  | [], _, x, hx => by cases hx
  | y :: l, h, x, hx => by
    rw [List.map_cons, List.map_cons] at h
    obtain ⟨h1, h2⟩ := List.cons.inj h
    rcases List.mem_cons.mp hx with rfl | hx
    · exact h1
    · exact map_eq_at h2 x hx
theorem saysW_of {n : Nat} {fa : List Fa} {fn : List DefW} {tf : List Defn} {ex : PySem.W.Frag → Bool} {h : Heap} (e : obsW n fa fn tf ex h.get? = valW fn) : SaysW fa fn tf ex h (frT h.get? (asW h.get? n)) := by
  have e1 : ((fa.all fun f => f.ok (frT h.get? (asW h.get? n))) && ((fn.all fun d => d.ok (frT h.get? (asW h.get? n))) && (ex (frT h.get? (asW h.get? n)) && tabsB h.get? tf (frT h.get? (asW h.get? n))))) = true := congrArg (fun z : AlW => z.1) e
  have e2 : fn.map (fun d => fnZ (frT h.get? (asW h.get? n)) d.at_) = fn.map DefW.val := congrArg (fun z : AlW => z.2) e
  obtain ⟨h1, h2⟩ := ba e1
  obtain ⟨h2, h3⟩ := ba h2
  obtain ⟨h3, h4⟩ := ba h3
  have key : ∀ p ∈ tf, PySem.W.codeHdIn (frT h.get? (asW h.get? n)) (cT (frT h.get? (asW h.get? n)) p).1 (cT (frT h.get? (asW h.get? n)) p).2 = true ∧ ∃ o, h.get? (cT (frT h.get? (asW h.get? n)) p).2 = some o ∧ emptyTab o = true := fun p hp => by
    obtain ⟨h5, h6⟩ := ba (List.all_eq_true.mp h4 p hp)
    refine ⟨h5, ?_⟩
    cases q : h.get? (cT (frT h.get? (asW h.get? n)) p).2 with
    | none => rw [q] at h6; cases h6
    | some o => rw [q] at h6; exact ⟨o, rfl, h6⟩
  exact ⟨fun f hf => List.all_eq_true.mp h1 f hf, fun d hd => ⟨List.all_eq_true.mp h2 d hd, map_eq_at e2 d hd⟩, h3, fun p hp => (key p hp).1, fun p hp => by
    obtain ⟨_, o, q, z⟩ := key p hp
    exact frT_none q z, fun p hp => by
    obtain ⟨_, o, q, z⟩ := key p hp
    rw [q, emptyTab_eq z]⟩
def hookW (n : Nat) (fa : List Fa) (fn : List DefW) (tf : List Defn) (ex : PySem.W.Frag → Bool) : PySem.W.Hook where
  α := AlW
  obs := fun s => obsW n fa fn tf ex s.heap.get?
  val := fun _ => valW fn
  says := fun _ h => ∃ K : PySem.W.Frag, K.In h ∧ SaysW fa fn tf ex h K
  of := fun _ _ e => ⟨_, frT_in, saysW_of e⟩
  keeps := fun _ _ _ ⟨K, hK, c⟩ k => ⟨K, PySem.W.Frag.In.keeps hK k, ⟨c.fs, c.ds, c.more, c.hd, c.out, fun p hp => k _ _ (c.empty p hp)⟩⟩
theorem obsW_eq {n : Nat} {fa : List Fa} {fn : List DefW} {tf : List Defn} {ex : PySem.W.Frag → Bool} {g : Addr → Option Obj} {s : Shared} (h : ∀ a, g a = s.heap.get? a) : obsW n fa fn tf ex g = (hookW n fa fn tf ex).obs s := by
  have e : g = s.heap.get? := funext h
  rw [e] <;> rfl
section
variable {fa : List Fa} {fn : List DefW} {tf : List Defn} {ex : PySem.W.Frag → Bool} {h : Heap} {K : PySem.W.Frag}
theorem SaysW.fact (c : SaysW fa fn tf ex h K) (i : Nat) {f : Fa} (e : fa[i]? = some f := by rfl) : f.ok K = true := c.fs f (List.mem_of_getElem? e)
theorem SaysW.def_ (c : SaysW fa fn tf ex h K) (i : Nat) {d : DefW} (e : fn[i]? = some d := by rfl) (hc : d.cl = [] := by rfl) : ∃ fd, L2.Fun K d.name d.qual d.st (fAd K d.at_) fd := by
  obtain ⟨h1, h2⟩ := c.ds d (List.mem_of_getElem? e)
  exact d.l2 h2 h1 hc
theorem SaysW.defL (c : SaysW fa fn tf ex h K) (i : Nat) {d : DefW} (e : fn[i]? = some d := by rfl) (hc : d.cl = [] := by rfl) : ∃ fd, L2.Fun K d.name d.qual d.st (fAd K d.at_) fd ∧ FunL K d.name d.qual d.st (fAd K d.at_) fd (codeOf K d.at_) := by
  obtain ⟨h1, h2⟩ := c.ds d (List.mem_of_getElem? e)
  exact d.l2L h2 h1 hc
end
/-! ### the classes of exceptions -/
def oexB (K : PySem.W.Frag) (C : Addr) : Bool := (match K.lookup C with
  | some ⟨.type "type", _, .cls cd, sl⟩ => (match cd.mro, sl.toList with
    | .ref C' :: bm, [_, _, _, _, some (.builtin n), _] => C' == C && (n == "ValueError.__new__" && (!cd.hasDel && (cd.hasDict && PySem.HandSPX.refsVE bm)))
    | _, _ => false)
  | _ => false) && (decide (PySem.W.findIn K (.ref C) "__setattr__" = some (some (.builtin "object.__setattr__"))) && (decide (PySem.W.subIn K (.ref C) (.type "BaseException") = some true) && (decide (PySem.W.typeIn K (.ref C) = some (.type "type")) && PySem.W.keepIn K (.ref C))))
theorem oexB_ok {K : PySem.W.Frag} {C : Addr} (q : oexB K C = true) : OexC K C := by
  obtain ⟨q1, q⟩ := ba q
  obtain ⟨q2, q⟩ := ba q
  obtain ⟨q3, q⟩ := ba q
  obtain ⟨q4, q5⟩ := ba q
  refine ⟨?_, of_decide_eq_true q2, of_decide_eq_true q3, of_decide_eq_true q4, q5⟩
  split at q1
  · rename_i dd cd sl ho
    split at q1
    · rename_i C' bm k0 k1 k2 k3 n k5 hm hs
      simp only [Bool.and_eq_true, beq_iff_eq, Bool.not_eq_true'] at q1
      obtain ⟨rfl, rfl, hdel, hdict, hr⟩ := q1
      obtain ⟨nm, bs, mro, ns, qn, hdd, sn, sub, ab, col, del⟩ := cd
      dsimp only at hm hdel hdict
      subst hm hdel hdict
      have hsl : sl = #[k0, k1, k2, k3, some (.builtin "ValueError.__new__"), k5] := by
        obtain ⟨l⟩ := sl
        simp only at hs
        rw [hs]
      subst hsl
      exact ⟨nm, qn, ns, bs, bm, sn, sub, ab, col, dd, k0, k1, k2, k3, k5, ho, hr⟩
    · cases q1
  · cases q1
/-- what SupK asks -/
def cellB (K : PySem.W.Frag) (cc C : Addr) : Bool := match K.lookup cc with
  | some ⟨_, _, .cell (some (.ref C')), _⟩ => C' == C
  | _ => false
def cfileB (prog : Program) (K : PySem.W.Frag) (cda : Addr) : Bool := match K.lookup cda with
  | some ⟨_, _, .fields vs, _⟩ => (match (vs[2]? : Option Value) with
    | some (.str file _) => (prog.main.file : Str) == file
    | _ => false)
  | _ => false
def supB (prog : Program) (K : PySem.W.Frag) (x : Str) : Bool := match K.lookup (ma K (ga K x) "__init__") with
  | some ⟨_, _, .func fd, _⟩ => (match fd.closure, fd.code with
    | [(_, cc)], .ref cda => oexB K (ga K x) && (cellB K cc (ga K x) && (cfileB prog K cda && ((PySem.W.clsIn K (ga K x)).isSome && (decide (PySem.W.mroIn K (ga K x) (.ref (ga K x)) = some true) &&
        (decide (PySem.W.ks_superIn K (ga K x) (ga K x) "__init__" = some (some (.builtin "ValueError.__init__"))) && (decide (PySem.W.subIn K (.ref (ga K x)) (.type "ValueError") = some true) && (decide (PySem.W.nsIn K cStatics "thirdparty.any" = some none) && (decide (PySem.W.typeIn K (.ref (ma K (ga K x) "__init__")) = some (.type "function")) &&
        decide (PySem.W.findIn K (.ref (ga K x)) "__init__" = some (some (.ref (ma K (ga K x) "__init__"))))))))))))
    | _, _ => false)
  | _ => false
theorem supB_ok {prog : Program} {K : PySem.W.Frag} {mg : Str → Option Value} {x : Str} {oc : Value} {od : Option Addr} {fd : FuncData} {osl : Array (Option Value)} {cc : Addr} {z : Str} (q : supB prog K x = true) (lk : K.lookup (ma K (ga K x) "__init__") = some ⟨oc, od, .func fd, osl⟩) (hc : fd.closure = [(z, cc)])
    (mgs : mg "super" = none) (top : (prog.main.scope.names.lookup ("super" : Str)).isSome = false) : ∃ cda, fd.code = .ref cda ∧ SupK prog K mg (ga K x) (ma K (ga K x) "__init__") cc cda ∧ PySem.W.typeIn K (.ref (ma K (ga K x) "__init__")) = some (.type "function") ∧ PySem.W.findIn K (.ref (ga K x)) "__init__" = some (some (.ref (ma K (ga K x) "__init__"))) := by
  unfold supB at q
  rw [lk] at q
  simp only [hc] at q
  split at q
  · rename_i cc' cda h1 h2
    simp only [List.cons.injEq, Prod.mk.injEq, and_true] at h1
    obtain ⟨_, rfl⟩ := h1
    obtain ⟨q1, q⟩ := ba q
    obtain ⟨q2, q⟩ := ba q
    obtain ⟨q3, q⟩ := ba q
    obtain ⟨q4, q⟩ := ba q
    obtain ⟨q5, q⟩ := ba q
    obtain ⟨q6, q⟩ := ba q
    obtain ⟨q7, q⟩ := ba q
    obtain ⟨q8, q⟩ := ba q
    obtain ⟨q9, q10⟩ := ba q
    refine ⟨cda, h2, ⟨oexB_ok q1, ?_, ?_, Option.isSome_iff_exists.mp q4, of_decide_eq_true q5, of_decide_eq_true q6, of_decide_eq_true q7, of_decide_eq_true q8, mgs, top⟩, of_decide_eq_true q9, of_decide_eq_true q10⟩
    · unfold cellB at q2
      split at q2
      · rename_i cl cld C' csl hl
        rw [beq_iff_eq] at q2
        subst q2
        exact ⟨cl, cld, csl, hl⟩
      · cases q2
    · unfold cfileB at q3
      split at q3
      · rename_i ccl cdd vs ccs hl
        split at q3
        · rename_i file tf hv
          exact ⟨ccl, cdd, vs, ccs, file, tf, hl, hv, q3⟩
        · cases q3
      · cases q3
  · cases q
/-- the fields read -/
def xfsB (K : PySem.W.Frag) (x : Str) (fs : List Str) : Bool := xfB K (ga K x) && fs.all fun f => decide (PySem.W.findIn K (.ref (ga K x)) f = some none)
theorem xfsB_ok {K : PySem.W.Frag} {x : Str} {fs : List Str} (h : xfsB K x fs = true) : XfC K (ga K x) ∧ ∀ f ∈ fs, PySem.W.findIn K (.ref (ga K x)) f = some none := by
  obtain ⟨h1, h2⟩ := ba h
  exact ⟨xfB_ok h1, fun f hf => of_decide_eq_true (List.all_eq_true.mp h2 f hf)⟩
/-- which class catches which -/
theorem xtab_of {K : PySem.W.Frag} {mg : Str → Option Value} (l : List ((String × String) × Bool)) (h : ∀ p ∈ l, mg (Str.ofString p.1.1) = some (.ref (ga K (Str.ofString p.1.1))) ∧ mg (Str.ofString p.1.2) = some (.ref (ga K (Str.ofString p.1.2))) ∧ (Fa.exm (Str.ofString p.1.1) (Str.ofString p.1.2) p.2).ok K = true) : XTab K mg (fun a b => l.lookup (a, b)) := by
  refine ⟨fun a c b C D hl hC hD => ?_⟩
  have hm : ((a, c), b) ∈ l := by
    clear h hC hD
    induction l with
    | nil => cases hl
    | cons p l ih =>
      obtain ⟨k, v⟩ := p
      rw [List.lookup_cons] at hl
      split at hl
      · rename_i e
        have e' : (a, c) = k := by simpa using e
        cases hl
        rw [e']
        exact List.mem_cons_self
      · exact List.mem_cons_of_mem _ (ih hl)
  obtain ⟨h1, h2, h3⟩ := h _ hm
  rw [h1] at hC; cases hC
  rw [h2] at hD; cases hD
  exact exm_ok h3
end Wc

set_option Elab.async false
set_option linter.all false
set_option maxRecDepth 100000
set_option maxHeartbeats 2000000
/-! Wc.Law: the law's own def, and the bag's. -/
namespace Wc
open PySem PySem.Spec PyProof.Rows L2
section
variable {K : PySem.W.Frag} {tb : List (Addr × Str)} {H : Hp} {Z : Addr → Prop}
/-- a state of which nothing is told but what stands still -/
theorem Sx.bare {own : List Nat} {σ : L2.St} (nd : own.Nodup) (ol : ∀ i ∈ own, i < σ.length) (no : ∀ i ∈ own, ∀ v : V, σ[i]? ≠ some (some v)) (zd : ∀ a, Z a → ∃ o, H a = some o ∧ ∀ ps, o ≠ .tbl ps) (tabs : LamX.Tabs tb H) :
    Sx K own ⟨cutT tb H, Z, [], tb⟩ Z (List.replicate σ.length none) (List.replicate own.length none) σ H := by
  refine ⟨by simp, nd, fun i d h => ?_, by simp, fun j i d h1 h2 => ?_, fun j j' i i' d d' a _ _ _ h => ?_, zd, fun _ z => z, fun _ z => .inl z, fun a o h _ _ => cutT_of h, fun j a h => ?_, tabs, fun a ps h => cutT_tb h, fun a ⟨i, hi, e⟩ => ?_, ol⟩
  · rw [List.getElem?_replicate] at h; split at h <;> cases h
  · rw [List.getElem?_replicate] at h2; split at h2 <;> cases h2
  · rw [List.getElem?_replicate] at h; split at h <;> cases h
  · simp at h
  · exact absurd e (no i hi _)
end
/-- the bag's promise -/
def spBag (K : PySem.W.Frag) (tb : List (Addr × Str)) : Sp := fun vs H Q _ => ∃ (Z : Addr → Prop) (a : Addr) (ns : List Int), vs = [.ref a] ∧ SqL K H a (ns.map V.int) ∧ ns.length ≤ LIM ∧ (∀ a, Z a → ∃ o, H a = some o ∧ ∀ ps, o ≠ .tbl ps) ∧ LamX.Tabs tb H ∧
  ∀ v H' Z', PostC K tb [] Z H Z' H' [] → Fr K tb H Z' H' v (bagD ns) → Q v H'
theorem bagB_ev (ns : List Int) (ρ : Env) (ω : Om) (h : ∃ a b : Option D, ρ = [a, b]) : bagB ns 1 ρ ω = .rt (bagD ns) ω := by
  obtain ⟨a, b, rfl⟩ := h
  have h1 : lcGo (.nm 1) tYes (Wc.e1 absD (eVar 1)) [a, none] (dInts (ns.take 63)) ω = .ok ((ns.take 63).map fun i => PyData.int i.natAbs) ω := by
    generalize ns.take 63 = l
    induction l with
    | nil => rfl
    | cons i l ih =>
      show lcGo (.nm 1) tYes (Wc.e1 absD (eVar 1)) [a, none] (.int i :: dInts l) ω = _
      unfold lcGo
      have hb : bindT (.nm 1) (PyData.int i) [a, none] = some [a, some (.int i)] := by unfold bindT; rfl
      rw [hb]
      simp only
      have h2 : noEx (Wc.e1 absD (eVar 1) [a, some (PyData.int i)]) ω = .ok (.int i.natAbs) ω := by
        have : absD (.int i) = some (.int i.natAbs) := by
          show some (PyData.int (if i < 0 then -i else i)) = _
          congr 2
          split <;> omega
        unfold noEx Wc.e1 eVar
        simp [M.bind, M.pure, M.lift, this]
      have h3 : noEx (tYes [a, some (PyData.int i)]) ω = .ok true ω := rfl
      simp only [M.bind, h3, h2, if_true, if_pos, ih, M.pure, List.map_cons]
  unfold bagB sRet sE eLst bagLc eLc
  have hw : wipeE [a, b] [1] = [a, none] := rfl
  simp only [items, M.bind, M.pure, eC, limited, hw, h1]
  rw [if_pos (by show 4 ≤ LIM; decide)]
  rfl
section
variable {P : Program} {w : World} {K : PySem.W.Frag} {mg : Str → Option Value} {base : Heap} {tb : List (Addr × Str)} {x qual : Str} {st : Stmt} {f : Addr} {fd : FuncData} {N ps : List Str} {k : Nat}
theorem fn_bag (F : L2.Fun K x qual st f fd) (S : FnScope N [p0] (defScope st)) (hN : N.length = 2)
    (hb : ∀ (f : Addr) (cdv : Value) (A : Around) (outer : List PySem.Env) (s : Shared) (H : Hp) (E : XK) (H0 : Hp) (Z : Addr → Prop) (ns : List Int), Cf (Bx P w K mg base N qual (defScope st) f cdv A outer s H E) (fun c d _ H => E c d H) k →
      PSs (Bx P w K mg base N qual (defScope st) f cdv A outer s H E) (defBody st) (fun D σ H => Scr K ns σ H ∧ wS (Bx P w K mg base N qual (defScope st) f cdv A outer s H E) [] ⟨H0, Z, [], tb⟩ (fun c d _ H => E c d H) (Fr K tb H0) (bagB ns 1) D σ H)) :
    FnOk P w K mg base (L2.CX P w) (k + 1) f fd [p0] (spBag K tb) := by
  refine F.okX S (fun vs H Q E h => by obtain ⟨_, _, _, rfl, _⟩ := h; rfl) (fun cdv A outer s H vs Q E hr h => ?_)
  obtain ⟨Z, a, ns, rfl, hq, hn, zd, tabs, h⟩ := h
  have hs : (L2.start N [V.ref a]).length = 2 := by unfold L2.start; simp; omega
  have S0 := Sx.bare (K := K) (tb := tb) (H := H) (Z := Z) (own := []) (σ := L2.start N [V.ref a]) List.nodup_nil (by simp) (by simp) zd tabs
  rw [hs] at S0
  refine ⟨_, hb f cdv A outer s H E (cutT tb H) Z ns (Cf.of S.nd hr), ⟨a, rfl, hq, hn⟩, Z, _, _, S0, ?_⟩
  rw [bagB_ev ns (List.replicate 2 none) _ ⟨none, none, rfl⟩]
  exact fun v σ' ρ' H' Z' e S' ⟨b, hb', n1, n2, c⟩ => h v H' Z' (post_of (mask := []) (vs := []) (os := []) (more := []) .nil zd S' e) ⟨b, hb', n1.cut, n2, c⟩
/-- the law's promise -/
def spLaw (K : PySem.W.Frag) (tb : List (Addr × Str)) : Sp := fun vs H Q _ => ∃ (a : Addr) (ns : List Int), vs = [.ref a] ∧ SqL K H a (ns.map V.int) ∧ ns.length ≤ LIM ∧ LamX.Tabs tb H ∧ ∀ H', Q (.bl true) H'
theorem fn_law {rest : SS} {own : List Nat} {m : Nat} (F : L2.Fun K x qual st f fd) (S : FnScope N [p0] (defScope st)) (nd : own.Nodup) (ho : ∀ i ∈ own, 1 ≤ i ∧ i < N.length) (hz : own.length = m + 1)
    (hb : ∀ (f : Addr) (cdv : Value) (A : Around) (outer : List PySem.Env) (s : Shared) (H : Hp) (E : XK) (H0 : Hp) (Z : Addr → Prop) (ns : List Int), Cf (Bx P w K mg base N qual (defScope st) f cdv A outer s H E) (fun c d _ H => E c d H) k →
      PSs (Bx P w K mg base N qual (defScope st) f cdv A outer s H E) (defBody st) (fun D σ H => Scr K ns σ H ∧ wS (Bx P w K mg base N qual (defScope st) f cdv A outer s H E) own ⟨H0, Z, [], tb⟩ (fun c d _ H => E c d H) (Rp K) (sSeq (sOwn 0 (eC (bagD ns))) rest) D σ H))
    (plain : ∀ ns : List Int, ∃ ω', rest (List.replicate N.length none) (some (bagD ns) :: List.replicate m none) = .rt (.bool true) ω') :
    FnOk P w K mg base (L2.CX P w) (k + 1) f fd [p0] (spLaw K tb) := by
  refine F.okX S (fun vs H Q E h => by obtain ⟨_, _, rfl, _⟩ := h; rfl) (fun cdv A outer s H vs Q E hr h => ?_)
  obtain ⟨a, ns, rfl, hq, hn, tabs, h⟩ := h
  have hN : 1 ≤ N.length := by
    cases own with
    | nil => simp at hz
    | cons i r => have := ho i List.mem_cons_self; omega
  have hs : (L2.start N [V.ref a]).length = N.length := by unfold L2.start; simp; omega
  have s1 : ∀ i, 1 ≤ i → i < N.length → (L2.start N [V.ref a])[i]? = some none := fun i h1 h2 => by
    unfold L2.start
    rw [List.getElem?_append_right (by simpa using h1), List.getElem?_replicate, if_pos (by simp; omega)]
  have S0 := Sx.bare (K := K) (tb := tb) (H := H) (Z := fun _ => False) (own := own) (σ := L2.start N [V.ref a]) nd (by intro i hi; have := ho i hi; omega) (by intro i hi v; have := ho i hi; rw [s1 i this.1 this.2]; simp) (by intro a h; exact h.elim) tabs
  rw [hs] at S0
  obtain ⟨ω', hp⟩ := plain ns
  refine ⟨_, hb f cdv A outer s H E (cutT tb H) (fun _ => False) ns (Cf.of S.nd hr), ⟨a, rfl, hq, hn⟩, _, _, _, S0, ?_⟩
  have e : sSeq (sOwn 0 (eC (bagD ns))) rest (List.replicate N.length none) (List.replicate own.length none) = .rt (.bool true) ω' := by
    rw [hz, ← hp]; rfl
  rw [e]
  exact fun v σ' ρ' H' Z' e S' r => by cases r; exact h _
end
section
variable {X : Cx} {own : List Nat} {T : Ent} {W : WX} {k j i : Nat} {x y : Str} {ns : List Int} {p p2 p3 pos pos' tpos : Pos} {R : RR}
theorem e_bag (C : Cf X W k) (hc : Callee X.prog X.w X.K X.mg X.base j x (spBag X.K T.tb)) (hk : j ≤ k) (hg : Gl X x) (hN : X.N[0]? = some y) (hv : Vis X.env.scope y) (hd : (y == ("__debug__" : Str)) = false) (hcd : (y == ("__classdict__" : Str)) = false)
    (hdb : (x == ("__debug__" : Str)) = false) (he : starEach [.Name y p3] X.env = (false, eval (.Name y p3) X.env) :: starEach [] X.env) (hpl : (backTo pos (starEach [] X.env)).any (·.1) = false) :
    PE X (.Call (.Name x p2) [.Name y p3] [] pos) (fun σ H Q => Scr X.K ns σ H ∧ vF X own T W (eC (bagD ns)) σ H Q) := by
  obtain ⟨f, fd, ps, hm, hkp, hb, F⟩ := hc.ex
  refine PE.imp (pe_callS F (C.room.mono hk) hg hm hkp hb (fun σ => passAt C.tk σ) (pa_cons (pe_var hN hv hd hcd) pa_nil he) hdb he hpl) fun σ H Q ⟨⟨a, h1, h2, hn⟩, h⟩ => ?_
  obtain ⟨Z, ρ, ω, S, h⟩ := h
  refine ⟨.ref a, h1, Z, a, ns, rfl, h2, hn, S.zd, S.tabs, fun v H' Z' P r => ?_⟩
  have h' : Pg X.K X.mg own T W (Fr X.K T.tb H) (.ok (bagD ns) ω) ρ σ Z H Q := h
  have := S.called (js := []) (as := []) List.nodup_nil rfl (by intro t j a e; simp at e) P
  rw [show putO ω [] [] = ω from rfl] at this
  exact h' v H' Z' (P.e.weak fun a h => by simp at h) this r
theorem s_ownBag {e : Expr} (hN : X.N.Nodup) (hj : own[j]? = some i) (np : T.pa.length ≤ j) (hi : X.N[i]? = some x) (hx : Loc X.env.scope x) (hf : X.fn x = true ∨ X.env.scope.names.lookup x = some .local) (he : PE X e (fun σ H Q => Scr X.K ns σ H ∧ vF X own T W (eC (bagD ns)) σ H Q)) (hs : swapsWith e (some (.Name x pos')) pos.line X.env = pure false) :
    PS X (.Assign [.Name x pos'] e pos) (fun E σ H => Scr X.K ns σ H ∧ wS X own T W R (sOwn j (eC (bagD ns))) E σ H) := by
  refine PS.imp (ps_set hN hi hx he hs hf) fun E σ H ⟨hscr, h⟩ => ⟨hscr, ?_⟩
  obtain ⟨Z0, ρ0, ω0, S0, _⟩ := id h
  refine vS_E h fun x ρ ω b H' Z' S r q => ?_
  obtain ⟨a, rfl, n1, n2, c⟩ := r
  obtain ⟨n3, n4⟩ := S0.nw n1
  exact q _ H' Z' (.refl _ _) (S.take hj np n2 c n3 n4)
theorem ss_consBag {st : Stmt} {rest : List Stmt} {f g : SS} (h1 : PS X st (fun E σ H => Scr X.K ns σ H ∧ wS X own T W R f E σ H)) (h2 : PSs X rest (wS X own T W R g)) : PSs X (st :: rest) (fun E σ H => Scr X.K ns σ H ∧ wS X own T W R (sSeq f g) E σ H) := PSs.imp (pss_cons h1 h2) fun E σ H ⟨s, h⟩ => ⟨s, vS_seq h⟩
end
end Wc

set_option Elab.async false
set_option linter.all false
set_option maxRecDepth 100000
set_option maxHeartbeats 1000000
/-! Wc.Ev: meanings, reckoned. -/
namespace Wc
open PySem
variable {α β : Type}
/-! ### how a result goes on -/
/-- what a rewriting is not to look into -/
structure Fx {σ : Type} (a : σ) : Type where
  b : Bool
def RB (r : Res α) (f : α → Om → Res β) (z : Fx f := ⟨true⟩) : Res β := match r with
  | .ok a ω => f a ω
  | .ex x ω => .ex x ω
  | .bad => .bad
theorem RB_ok (a : α) (ω : Om) (f : α → Om → Res β) (z : Fx f) : RB (.ok a ω) f z = f a ω := rfl
theorem RB_ex (x : Exn) (ω : Om) (f : α → Om → Res β) (z : Fx f) : RB (.ex x ω) f z = .ex x ω := rfl
theorem RB_ext {r : Res α} {f g : α → Om → Res β} {z : Fx f} {z' : Fx g} (h : ∀ x ω, f x ω = g x ω) : RB r f z = RB r g z' := by
  cases r with
  | ok a ω => exact h a ω
  | _ => rfl
def LF (o : Option α) (ω : Om) : Res α := match o with
  | some a => .ok a ω
  | none => .bad
theorem LF_some (a : α) (ω : Om) : LF (some a) ω = .ok a ω := rfl
theorem ev_bind (m : M α) (f : α → M β) (ω : Om) : M.bind m f ω = RB (m ω) f := by
  unfold M.bind RB; cases m ω <;> rfl
theorem ev_pure (a : α) (ω : Om) : M.pure a ω = .ok a ω := rfl
theorem ev_lift (o : Option α) (ω : Om) : M.lift o ω = LF o ω := by cases o <;> rfl
def SB (r : Res α) (ρ : Env) (k : α → Om → SR) (z : Fx k := ⟨true⟩) : SR := match r with
  | .ok a ω => k a ω
  | .ex x ω => .ex x ρ ω
  | .bad => .bad
theorem SB_ok (a : α) (ω : Om) (ρ : Env) (k : α → Om → SR) (z : Fx k) : SB (.ok a ω) ρ k z = k a ω := rfl
theorem SB_ex (x : Exn) (ω : Om) (ρ : Env) (k : α → Om → SR) (z : Fx k) : SB (.ex x ω) ρ k z = .ex x ρ ω := rfl
theorem SB_ext {r : Res α} {ρ : Env} {f g : α → Om → SR} {z : Fx f} {z' : Fx g} (h : ∀ x ω, f x ω = g x ω) : SB r ρ f z = SB r ρ g z' := by
  cases r with
  | ok a ω => exact h a ω
  | _ => rfl
theorem SB_arg {r r' : Res α} {ρ : Env} {f : α → Om → SR} {z z' : Fx f} (h : r = r') : SB r ρ f z = SB r' ρ f z' := by
  subst h
  cases r <;> rfl
def SQ (r : SR) (g : SS) (z : Fx g := ⟨true⟩) : SR := match r with
  | .nx ρ ω => g ρ ω
  | r => r
theorem SQ_nx (ρ : Env) (ω : Om) (g : SS) (z : Fx g) : SQ (.nx ρ ω) g z = g ρ ω := rfl
theorem SQ_rt (d : D) (ω : Om) (g : SS) (z : Fx g) : SQ (.rt d ω) g z = .rt d ω := rfl
theorem SQ_ex (x : Exn) (ρ : Env) (ω : Om) (g : SS) (z : Fx g) : SQ (.ex x ρ ω) g z = .ex x ρ ω := rfl
theorem SQ_bk (ρ : Env) (ω : Om) (g : SS) (z : Fx g) : SQ (.bk ρ ω) g z = .bk ρ ω := rfl
theorem SQ_ct (ρ : Env) (ω : Om) (g : SS) (z : Fx g) : SQ (.ct ρ ω) g z = .ct ρ ω := rfl
/-! ### expressions -/
def VR (o : Option (Option D)) (ω : Om) : Res D := match o with
  | some (some d) => .ok d ω
  | _ => .bad
theorem VR_ok (d : D) (ω : Om) : VR (some (some d)) ω = .ok d ω := rfl
theorem ev_var (i : Nat) (ρ : Env) (ω : Om) : eVar i ρ ω = VR (ρ[i]?) ω := by
  unfold eVar VR; split <;> simp_all [M.pure]
theorem ev_own (j : Nat) (ρ : Env) (ω : Om) : eOwn j ρ ω = VR (ω[j]?) ω := by
  unfold eOwn VR; split <;> simp_all
def GV (o : Option (Option D)) (j : Nat) (ω : Om) : Res D := match o with
  | some (some d) => .ok d (ω.set j none)
  | _ => .bad
theorem GV_ok (d : D) (j : Nat) (ω : Om) : GV (some (some d)) j ω = .ok d (ω.set j none) := rfl
theorem ev_give (j : Nat) (ρ : Env) (ω : Om) : eGive j ρ ω = GV (ω[j]?) j ω := by
  unfold eGive GV; split <;> simp_all
theorem ev_c (d : D) (ρ : Env) (ω : Om) : eC d ρ ω = .ok d ω := rfl
theorem ev_1 (g : D → Option D) (a : EE) (ρ : Env) (ω : Om) : e1 g a ρ ω = RB (a ρ ω) fun x => LF (g x) := by
  unfold e1; rw [ev_bind]; refine RB_ext fun x ω => ?_; rw [ev_lift]
theorem ev_2 (g : D → D → Option D) (a b : EE) (ρ : Env) (ω : Om) : e2 g a b ρ ω = RB (a ρ ω) fun x ω => RB (b ρ ω) fun y => LF (g x y) := by
  unfold e2; simp only [ev_bind, ev_lift]; refine RB_ext fun x ω => ?_; rw [ev_bind]; refine RB_ext fun y ω => ?_; rw [ev_lift]
theorem ev_2o (g : D → D → Option D) (j : Nat) (b : EE) (ρ : Env) (ω : Om) : e2o g j b ρ ω = RB (eOwn j ρ ω) fun _ ω => RB (b ρ ω) fun y ω => RB (eOwn j ρ ω) fun x => LF (g x y) := by
  unfold e2o; rw [ev_bind]; refine RB_ext fun x ω => ?_; rw [ev_bind]; refine RB_ext fun y ω => ?_; rw [ev_bind]; refine RB_ext fun y ω => ?_; rw [ev_lift]
theorem ev_tC (c : Cmp) (a b : EE) (ρ : Env) (ω : Om) : tC c a b ρ ω = RB (a ρ ω) fun x ω => RB (b ρ ω) fun y => LF (cmpB c x y) := by
  unfold tC; rw [ev_bind]; refine RB_ext fun x ω => ?_; rw [ev_bind]; refine RB_ext fun y ω => ?_; rw [ev_lift]
theorem ev_tCo (c : Cmp) (j : Nat) (b : EE) (ρ : Env) (ω : Om) : tCo c j b ρ ω = RB (eOwn j ρ ω) fun _ ω => RB (b ρ ω) fun y ω => RB (eOwn j ρ ω) fun x => LF (cmpB c x y) := by
  unfold tCo; rw [ev_bind]; refine RB_ext fun x ω => ?_; rw [ev_bind]; refine RB_ext fun y ω => ?_; rw [ev_bind]; refine RB_ext fun y ω => ?_; rw [ev_lift]
/-- a choice by a truth -/
def CH (c : Bool) (m n : M α) (z : Fx m := ⟨true⟩) (z' : Fx n := ⟨true⟩) : M α := if c = true then m else n
theorem CH_t (m n : M α) (z : Fx m) (z' : Fx n) : CH true m n z z' = m := rfl
theorem CH_f (m n : M α) (z : Fx m) (z' : Fx n) : CH false m n z z' = n := rfl
theorem ev_tCh (o o' : Cmp) (a b c : EE) (ρ : Env) (ω : Om) : tCh o o' a b c ρ ω = RB (a ρ ω) fun x ω => RB (b ρ ω) fun y ω => RB (LF (cmpB o x y) ω) fun k => CH k (fun ω => RB (c ρ ω) fun z => LF (cmpB o' y z)) (M.pure false) := by
  unfold tCh; rw [ev_bind]; refine RB_ext fun x ω => ?_; rw [ev_bind]; refine RB_ext fun y ω => ?_; rw [ev_bind, ev_lift]; refine RB_ext fun k ω => ?_
  unfold CH; cases k
  · rfl
  · simp only [if_true, if_pos]; rw [ev_bind]; refine RB_ext fun z ω => ?_; rw [ev_lift]
theorem ev_tB (a : EE) (ρ : Env) (ω : Om) : tB a ρ ω = RB (a ρ ω) fun x => LF (truth x) := by
  unfold tB; rw [ev_bind]; refine RB_ext fun x ω => ?_; rw [ev_lift]
theorem ev_tAnd (a b : TT) (ρ : Env) (ω : Om) : tAnd a b ρ ω = RB (a ρ ω) fun c => CH c (b ρ) (M.pure false) := by
  unfold tAnd; rw [ev_bind]; rfl
theorem ev_tOr (a b : TT) (ρ : Env) (ω : Om) : tOr a b ρ ω = RB (a ρ ω) fun c => CH c (M.pure true) (b ρ) := by
  unfold tOr; rw [ev_bind]; rfl
theorem ev_tNot (a : TT) (ρ : Env) (ω : Om) : tNot a ρ ω = RB (a ρ ω) fun c => M.pure (!c) := by
  unfold tNot; rw [ev_bind]
theorem ev_tYes (ρ : Env) (ω : Om) : tYes ρ ω = .ok true ω := rfl
theorem ev_eT (a : TT) (ρ : Env) (ω : Om) : eT a ρ ω = RB (a ρ ω) fun c => M.pure (.bool c) := by
  unfold eT; rw [ev_bind]
theorem ev_eAnd (a b : EE) (ρ : Env) (ω : Om) : eAnd a b ρ ω = RB (a ρ ω) fun x ω => RB (LF (truth x) ω) fun c => CH c (b ρ) (M.pure x) := by
  unfold eAnd; rw [ev_bind]; refine RB_ext fun x ω => ?_; rw [ev_bind, ev_lift]; rfl
theorem ev_eOr (a b : EE) (ρ : Env) (ω : Om) : eOr a b ρ ω = RB (a ρ ω) fun x ω => RB (LF (truth x) ω) fun c => CH c (M.pure x) (b ρ) := by
  unfold eOr; rw [ev_bind]; refine RB_ext fun x ω => ?_; rw [ev_bind, ev_lift]; rfl
theorem ev_eNot (a : EE) (ρ : Env) (ω : Om) : eNot a ρ ω = RB (a ρ ω) fun x ω => RB (LF (truth x) ω) fun c => M.pure (.bool (!c)) := by
  unfold eNot; rw [ev_bind]; refine RB_ext fun x ω => ?_; rw [ev_bind, ev_lift]
theorem ev_eIf (c : TT) (a b : EE) (ρ : Env) (ω : Om) : eIf c a b ρ ω = RB (c ρ ω) fun k => CH k (a ρ) (b ρ) := by
  unfold eIf; rw [ev_bind]; rfl
theorem ev_eCh (o o' : Cmp) (a b c : EE) (ρ : Env) (ω : Om) : eCh o o' a b c ρ ω = RB (a ρ ω) fun x ω => RB (b ρ ω) fun y ω => RB (LF (cmpB o x y) ω) fun k => CH k (fun ω => RB (c ρ ω) fun z => LF (cmpD o' y z)) (M.pure (.bool false)) := by
  unfold eCh; rw [ev_bind]; refine RB_ext fun x ω => ?_; rw [ev_bind]; refine RB_ext fun y ω => ?_; rw [ev_bind, ev_lift]; refine RB_ext fun k ω => ?_
  unfold CH; cases k
  · rfl
  · simp only [if_true, if_pos]; rw [ev_bind]; refine RB_ext fun z ω => ?_; rw [ev_lift]
theorem ev_items_nil (ρ : Env) (ω : Om) : items [] ρ ω = .ok [] ω := rfl
theorem ev_items_one (a : EE) (r : List It1) (ρ : Env) (ω : Om) : items (.one a :: r) ρ ω = RB (a ρ ω) fun x ω => RB (items r ρ ω) fun xs => M.pure (x :: xs) := by
  conv => lhs; unfold items
  rw [ev_bind]; refine RB_ext fun x ω => ?_; (first | rfl | (rw [ev_bind]))
theorem ev_items_star (a : EE) (r : List It1) (ρ : Env) (ω : Om) : items (.star a :: r) ρ ω = RB (a ρ ω) fun x ω => RB (LF (seqD x) ω) fun ys ω => RB (items r ρ ω) fun xs => M.pure (ys ++ xs) := by
  conv => lhs; unfold items
  rw [ev_bind]; refine RB_ext fun x ω => ?_; rw [ev_bind, ev_lift]; refine RB_ext fun y ω => ?_; (first | rfl | (rw [ev_bind]))
theorem limited_ok {xs : List D} (h : xs.length ≤ LIM) (ω : Om) : limited xs ω = .ok xs ω := by
  unfold limited; rw [if_pos h]; rfl
theorem ev_eTup (l : List It1) (ρ : Env) (ω : Om) : eTup l ρ ω = RB (items l ρ ω) fun xs ω => RB (limited xs ω) fun xs => M.pure (.tuple xs) := by
  unfold eTup; rw [ev_bind]; refine RB_ext fun x ω => ?_; (first | rfl | (rw [ev_bind]))
theorem ev_eLst (l : List It1) (ρ : Env) (ω : Om) : eLst l ρ ω = RB (items l ρ ω) fun xs ω => RB (limited xs ω) fun xs => M.pure (.list xs) := by
  unfold eLst; rw [ev_bind]; refine RB_ext fun x ω => ?_; (first | rfl | (rw [ev_bind]))
def PT (d : D) (ω : Om) : Res (Option Int) := match d with
  | .int i => .ok (some i) ω
  | _ => .bad
theorem PT_int (i : Int) (ω : Om) : PT (.int i) ω = .ok (some i) ω := rfl
theorem ev_part_n (ρ : Env) (ω : Om) : part none ρ ω = .ok none ω := rfl
theorem ev_part_s (a : EE) (ρ : Env) (ω : Om) : part (some a) ρ ω = RB (a ρ ω) PT := by
  show M.bind (a ρ) _ ω = _
  rw [ev_bind]; refine RB_ext fun x ω => ?_; unfold PT; cases x <;> rfl
theorem ev_eSl (a : EE) (lo hi : Option EE) (ρ : Env) (ω : Om) : eSl a lo hi ρ ω = RB (a ρ ω) fun x ω => RB (part lo ρ ω) fun l ω => RB (part hi ρ ω) fun h => LF (slD x l h) := by
  unfold eSl; rw [ev_bind]; refine RB_ext fun x ω => ?_; rw [ev_bind]; refine RB_ext fun y ω => ?_; rw [ev_bind]; refine RB_ext fun y ω => ?_; rw [ev_lift]
theorem ev_args_nil (ρ : Env) (ω : Om) : args [] ρ ω = .ok [] ω := rfl
theorem ev_args_sh (a : EE) (r : List Ar) (ρ : Env) (ω : Om) : args (.sh a :: r) ρ ω = RB (a ρ ω) fun x ω => RB (args r ρ ω) fun xs => M.pure (x :: xs) := by
  conv => lhs; unfold args
  rw [ev_bind]; refine RB_ext fun x ω => ?_; (first | rfl | (rw [ev_bind]))
theorem ev_args_ow (j : Nat) (r : List Ar) (ρ : Env) (ω : Om) : args (.ow j :: r) ρ ω = RB (eOwn j ρ ω) fun _ => args r ρ := by
  conv => lhs; unfold args
  rw [ev_bind]
/-- behind a call -/
def CB (r : Res D) (js : List Nat) (ω : Om) : Res D := match r with
  | .ok d ω' => .ok d (putO ω js ω')
  | .ex x ω' => .ex x (putO ω js ω')
  | .bad => .bad
theorem CB_ok (d : D) (ω' : Om) (js : List Nat) (ω : Om) : CB (.ok d ω') js ω = .ok d (putO ω js ω') := rfl
theorem CB_ex (x : Exn) (ω' : Om) (js : List Nat) (ω : Om) : CB (.ex x ω') js ω = .ex x (putO ω js ω') := rfl
theorem ev_call0 (m : FM) (xs : List D) (ω : Om) : callM m [] xs ω = CB (m xs []) [] ω := by
  have e : takeO ω [] = [] := rfl
  unfold callM CB
  rw [e]
  show (if true = true then _ else _) = _
  refine (if_pos rfl).trans ?_
  cases m xs [] <;> rfl
theorem ev_call1 (m : FM) (j : Nat) (xs : List D) (ω : Om) (d : D) (h : ω[j]? = some (some d)) : callM m [j] xs ω = CB (m xs [some d]) [j] ω := by
  have e : takeO ω [j] = [some d] := congrArg (fun (o : Option (Option D)) => [o.join]) h
  unfold callM CB
  rw [e]
  show (if true = true then _ else _) = _
  refine (if_pos rfl).trans ?_
  cases m xs [some d] <;> rfl
theorem ev_eCall (m : FM) (as : List Ar) (ρ : Env) (ω : Om) : eCall m as ρ ω = RB (args as ρ ω) (callM m (owns as)) := by
  unfold eCall; rw [ev_bind]
/-! ### what is walked -/
theorem ev_wOf (a : EE) (ρ : Env) (ω : Om) : wOf a ρ ω = RB (a ρ ω) fun x => LF (itemsD x) := by
  unfold wOf; rw [ev_bind]; refine RB_ext fun x ω => ?_; rw [ev_lift]
def RN (x y : D) (ω : Om) : Res (List D) := match x, y with
  | .int i, .int j => LF (rgN i j) ω
  | _, _ => .bad
theorem RN_int (i j : Int) (ω : Om) : RN (.int i) (.int j) ω = LF (rgN i j) ω := rfl
theorem ev_wRange (a b : EE) (ρ : Env) (ω : Om) : wRange a b ρ ω = RB (a ρ ω) fun x ω => RB (b ρ ω) fun y => RN x y := by
  unfold wRange; rw [ev_bind]; refine RB_ext fun x ω => ?_; rw [ev_bind]; refine RB_ext fun y ω => ?_; unfold RN; cases x <;> cases y <;> first | rfl | exact ev_lift _ _
def downN (i j : Int) : Option (List D) := if in62 i && in62 j && decide ((i - j).toNat ≤ LIM) then some (intsBy i (-1) (i - j).toNat) else none
def RND (x y : D) (ω : Om) : Res (List D) := match x, y with
  | .int i, .int j => LF (downN i j) ω
  | _, _ => .bad
theorem RND_int (i j : Int) (ω : Om) : RND (.int i) (.int j) ω = LF (downN i j) ω := rfl
theorem ev_wDown (a b : EE) (ρ : Env) (ω : Om) : wDown a b ρ ω = RB (a ρ ω) fun x ω => RB (b ρ ω) fun y => RND x y := by
  unfold wDown; rw [ev_bind]; refine RB_ext fun x ω => ?_; rw [ev_bind]; refine RB_ext fun y ω => ?_; unfold RND downN; cases x <;> cases y <;> first | rfl | exact ev_lift _ _
theorem ev_wEnum (a : EE) (ρ : Env) (ω : Om) : wEnum a ρ ω = RB (a ρ ω) fun x ω => RB (LF (itemsD x) ω) fun xs => M.pure (enumFrom 0 xs) := by
  unfold wEnum; rw [ev_bind]; refine RB_ext fun x ω => ?_; rw [ev_bind, ev_lift]
theorem ev_wZip (a b : EE) (ρ : Env) (ω : Om) : wZip a b ρ ω = RB (a ρ ω) fun x ω => RB (b ρ ω) fun y ω => RB (LF (itemsD x) ω) fun xs ω => RB (LF (itemsD y) ω) fun ys => M.pure (zipD xs ys) := by
  unfold wZip; rw [ev_bind]; refine RB_ext fun x ω => ?_; rw [ev_bind]; refine RB_ext fun y ω => ?_; rw [ev_bind, ev_lift]; refine RB_ext fun y ω => ?_; rw [ev_bind, ev_lift]
theorem ev_eLc (w : WW) (t : Tg) (c : TT) (e : EE) (vs : List Nat) (ρ : Env) (ω : Om) : eLc w t c e vs ρ ω = RB (w ρ ω) fun xs ω => RB (lcGo t c e (wipeE ρ vs) xs ω) fun ys => M.pure (.list ys) := by
  unfold eLc; rw [ev_bind]; refine RB_ext fun x ω => ?_; (first | rfl | (rw [ev_bind]))
theorem ev_eDc (w : WW) (t : Tg) (k v : EE) (vs : List Nat) (ρ : Env) (ω : Om) : eDc w t k v vs ρ ω = RB (w ρ ω) fun xs ω => RB (dcGo t k v (wipeE ρ vs) xs [] ω) fun ys => M.pure (.dict ys) := by
  unfold eDc; rw [ev_bind]; refine RB_ext fun x ω => ?_; (first | rfl | (rw [ev_bind]))
/-! ### targets -/
def OB (o : Option Env) (f : Env → Option Env) : Option Env := o.bind f
theorem OB_some (ρ : Env) (f : Env → Option Env) : OB (some ρ) f = f ρ := rfl
theorem bt_nm (i : Nat) (d : D) (ρ : Env) : bindT (.nm i) d ρ = some (ρ.set i (some d)) := by unfold bindT; first | done | rfl
theorem bt_tup (ts : List Tg) (ds : List D) (ρ : Env) : bindT (.tup ts) (.tuple ds) ρ = bindTs ts ds ρ := by
  conv => lhs; unfold bindT
theorem bt_nil (ρ : Env) : bindTs [] [] ρ = some ρ := by unfold bindTs; rfl
theorem bt_cons (t : Tg) (ts : List Tg) (d : D) (ds : List D) (ρ : Env) : bindTs (t :: ts) (d :: ds) ρ = OB (bindT t d ρ) (bindTs ts ds) := by
  conv => lhs; unfold bindTs
  rfl
/-! ### statements -/
theorem ev_nil (ρ : Env) (ω : Om) : sNil ρ ω = .nx ρ ω := rfl
theorem ev_seq (f g : SS) (ρ : Env) (ω : Om) : sSeq f g ρ ω = SQ (f ρ ω) g := by
  unfold sSeq SQ; cases f ρ ω <;> rfl
theorem ev_sE (a : Env → M α) (k : α → SS) (ρ : Env) (ω : Om) : sE a k ρ ω = SB (a ρ ω) ρ fun d ω => k d ρ ω := by
  unfold sE SB; cases a ρ ω <;> rfl
def NX (o : Option Env) (ω : Om) : SR := match o with
  | some ρ => .nx ρ ω
  | none => .bad
theorem NX_some (ρ : Env) (ω : Om) : NX (some ρ) ω = .nx ρ ω := rfl
theorem ev_asg (t : Tg) (a : EE) (ρ : Env) (ω : Om) : sAsg t a ρ ω = SB (a ρ ω) ρ fun d => NX (bindT t d ρ) := by
  unfold sAsg; rw [ev_sE]; rfl
theorem ev_par2 (p q : P1) (ρ : Env) (ω : Om) : sPar2 p q ρ ω = SB (p.e ρ ω) ρ fun x ω => SB (q.e ρ ω) ρ fun y ω => .nx (q.ρ y (p.ρ x ρ)) (q.ω y (p.ω x ω)) := by
  unfold sPar2; rw [ev_sE, ev_bind]
  cases p.e ρ ω with
  | ok x ω =>
    simp only [RB_ok, SB_ok, ev_bind]
    cases q.e ρ ω <;> rfl
  | ex => rfl
  | bad => rfl
theorem ev_own_set (j : Nat) (a : EE) (ρ : Env) (ω : Om) : sOwn j a ρ ω = SB (a ρ ω) ρ fun d ω => .nx ρ (ω.set j (some d)) := by
  unfold sOwn; rw [ev_sE]
theorem ev_aug (i : Nat) (g : D → D → Option D) (a : EE) (ρ : Env) (ω : Om) : sAug i g a ρ ω = SB (RB (eVar i ρ ω) fun x ω => RB (a ρ ω) fun y => LF (g x y)) ρ fun d ω => .nx (ρ.set i (some d)) ω := by
  unfold sAug; rw [ev_sE, ev_bind]; refine SB_arg (RB_ext fun x ω => ?_); rw [ev_bind]; refine RB_ext fun y ω => ?_; rw [ev_lift]
def IFS (k : Bool) (f g : SS) (ρ : Env) (ω : Om) (z : Fx f := ⟨true⟩) (z' : Fx g := ⟨true⟩) : SR := if k = true then f ρ ω else g ρ ω
theorem IFS_t (f g : SS) (ρ : Env) (ω : Om) (z : Fx f) (z' : Fx g) : IFS true f g ρ ω z z' = f ρ ω := rfl
theorem IFS_f (f g : SS) (ρ : Env) (ω : Om) (z : Fx f) (z' : Fx g) : IFS false f g ρ ω z z' = g ρ ω := rfl
theorem ev_if (c : TT) (f g : SS) (ρ : Env) (ω : Om) : sIf c f g ρ ω = SB (c ρ ω) ρ fun k => IFS k f g ρ := by
  unfold sIf; rw [ev_sE]; rfl
theorem ev_ret (a : EE) (ρ : Env) (ω : Om) : sRet a ρ ω = SB (a ρ ω) ρ SR.rt := by
  unfold sRet; rw [ev_sE]
theorem ev_drop (a : EE) (ρ : Env) (ω : Om) : sDrop a ρ ω = SB (a ρ ω) ρ fun _ => SR.nx ρ := by
  unfold sDrop; rw [ev_sE]
theorem ev_raise (cls : String) (fs : List String) (as : List It1) (ρ : Env) (ω : Om) : sRaise cls fs as ρ ω = SB (items as ρ ω) ρ fun ds ω => if ds.length = fs.length then .ex ⟨cls, fs.zip ds⟩ ρ ω else .bad := by
  unfold sRaise; rw [ev_sE]
def MKo (o : Option D) (j : Nat) (ρ : Env) (ω : Om) : SR := match o with
  | some d' => .nx ρ (ω.set j (some d'))
  | none => .bad
def MK (o : Option (Option D)) (j : Nat) (g : D → Option D) (ρ : Env) (ω : Om) : SR := match o with
  | some (some d) => MKo (g d) j ρ ω
  | _ => .bad
theorem MK_some (d : D) (j : Nat) (g : D → Option D) (ρ : Env) (ω : Om) : MK (some (some d)) j g ρ ω = MKo (g d) j ρ ω := rfl
theorem MKo_some (d : D) (j : Nat) (ρ : Env) (ω : Om) : MKo (some d) j ρ ω = .nx ρ (ω.set j (some d)) := rfl
theorem ev_mutK (j : Nat) (g : D → List D → Option D) (ds : List D) (ρ : Env) (ω : Om) : mutK j g ds ρ ω = MK (ω[j]?) j (fun d => g d ds) ρ ω := by
  unfold mutK MK
  cases ω[j]? with
  | none => rfl
  | some o => cases o with
    | none => rfl
    | some d =>
      show (match g d ds with | some d' => SR.nx ρ (ω.set j (some d')) | none => .bad) = MKo (g d ds) j ρ ω
      cases g d ds <;> rfl
theorem ev_mut (j : Nat) (l : List It1) (g : D → List D → Option D) (ρ : Env) (ω : Om) : sMut j l g ρ ω = SB (RB (eOwn j ρ ω) fun d => lstE l d ρ) ρ fun ds => mutK j g ds ρ := by
  unfold sMut; rw [ev_sE, ev_bind]
theorem ev_lstE (l : List It1) (xs : List D) : lstE l (.list xs) = items l := rfl
theorem ev_put (j : Nat) (v i : EE) (ρ : Env) (ω : Om) : sPut j v i ρ ω = SB (RB (v ρ ω) fun x ω => RB (eOwn j ρ ω) fun _ ω => RB (i ρ ω) fun k => M.pure [x, k]) ρ fun ds => mutK j gPut ds ρ := by
  unfold sPut putE; rw [ev_sE, ev_bind]; refine SB_arg (RB_ext fun x ω => ?_); (first | rfl | (rw [ev_bind]; refine RB_ext fun x ω => ?_; (first | rfl | (rw [ev_bind]))))
theorem ev_augI (j : Nat) (i : EE) (g : D → D → Option D) (e : EE) (ρ : Env) (ω : Om) : sAugI j i g e ρ ω = SB (RB (eOwn j ρ ω) fun _ ω => RB (i ρ ω) fun k ω => RB (eOwn j ρ ω) fun d ω => RB (LF (idxD d k) ω) fun x ω => RB (e ρ ω) fun y ω => RB (LF (g x y) ω) fun z => M.pure [z, k]) ρ fun ds => mutK j gPut ds ρ := by
  unfold sAugI augE; rw [ev_sE, ev_bind]; refine SB_arg (RB_ext fun x ω => ?_); rw [ev_bind]; refine RB_ext fun x ω => ?_; rw [ev_bind]; refine RB_ext fun x ω => ?_; rw [ev_bind, ev_lift]; refine RB_ext fun x ω => ?_; rw [ev_bind]; refine RB_ext fun x ω => ?_; (first | rfl | (rw [ev_bind, ev_lift]))
theorem ev_for (t : Tg) (w : WW) (b : SS) (ρ : Env) (ω : Om) : sFor t w b ρ ω = SB (w ρ ω) ρ fun xs => sForGo t b xs ρ := by
  unfold sFor; rw [ev_sE]
/-- what a turn of a loop does -/
def FG (r : SR) (k : SS) (z : Fx k := ⟨true⟩) : SR := match r with
  | .nx ρ ω => k ρ ω
  | .ct ρ ω => k ρ ω
  | .bk ρ ω => .nx ρ ω
  | r => r
theorem FG_nx (ρ : Env) (ω : Om) (k : SS) (z : Fx k) : FG (.nx ρ ω) k z = k ρ ω := rfl
theorem FG_ct (ρ : Env) (ω : Om) (k : SS) (z : Fx k) : FG (.ct ρ ω) k z = k ρ ω := rfl
theorem FG_bk (ρ : Env) (ω : Om) (k : SS) (z : Fx k) : FG (.bk ρ ω) k z = .nx ρ ω := rfl
theorem FG_rt (d : D) (ω : Om) (k : SS) (z : Fx k) : FG (.rt d ω) k z = .rt d ω := rfl
theorem FG_ex (x : Exn) (ρ : Env) (ω : Om) (k : SS) (z : Fx k) : FG (.ex x ρ ω) k z = .ex x ρ ω := rfl
def FB (o : Option Env) (b : SS) (ω : Om) (k : SS) (z : Fx k := ⟨true⟩) (z' : Fx b := ⟨true⟩) : SR := match o with
  | some ρ => FG (b ρ ω) k
  | none => .bad
theorem FB_some (ρ : Env) (b : SS) (ω : Om) (k : SS) (z : Fx k) (z' : Fx b) : FB (some ρ) b ω k z z' = FG (b ρ ω) k := rfl
theorem for_nil (t : Tg) (b : SS) (ρ : Env) (ω : Om) : sForGo t b [] ρ ω = .nx ρ ω := by unfold sForGo; rfl
theorem for_cons (t : Tg) (b : SS) (x : D) (xs : List D) (ρ : Env) (ω : Om) : sForGo t b (x :: xs) ρ ω = FB (bindT t x ρ) b ω (sForGo t b xs) := by
  conv => lhs; unfold sForGo
  unfold FB
  cases bindT t x ρ with
  | none => rfl
  | some ρ' => simp only; unfold FG; cases b ρ' ω <;> rfl
/-- a def's end -/
def DF (r : SR) (n : Nat) : Res D := match r with
  | .nx _ ω' => .ok .none (ω'.take n)
  | .rt d ω' => .ok d (ω'.take n)
  | .ex x _ ω' => .ex x (ω'.take n)
  | _ => .bad
theorem DF_nx (ρ : Env) (ω : Om) (n : Nat) : DF (.nx ρ ω) n = .ok .none (ω.take n) := rfl
theorem DF_rt (d : D) (ω : Om) (n : Nat) : DF (.rt d ω) n = .ok d (ω.take n) := rfl
theorem DF_ex (x : Exn) (ρ : Env) (ω : Om) (n : Nat) : DF (.ex x ρ ω) n = .ex x (ω.take n) := rfl
theorem ev_defM (mask : List Bool) (slots mine : Nat) (b : SS) (ds : List D) (ω : Om) : defM mask slots mine b ds ω = DF (b (entryE mask ds ++ List.replicate (slots - mask.length) none) (ω ++ List.replicate mine none)) ω.length := by
  unfold defM DF; cases b (entryE mask ds ++ List.replicate (slots - mask.length) none) (ω ++ List.replicate mine none) <;> rfl
/-! ### comprehensions, loops: as maps -/
theorem noEx_ok {m : M α} {a : α} {ω ω' : Om} (h : m ω = .ok a ω') : noEx m ω = .ok a ω' := by unfold noEx; rw [h]
/-- what holds of a target's environment -/
def Bd (o : Option Env) (P : Env → Prop) (z : Fx P := ⟨true⟩) : Prop := match o with
  | some ρ => P ρ
  | none => False
theorem Bd_some (ρ : Env) (P : Env → Prop) (z : Fx P) : Bd (some ρ) P z = P ρ := rfl
theorem Bd_ex {o : Option Env} {P : Env → Prop} {z : Fx P} (h : Bd o P z) : ∃ ρ, o = some ρ ∧ P ρ := by
  cases o with
  | none => exact h.elim
  | some ρ => exact ⟨ρ, rfl, h⟩
theorem lcGo_map {τ : Type} {t : Tg} {c : TT} {e : EE} {ρ : Env} {ω : Om} (enc : τ → D) (p : τ → Bool) (g : τ → D) : ∀ (xs : List τ),
    (∀ x ∈ xs, Bd (bindT t (enc x) ρ) fun ρ' => c ρ' ω = .ok (p x) ω ∧ (p x = true → e ρ' ω = .ok (g x) ω)) → lcGo t c e ρ (xs.map enc) ω = .ok ((xs.filter p).map g) ω
  | [], _ => rfl
  | x :: xs, h => by
    obtain ⟨ρ', h1, h2, h3⟩ := Bd_ex (h x List.mem_cons_self)
    have ih := lcGo_map enc p g xs fun y hy => h y (List.mem_cons_of_mem _ hy)
    rw [List.map_cons]
    unfold lcGo
    rw [h1]
    simp only
    rw [ev_bind, noEx_ok h2, RB_ok]
    cases hp : p x with
    | false =>
      rw [if_neg (by decide), ih, List.filter_cons_of_neg (by rw [hp]; decide)]
    | true =>
      rw [if_pos rfl, ev_bind, noEx_ok (h3 hp), RB_ok, ev_bind, ih, RB_ok, List.filter_cons_of_pos hp]
      rfl
/-- without a test -/
theorem lcGo_all {τ : Type} {t : Tg} {e : EE} {ρ : Env} {ω : Om} (enc : τ → D) (g : τ → D) (xs : List τ)
    (h : ∀ x ∈ xs, Bd (bindT t (enc x) ρ) fun ρ' => e ρ' ω = .ok (g x) ω) : lcGo t tYes e ρ (xs.map enc) ω = .ok (xs.map g) ω := by
  rw [lcGo_map enc (fun _ => true) g xs fun x hx => by obtain ⟨ρ', h1, h2⟩ := Bd_ex (h x hx); rw [h1]; exact ⟨rfl, fun _ => h2⟩]
  rw [List.filter_eq_self.mpr fun _ _ => rfl]
inductive All2 {τ υ : Type} (P : τ → υ → Prop) : List τ → List υ → Prop
  | nil : All2 P [] []
  | cons {x : τ} {y : υ} {xs : List τ} {ys : List υ} (h : P x y) (t : All2 P xs ys) : All2 P (x :: xs) (y :: ys)
/-- whose members change the owned places -/
theorem lcGo_st {τ : Type} {t : Tg} {e : EE} {ρ : Env} (enc : τ → D) (I : Om → Prop) (P : τ → D → Prop) : ∀ (xs : List τ) (ω : Om), I ω →
    (∀ x ∈ xs, ∀ ω, I ω → Bd (bindT t (enc x) ρ) fun ρ' => ∃ d ω', e ρ' ω = .ok d ω' ∧ I ω' ∧ P x d) → ∃ ds ω', lcGo t tYes e ρ (xs.map enc) ω = .ok ds ω' ∧ I ω' ∧ All2 P xs ds
  | [], ω, i, _ => ⟨[], ω, rfl, i, .nil⟩
  | x :: xs, ω, i, h => by
    obtain ⟨ρ', h1, d, ω1, h2, i1, p1⟩ := Bd_ex (h x List.mem_cons_self ω i)
    obtain ⟨ds, ω2, h3, i2, p2⟩ := lcGo_st enc I P xs ω1 i1 fun y hy => h y (List.mem_cons_of_mem _ hy)
    refine ⟨d :: ds, ω2, ?_, i2, .cons p1 p2⟩
    rw [List.map_cons]
    unfold lcGo
    rw [h1]
    simp only
    rw [ev_bind, noEx_ok (m := tYes ρ') rfl, RB_ok, if_pos rfl, ev_bind, noEx_ok h2, RB_ok, ev_bind, h3, RB_ok]
    rfl
/-- what a statement does -/
def St1 (r : SR) (P : Env → Om → Prop) (z : Fx P := ⟨true⟩) : Prop := match r with
  | .nx ρ ω => P ρ ω
  | _ => False
theorem St1_nx (ρ : Env) (ω : Om) (P : Env → Om → Prop) (z : Fx P) : St1 (.nx ρ ω) P z = P ρ ω := rfl
theorem St1_ex {r : SR} {P : Env → Om → Prop} {z : Fx P} (h : St1 r P z) : ∃ ρ ω, r = .nx ρ ω ∧ P ρ ω := by
  cases r with
  | nx ρ ω => exact ⟨ρ, ω, rfl, h⟩
  | _ => exact h.elim
/-- a walk whose turns change a state -/
theorem for_inv {τ : Type} {t : Tg} {b : SS} (enc : τ → D) (I : List τ → Env → Om → Prop)
    (h : ∀ x xs ρ ω, I (x :: xs) ρ ω → Bd (bindT t (enc x) ρ) fun ρ1 => St1 (b ρ1 ω) (I xs)) : ∀ (xs : List τ) (ρ : Env) (ω : Om), I xs ρ ω → St1 (sForGo t b (xs.map enc) ρ ω) (I [])
  | [], ρ, ω, i => by rw [List.map_nil, for_nil]; exact i
  | x :: xs, ρ, ω, i => by
    obtain ⟨ρ1, h1, h0⟩ := Bd_ex (h x xs ρ ω i)
    obtain ⟨ρ2, ω2, h2, i2⟩ := St1_ex h0
    rw [List.map_cons, for_cons, h1, FB_some, h2, FG_nx]
    exact for_inv enc I h xs ρ2 ω2 i2
end Wc

set_option Elab.async false
set_option linter.all false
set_option maxRecDepth 100000
set_option maxHeartbeats 1000000
/-! Wc.Dat: operations on data of known shapes. -/
namespace Wc
open PySem
abbrev Wd := List Nat
def dW (w : Wd) : D := .str ⟨w.toArray⟩
theorem dW_inj {a b : Wd} : dW a = dW b ↔ a = b := by
  constructor
  · intro h
    injection h with h
    injection h with h
    simpa using congrArg Array.toList h
  · intro h; rw [h]
theorem LIM_def : LIM = 16777216 := rfl
theorem limited_k {xs : List D} (ω : Om) (h : xs.length ≤ 16777216) : limited xs ω = .ok xs ω := limited_ok h ω
/-! arithmetic -/
theorem add_int (i j : Int) : opD .add (.int i) (.int j) = some (.int (i + j)) := rfl
theorem sub_int (i j : Int) : opD .sub (.int i) (.int j) = some (.int (i - j)) := rfl
theorem mul_int {i j : Int} (h : small64 i = true ∨ small64 j = true) : opD .mul (.int i) (.int j) = some (.int (i * j)) := by
  unfold opD
  simp only
  rw [if_pos (by rcases h with h | h <;> simp [h])]
theorem fdiv_int {i j : Int} (h1 : j ≠ 0) (h2 : j.natAbs < 1073741824) : opD .fdiv (.int i) (.int j) = some (.int (i.fdiv j)) := by
  unfold opD
  simp only
  rw [if_pos (by simp [h1, h2])]
theorem mod_int {i j : Int} (h1 : j ≠ 0) : opD .mod (.int i) (.int j) = some (.int (i.fmod j)) := by
  unfold opD
  simp only
  rw [if_pos h1]
theorem addI_int (i j : Int) : addI (.int i) (.int j) = some (.int (i + j)) := rfl
theorem add_W {a b : Wd} (h : a.length + b.length ≤ LIM) : opD .add (dW a) (dW b) = some (dW (a ++ b)) := by
  unfold opD dW
  simp only
  rw [if_pos (by simpa [Str.length] using h)]
  congr 2
  show Str.append _ _ = _
  unfold Str.append
  simp
theorem add_tup {xs ys : List D} (h : xs.length + ys.length ≤ LIM) : opD .add (.tuple xs) (.tuple ys) = some (.tuple (xs ++ ys)) := by
  unfold opD
  simp only
  rw [if_pos h]
theorem add_lst {xs ys : List D} (h : xs.length + ys.length ≤ LIM) : opD .add (.list xs) (.list ys) = some (.list (xs ++ ys)) := by
  unfold opD
  simp only
  rw [if_pos h]
theorem neg_int (i : Int) : negD (.int i) = some (.int (-i)) := rfl
/-! lengths -/
theorem len_W (w : Wd) : lenD (dW w) = some (.int w.length) := by simp [lenD, dW]
theorem len_tup (xs : List D) : lenD (.tuple xs) = some (.int xs.length) := rfl
theorem len_lst (xs : List D) : lenD (.list xs) = some (.int xs.length) := rfl
/-! items -/
theorem items_tup (xs : List D) : itemsD (.tuple xs) = some xs := rfl
theorem items_lst (xs : List D) : itemsD (.list xs) = some xs := rfl
def dCh (c : Nat) : D := dW [c]
theorem items_W (w : Wd) : itemsD (dW w) = some (w.map dCh) := by
  simp [itemsD, dW, dCh]
theorem seq_tup (xs : List D) : seqD (.tuple xs) = some xs := rfl
theorem seq_lst (xs : List D) : seqD (.list xs) = some xs := rfl
theorem tup_tup (xs : List D) : tupD (.tuple xs) = some (.tuple xs) := rfl
theorem tup_lst (xs : List D) : tupD (.list xs) = some (.tuple xs) := rfl
theorem rev_tup (xs : List D) : revD (.tuple xs) = some (.tuple xs.reverse) := rfl
theorem rev_lst (xs : List D) : revD (.list xs) = some (.list xs.reverse) := rfl
/-! items by index -/
theorem ixN_nat {n k : Nat} (h : k < n) : ixN n (k : Int) = some k := by
  unfold ixN
  rw [if_pos (by omega), if_pos (by omega)]
  simp
theorem ixN_pos {n : Nat} {i : Int} (h0 : 0 ≤ i) (h : i.toNat < n) : ixN n i = some i.toNat := by
  unfold ixN
  rw [if_pos h0, if_pos (by omega)]
theorem idx_tup {xs : List D} {i : Int} (h0 : 0 ≤ i) (h : i.toNat < xs.length) : idxD (.tuple xs) (.int i) = xs[i.toNat]? := by
  unfold idxD
  simp only
  rw [ixN_pos h0 h]
  rfl
theorem idx_lst {xs : List D} {i : Int} (h0 : 0 ≤ i) (h : i.toNat < xs.length) : idxD (.list xs) (.int i) = xs[i.toNat]? := by
  unfold idxD
  simp only
  rw [ixN_pos h0 h]
  rfl
theorem idx_t0 (a : D) (r : List D) : idxD (.tuple (a :: r)) (.int 0) = some a := by
  rw [idx_tup (by decide) (by simp)]; rfl
theorem idx_t1 (a b : D) (r : List D) : idxD (.tuple (a :: b :: r)) (.int 1) = some b := by
  rw [idx_tup (by decide) (by simp)]; rfl
theorem idx_t2 (a b c : D) (r : List D) : idxD (.tuple (a :: b :: c :: r)) (.int 2) = some c := by
  rw [idx_tup (by decide) (by simp)]; rfl
theorem idx_t3 (a b c d : D) (r : List D) : idxD (.tuple (a :: b :: c :: d :: r)) (.int 3) = some d := by
  rw [idx_tup (by decide) (by simp)]; rfl
theorem idx_l0 (a : D) (r : List D) : idxD (.list (a :: r)) (.int 0) = some a := by
  rw [idx_lst (by decide) (by simp)]; rfl
theorem idx_l1 (a b : D) (r : List D) : idxD (.list (a :: b :: r)) (.int 1) = some b := by
  rw [idx_lst (by decide) (by simp)]; rfl
theorem idx_l2 (a b c : D) (r : List D) : idxD (.list (a :: b :: c :: r)) (.int 2) = some c := by
  rw [idx_lst (by decide) (by simp)]; rfl
theorem idx_l3 (a b c d : D) (r : List D) : idxD (.list (a :: b :: c :: d :: r)) (.int 3) = some d := by
  rw [idx_lst (by decide) (by simp)]; rfl
theorem idx_W {w : Wd} {i : Int} {c : Nat} (h0 : 0 ≤ i) (h : w[i.toNat]? = some c) : idxD (dW w) (.int i) = some (dCh c) := by
  have hl : i.toNat < w.length := (List.getElem?_eq_some_iff.mp h).1
  unfold idxD dW
  simp only
  rw [ixN_pos h0 (by simpa using hl)]
  simp [h]
  rfl
theorem idx_W_last {w : Wd} {c : Nat} (h : w.getLast? = some c) : idxD (dW w) (.int (-1)) = some (dCh c) := by
  have hn : w ≠ [] := by intro e; subst e; cases h
  have hl : 0 < w.length := by cases w; exact absurd rfl hn; simp
  have e : ixN w.length (-1) = some (w.length - 1) := by
    unfold ixN
    rw [if_neg (by omega), if_pos (by omega)]
    congr 1
    omega
  unfold idxD dW
  simp only
  rw [List.getLast?_eq_getElem?] at h
  rw [show (w.toArray.toList.length) = w.length by simp, e]
  simp [h]
  rfl
/-! slices -/
theorem cut_take {α : Type} (xs : List α) {i : Int} (h : 0 ≤ i) : cutL xs none (some i) = xs.take i.toNat := by
  unfold cutL sB
  simp only
  rw [if_neg (by omega), Nat.sub_zero, List.drop_zero]
  by_cases q : i.toNat ≤ xs.length
  · rw [Nat.min_eq_left q]
  · rw [Nat.min_eq_right (by omega), List.take_of_length_le (Nat.le_refl _), List.take_of_length_le (by omega)]
theorem cut_drop {α : Type} (xs : List α) {i : Int} (h : 0 ≤ i) : cutL xs (some i) none = xs.drop i.toNat := by
  unfold cutL sB
  simp only
  rw [if_neg (by omega)]
  by_cases q : i.toNat ≤ xs.length
  · rw [Nat.min_eq_left q, List.take_of_length_le (by rw [List.length_drop]; omega)]
  · rw [Nat.min_eq_right (by omega), List.drop_of_length_le (Nat.le_refl _), List.drop_of_length_le (by omega), List.take_nil]
theorem cut_mid {α : Type} (xs : List α) {i j : Int} (h : 0 ≤ i) (h2 : i ≤ j) : cutL xs (some i) (some j) = (xs.drop i.toNat).take (j.toNat - i.toNat) := by
  unfold cutL sB
  simp only
  rw [if_neg (by omega), if_neg (by omega)]
  by_cases q : i.toNat ≤ xs.length
  · rw [Nat.min_eq_left q]
    by_cases q2 : j.toNat ≤ xs.length
    · rw [Nat.min_eq_left q2]
    · rw [Nat.min_eq_right (by omega), List.take_of_length_le (by rw [List.length_drop]; omega), List.take_of_length_le (by rw [List.length_drop]; omega)]
  · rw [Nat.min_eq_right (by omega), Nat.min_eq_right (by omega), List.drop_of_length_le (Nat.le_refl _), List.drop_of_length_le (by omega), List.take_nil, List.take_nil]
theorem sl_tup (xs : List D) (lo hi : Option Int) : slD (.tuple xs) lo hi = some (.tuple (cutL xs lo hi)) := rfl
theorem sl_lst (xs : List D) (lo hi : Option Int) : slD (.list xs) lo hi = some (.list (cutL xs lo hi)) := rfl
theorem sl_W (w : Wd) (lo hi : Option Int) : slD (dW w) lo hi = some (dW (cutL w lo hi)) := rfl
theorem cut_map {α β : Type} (f : α → β) (xs : List α) (lo hi : Option Int) : cutL (xs.map f) lo hi = (cutL xs lo hi).map f := by
  unfold cutL; rw [List.length_map, List.map_take, List.map_drop]
/-! truths -/
theorem truth_b (b : Bool) : truth (.bool b) = some b := rfl
theorem cmp_lt (i j : Int) : cmpB .lt (.int i) (.int j) = some (decide (i < j)) := rfl
theorem cmp_le (i j : Int) : cmpB .le (.int i) (.int j) = some (decide (i ≤ j)) := rfl
theorem cmp_gt (i j : Int) : cmpB .gt (.int i) (.int j) = some (decide (j < i)) := rfl
theorem cmp_ge (i j : Int) : cmpB .ge (.int i) (.int j) = some (decide (j ≤ i)) := rfl
theorem cmp_isN (d : D) : cmpB .isN d .none = some (!notNone d) := by cases d <;> rfl
theorem cmp_notN (d : D) : cmpB .notN d .none = some (notNone d) := by cases d <;> rfl
theorem cmp_isB (a b : Bool) : cmpB .isN (.bool a) (.bool b) = some (a == b) := rfl
theorem cmp_notB (a b : Bool) : cmpB .notN (.bool a) (.bool b) = some (!(a == b)) := rfl
theorem cmpD_def (c : Cmp) (x y : D) : cmpD c x y = (cmpB c x y).map .bool := rfl
/-! equality: data without truths and dicts -/
mutual
def pur : D → Bool
  | .none => true
  | .bool _ => false
  | .int _ => true
  | .str _ => true
  | .list xs => purs xs
  | .tuple xs => purs xs
  | .dict _ => false
def purs : List D → Bool
  | [] => true
  | x :: xs => pur x && purs xs
end
mutual
theorem pur_plain : ∀ d : D, pur d = true → d.plain = true
  | .none, _ => by simp [PyData.plain]
  | .int _, _ => by simp [PyData.plain]
  | .str _, _ => by simp [PyData.plain]
  | .list xs, h => by simp only [PyData.plain]; exact purs_plain xs (by simpa [pur] using h)
  | .tuple xs, h => by simp only [PyData.plain]; exact purs_plain xs (by simpa [pur] using h)
theorem purs_plain : ∀ ds : List D, purs ds = true → PyData.plainAll ds = true
  | [], _ => by simp [PyData.plainAll]
  | d :: ds, h => by
    have h' : pur d = true ∧ purs ds = true := by simpa [purs] using h
    simp only [PyData.plainAll, Bool.and_eq_true]
    exact ⟨pur_plain d h'.1, purs_plain ds h'.2⟩
end
mutual
theorem eqv_pur : ∀ d e : D, pur d = true → pur e = true → (PyData.eqv d e = true ↔ d = e)
  | .none, e, _, h => by cases e <;> simp [PyData.eqv]
  | .int i, e, _, h => by cases e <;> simp [PyData.eqv]; simp [pur] at h
  | .str i, e, _, h => by cases e <;> simp [PyData.eqv]
  | .list xs, e, h1, h => by
    cases e <;> simp [PyData.eqv]
    exact eqvs_pur xs _ (by simpa [pur] using h1) (by simpa [pur] using h)
  | .tuple xs, e, h1, h => by
    cases e <;> simp [PyData.eqv]
    exact eqvs_pur xs _ (by simpa [pur] using h1) (by simpa [pur] using h)
theorem eqvs_pur : ∀ ds es : List D, purs ds = true → purs es = true → (PyData.eqvAll ds es = true ↔ ds = es)
  | [], [], _, _ => by simp [PyData.eqvAll]
  | [], _ :: _, _, _ => by simp [PyData.eqvAll]
  | _ :: _, [], _, _ => by simp [PyData.eqvAll]
  | d :: ds, e :: es, h1, h2 => by
    have h1' : pur d = true ∧ purs ds = true := by simpa [purs] using h1
    have h2' : pur e = true ∧ purs es = true := by simpa [purs] using h2
    simp only [PyData.eqvAll, Bool.and_eq_true, List.cons.injEq]
    rw [eqv_pur d e h1'.1 h2'.1, eqvs_pur ds es h1'.2 h2'.2]
end
/-- a datum that may be compared -/
def Gd (d : D) : Prop := pur d = true ∧ d.depth ≤ 64
theorem eqOk_gd {d e : D} (h1 : Gd d) (h2 : Gd e) : eqOk d e = true := by
  unfold eqOk
  simp [pur_plain d h1.1, pur_plain e h2.1, h1.2, h2.2]
open Classical in
theorem cmp_eq {d e : D} (h1 : Gd d) (h2 : Gd e) : cmpB .eq d e = some (decide (d = e)) := by
  unfold cmpB
  simp only
  rw [if_pos (eqOk_gd h1 h2)]
  congr 1
  rw [Bool.eq_iff_iff, eqv_pur d e h1.1 h2.1, decide_eq_true_iff]
open Classical in
theorem cmp_ne {d e : D} (h1 : Gd d) (h2 : Gd e) : cmpB .ne d e = some (!decide (d = e)) := by
  unfold cmpB
  simp only
  rw [if_pos (eqOk_gd h1 h2)]
  congr 2
  rw [Bool.eq_iff_iff, eqv_pur d e h1.1 h2.1, decide_eq_true_iff]
open Classical in
theorem cmp_eq_self {d : D} (h : Gd d) : cmpB .eq d d = some true := by rw [cmp_eq h h, decide_eq_true rfl]
open Classical in
theorem cmp_ne_self {d : D} (h : Gd d) : cmpB .ne d d = some false := by rw [cmp_ne h h, decide_eq_true rfl]; rfl
open Classical in
theorem cmp_eq_no {d e : D} (h : Gd d) (h2 : Gd e) (n : d ≠ e) : cmpB .eq d e = some false := by rw [cmp_eq h h2, decide_eq_false n]
open Classical in
theorem cmp_ne_no {d e : D} (h : Gd d) (h2 : Gd e) (n : d ≠ e) : cmpB .ne d e = some true := by rw [cmp_ne h h2, decide_eq_false n]; rfl
theorem eqv_dec {d e : D} (h1 : pur d = true) (h2 : pur e = true) : PyData.eqv d e = true ↔ d = e := eqv_pur d e h1 h2
open Classical in
theorem mem_gd {d : D} {xs : List D} (h1 : Gd d) (h2 : Gd (.list xs)) : cmpB .mem d (.list xs) = some (decide (d ∈ xs)) := by
  unfold cmpB memD
  simp only
  rw [if_pos (eqOk_gd h1 h2)]
  congr 1
  rw [Bool.eq_iff_iff, List.any_eq_true, decide_eq_true_iff]
  have hp : ∀ xs : List D, purs xs = true → ∀ x ∈ xs, pur x = true := by
    intro xs
    induction xs with
    | nil => intro _ x hx; cases hx
    | cons y ys ih =>
      intro h x hx
      have h' : pur y = true ∧ purs ys = true := by simpa [purs] using h
      rcases List.mem_cons.mp hx with rfl | hx
      · exact h'.1
      · exact ih h'.2 x hx
  have h3 := hp xs (by simpa [pur] using h2.1)
  constructor
  · rintro ⟨y, hy, e⟩
    rw [eqv_dec (h3 y hy) h1.1] at e
    exact e ▸ hy
  · intro hd
    exact ⟨d, hd, (eqv_dec h1.1 h1.1).mpr rfl⟩
open Classical in
theorem mem_gdt {d : D} {xs : List D} (h1 : Gd d) (h2 : Gd (.tuple xs)) : cmpB .mem d (.tuple xs) = some (decide (d ∈ xs)) := by
  have := mem_gd (d := d) (xs := xs) h1 ⟨by simpa [pur] using h2.1, by simpa [PyData.depth] using h2.2⟩
  unfold cmpB memD at this ⊢
  simp only at this ⊢
  rw [if_pos (eqOk_gd h1 h2)]
  rw [if_pos (eqOk_gd h1 ⟨by simpa [pur] using h2.1, by simpa [PyData.depth] using h2.2⟩)] at this
  exact this
theorem nmem_of {d e : D} {b : Bool} (h : cmpB .mem d e = some b) : cmpB .nmem d e = some (!b) := by
  have h' : memD d e = some b := by simpa [cmpB] using h
  show (memD d e).map (!·) = _
  rw [h']; rfl
theorem gd_int (i : Int) : Gd (.int i) := ⟨rfl, by simp [PyData.depth]⟩
theorem gd_none : Gd .none := ⟨rfl, by simp [PyData.depth]⟩
theorem gd_str (x : Str) : Gd (.str x) := ⟨rfl, by simp [PyData.depth]⟩
theorem gd_W (w : Wd) : Gd (dW w) := gd_str _
/-- of depth at most n -/
def Gn (n : Nat) (d : D) : Prop := pur d = true ∧ d.depth ≤ n
theorem Gn.gd {n : Nat} {d : D} (h : Gn n d) (hn : n ≤ 64) : Gd d := ⟨h.1, Nat.le_trans h.2 hn⟩
theorem Gn.mono {n m : Nat} {d : D} (h : Gn n d) (hn : n ≤ m) : Gn m d := ⟨h.1, Nat.le_trans h.2 hn⟩
theorem gn_int {n : Nat} (i : Int) : Gn n (.int i) := ⟨rfl, by simp [PyData.depth]⟩
theorem gn_none {n : Nat} : Gn n .none := ⟨rfl, by simp [PyData.depth]⟩
theorem gn_str {n : Nat} (x : Str) : Gn n (.str x) := ⟨rfl, by simp [PyData.depth]⟩
theorem gn_W {n : Nat} (w : Wd) : Gn n (dW w) := gn_str _
theorem gn_all {n : Nat} : ∀ {xs : List D}, (∀ x ∈ xs, Gn n x) → purs xs = true ∧ PyData.depthAll xs ≤ n
  | [], _ => ⟨rfl, by simp [PyData.depthAll]⟩
  | x :: xs, h => by
    obtain ⟨h1, h2⟩ := gn_all (xs := xs) fun y hy => h y (List.mem_cons_of_mem _ hy)
    obtain ⟨h3, h4⟩ := h x List.mem_cons_self
    simp only [purs, PyData.depthAll]
    exact ⟨by simp [h1, h3], by omega⟩
theorem gn_tup {n : Nat} {xs : List D} (h : ∀ x ∈ xs, Gn n x) : Gn (n + 1) (.tuple xs) := by
  obtain ⟨h1, h2⟩ := gn_all h
  exact ⟨by simpa [pur] using h1, by simp only [PyData.depth]; omega⟩
theorem gn_lst {n : Nat} {xs : List D} (h : ∀ x ∈ xs, Gn n x) : Gn (n + 1) (.list xs) := by
  obtain ⟨h1, h2⟩ := gn_all h
  exact ⟨by simpa [pur] using h1, by simp only [PyData.depth]; omega⟩
theorem gn_map {n : Nat} {τ : Type} {xs : List τ} {f : τ → D} (h : ∀ x ∈ xs, Gn n (f x)) : ∀ y ∈ xs.map f, Gn n y := by
  intro y hy
  obtain ⟨x, hx, rfl⟩ := List.mem_map.mp hy
  exact h x hx
theorem gn_nil {n : Nat} : ∀ y ∈ ([] : List D), Gn n y := by intro y hy; cases hy
theorem gn_cons {n : Nat} {x : D} {xs : List D} (h : Gn n x) (t : ∀ y ∈ xs, Gn n y) : ∀ y ∈ x :: xs, Gn n y := by
  intro y hy
  rcases List.mem_cons.mp hy with rfl | hy
  · exact h
  · exact t y hy
/-! words compared -/
theorem eq_W (a b : Wd) : cmpB .eq (dW a) (dW b) = some (decide (a = b)) := by
  rw [cmp_eq (gd_W _) (gd_W _)]; congr 1; rw [decide_eq_decide]; exact dW_inj
theorem ne_W (a b : Wd) : cmpB .ne (dW a) (dW b) = some (!decide (a = b)) := by
  rw [cmp_ne (gd_W _) (gd_W _)]; congr 2; rw [decide_eq_decide]; exact dW_inj
theorem eq_int (a b : Int) : cmpB .eq (.int a) (.int b) = some (decide (a = b)) := by
  rw [cmp_eq (gd_int _) (gd_int _)]; congr 1; rw [decide_eq_decide]; simp
theorem ne_int (a b : Int) : cmpB .ne (.int a) (.int b) = some (!decide (a = b)) := by
  rw [cmp_ne (gd_int _) (gd_int _)]; congr 2; rw [decide_eq_decide]; simp
theorem eq_b (a b : Bool) : cmpB .eq (.bool a) (.bool b) = some (a == b) := rfl
theorem ne_b (a b : Bool) : cmpB .ne (.bool a) (.bool b) = some (!(a == b)) := rfl
/-- the lesser word: by letters, then by the order of signs -/
def wless (a b : Wd) : Bool := decide (a.length < b.length) || (decide (a.length = b.length) && decide (a < b))
theorem keyLt (a b : Wd) : cmpB .lt (.tuple [.int a.length, dW a]) (.tuple [.int b.length, dW b]) = some (wless a b) := by
  have hg : ∀ w : Wd, Gd (.tuple [.int w.length, dW w]) := fun w => (gn_tup (n := 0) (gn_cons (gn_int _) (gn_cons (gn_W _) gn_nil))).gd (by decide)
  show ltD _ _ = _
  unfold ltD
  rw [if_pos]
  · congr 1
    rw [PySem.W.dataLt_tuple]
    by_cases e : a.length = b.length
    · rw [PySem.W.dataLt_all_yes (by simp [PySem.W.alike]) (by simp [PyData.eqv, e])]
      have h2 : PySem.W.dataLt (dW a) (dW b) = decide (a < b) := by
        unfold dW; rw [PySem.W.dataLt_str]
      by_cases q : a = b
      · subst q
        have : wless a a = false := by
          unfold wless
          simp
        rw [this, PySem.W.dataLt_all_yes (by simp [PySem.W.alike, dW]) (by simp [PyData.eqv, dW])]
        rfl
      · rw [PySem.W.dataLt_all_no (by simp [PySem.W.alike, dW]) (by
          have := eqv_dec (gd_W a).1 (gd_W b).1
          rw [dW_inj] at this
          cases hh : PyData.eqv (dW a) (dW b) with
          | false => rfl
          | true => exact absurd (this.mp hh) q), h2]
        unfold wless
        simp [e]
    · rw [PySem.W.dataLt_all_no (by simp [PySem.W.alike]) (by simp [PyData.eqv]; omega), PySem.W.dataLt_int]
      unfold wless
      simp [e]
  · rw [eqOk_gd (hg a) (hg b)]
    simp [PySem.W.alike, PySem.W.alikeAll, dW, notNone]
/-! kinds -/
theorem isT_def (ts : List Ty) (d : D) : isT ts d = some (.bool (ts.any fun t => isTy t d)) := rfl
/-! ranges -/
theorem intsFrom_map (n : Nat) : ∀ lo : Int, intsFrom lo n = (List.range n).map fun (k : Nat) => PyData.int (lo + k) := by
  induction n with
  | zero => intro lo; rfl
  | succ n ih =>
    intro lo
    rw [List.range_succ_eq_map, List.map_cons, List.map_map]
    show PyData.int lo :: intsFrom (lo + 1) n = _
    rw [ih]
    simp only [Int.natCast_zero, Int.add_zero]
    congr 1
    apply List.map_congr_left
    intro k _
    simp only [Function.comp]
    congr 1
    omega
theorem rgN_ok {lo hi : Int} (h1 : 0 ≤ lo) (h2 : hi ≤ 16777216) (h3 : lo ≤ 16777216) (h4 : -16777216 ≤ hi) : rgN lo hi = some ((List.range (hi - lo).toNat).map fun (k : Nat) => PyData.int (lo + k)) := by
  unfold rgN in62
  rw [if_pos, intsFrom_map]
  simp only [Bool.and_eq_true, decide_eq_true_eq, LIM_def]
  refine ⟨⟨⟨?_, ?_⟩, ?_, ?_⟩, ?_⟩ <;> first | omega | (apply decide_eq_true; omega)
theorem rg0 {n : Nat} (h : n ≤ 16777216) : rgN 0 (n : Int) = some ((List.range n).map fun (k : Nat) => PyData.int k) := by
  rw [rgN_ok (by decide) (by omega) (by decide) (by omega)]
  simp
theorem rgZ {n : Int} (h : n ≤ 16777216) (h2 : -16777216 ≤ n) : rgN 0 n = some ((List.range n.toNat).map fun (k : Nat) => PyData.int k) := by
  rw [rgN_ok (by decide) h (by decide) h2]
  simp
theorem enumFrom_map {τ : Type} (f : τ → D) : ∀ (xs : List τ) (n : Nat), enumFrom n (xs.map f) = (xs.zipIdx n).map fun p => PyData.tuple [.int (p.2 : Int), f p.1]
  | [], _ => rfl
  | x :: xs, n => by
    rw [List.map_cons, List.zipIdx_cons, List.map_cons]
    show PyData.tuple [.int n, f x] :: enumFrom (n + 1) (xs.map f) = _
    rw [enumFrom_map f xs (n + 1)]
theorem zipD_map {τ υ : Type} (f : τ → D) (g : υ → D) : ∀ (xs : List τ) (ys : List υ), zipD (xs.map f) (ys.map g) = (xs.zip ys).map fun p => PyData.tuple [f p.1, g p.2]
  | [], _ => by simp [zipD]
  | _ :: _, [] => by simp [zipD]
  | x :: xs, y :: ys => by
    rw [List.map_cons, List.map_cons, List.zip_cons_cons, List.map_cons]
    show PyData.tuple [f x, g y] :: zipD (xs.map f) (ys.map g) = _
    rw [zipD_map f g xs ys]
theorem intsBy_down (n : Nat) : ∀ (i : Int), intsBy i (-1) n = (List.range n).map fun (k : Nat) => PyData.int (i - k) := by
  induction n with
  | zero => intro i; rfl
  | succ n ih =>
    intro i
    rw [List.range_succ_eq_map, List.map_cons, List.map_map]
    show PyData.int i :: intsBy (i + -1) (-1) n = _
    rw [ih]
    simp only [Int.natCast_zero, Int.sub_zero]
    congr 1
    apply List.map_congr_left
    intro k _
    simp only [Function.comp]
    congr 1
    omega
theorem downN_ok {n : Nat} (h : n ≤ 16777216) : downN ((n : Int) - 1) (-1) = some ((List.range n).map fun (k : Nat) => PyData.int ((n : Int) - 1 - k)) := by
  unfold downN in62
  rw [if_pos, intsBy_down]
  · congr 3; omega
  · simp only [Bool.and_eq_true, decide_eq_true_eq, LIM_def]
    refine ⟨⟨⟨?_, ?_⟩, ?_, ?_⟩, ?_⟩ <;> first | omega | (apply decide_eq_true; omega)
/-! all, any -/
theorem allD_map {τ : Type} (p : τ → Bool) (xs : List τ) : allD (.list (xs.map fun x => .bool (p x))) = some (.bool (xs.all p)) := by
  have : (xs.map fun x => PyData.bool (p x)).mapM boolOf = some (xs.map p) := by
    induction xs with
    | nil => rfl
    | cons x xs ih => rw [List.map_cons, List.mapM_cons, ih]; rfl
  unfold allD
  simp only [this]
  simp [List.all_map]
theorem anyD_map {τ : Type} (p : τ → Bool) (xs : List τ) : anyD (.list (xs.map fun x => .bool (p x))) = some (.bool (xs.any p)) := by
  have : (xs.map fun x => PyData.bool (p x)).mapM boolOf = some (xs.map p) := by
    induction xs with
    | nil => rfl
    | cons x xs ih => rw [List.map_cons, List.mapM_cons, ih]; rfl
  unfold anyD
  simp only [this]
  simp [List.any_map]
theorem mem_sign (c : Nat) (w : Wd) : cmpB .mem (dCh c) (dW w) = some (decide (c ∈ w)) := by
  have h : memD (dCh c) (dW w) = some (decide (c ∈ w)) := by
    unfold memD dCh dW
    simp
  rw [← h]; rfl
end Wc

set_option Elab.async false
set_option linter.all false
set_option maxRecDepth 100000
set_option maxHeartbeats 1000000
/-! Wc.Dat2: changes, whiles, join. -/
namespace Wc
open PySem
theorem ty_int_none  : isTy .int (.none ) = false := rfl
theorem ty_int_bool (b : Bool) : isTy .int (.bool b) = true := rfl
theorem ty_int_int (b : Int) : isTy .int (.int b) = true := rfl
theorem ty_int_str (b : Str) : isTy .int (.str b) = false := rfl
theorem ty_int_list (b : List D) : isTy .int (.list b) = false := rfl
theorem ty_int_tuple (b : List D) : isTy .int (.tuple b) = false := rfl
theorem ty_int_dict (b : List (D × D)) : isTy .int (.dict b) = false := rfl
theorem ty_int_W (w : Wd) : isTy .int (dW w) = false := rfl
theorem ty_bool_none  : isTy .bool (.none ) = false := rfl
theorem ty_bool_bool (b : Bool) : isTy .bool (.bool b) = true := rfl
theorem ty_bool_int (b : Int) : isTy .bool (.int b) = false := rfl
theorem ty_bool_str (b : Str) : isTy .bool (.str b) = false := rfl
theorem ty_bool_list (b : List D) : isTy .bool (.list b) = false := rfl
theorem ty_bool_tuple (b : List D) : isTy .bool (.tuple b) = false := rfl
theorem ty_bool_dict (b : List (D × D)) : isTy .bool (.dict b) = false := rfl
theorem ty_bool_W (w : Wd) : isTy .bool (dW w) = false := rfl
theorem ty_str_none  : isTy .str (.none ) = false := rfl
theorem ty_str_bool (b : Bool) : isTy .str (.bool b) = false := rfl
theorem ty_str_int (b : Int) : isTy .str (.int b) = false := rfl
theorem ty_str_str (b : Str) : isTy .str (.str b) = true := rfl
theorem ty_str_list (b : List D) : isTy .str (.list b) = false := rfl
theorem ty_str_tuple (b : List D) : isTy .str (.tuple b) = false := rfl
theorem ty_str_dict (b : List (D × D)) : isTy .str (.dict b) = false := rfl
theorem ty_str_W (w : Wd) : isTy .str (dW w) = true := rfl
theorem ty_tuple_none  : isTy .tuple (.none ) = false := rfl
theorem ty_tuple_bool (b : Bool) : isTy .tuple (.bool b) = false := rfl
theorem ty_tuple_int (b : Int) : isTy .tuple (.int b) = false := rfl
theorem ty_tuple_str (b : Str) : isTy .tuple (.str b) = false := rfl
theorem ty_tuple_list (b : List D) : isTy .tuple (.list b) = false := rfl
theorem ty_tuple_tuple (b : List D) : isTy .tuple (.tuple b) = true := rfl
theorem ty_tuple_dict (b : List (D × D)) : isTy .tuple (.dict b) = false := rfl
theorem ty_tuple_W (w : Wd) : isTy .tuple (dW w) = false := rfl
theorem ty_list_none  : isTy .list (.none ) = false := rfl
theorem ty_list_bool (b : Bool) : isTy .list (.bool b) = false := rfl
theorem ty_list_int (b : Int) : isTy .list (.int b) = false := rfl
theorem ty_list_str (b : Str) : isTy .list (.str b) = false := rfl
theorem ty_list_list (b : List D) : isTy .list (.list b) = true := rfl
theorem ty_list_tuple (b : List D) : isTy .list (.tuple b) = false := rfl
theorem ty_list_dict (b : List (D × D)) : isTy .list (.dict b) = false := rfl
theorem ty_list_W (w : Wd) : isTy .list (dW w) = false := rfl
theorem ty_dict_none  : isTy .dict (.none ) = false := rfl
theorem ty_dict_bool (b : Bool) : isTy .dict (.bool b) = false := rfl
theorem ty_dict_int (b : Int) : isTy .dict (.int b) = false := rfl
theorem ty_dict_str (b : Str) : isTy .dict (.str b) = false := rfl
theorem ty_dict_list (b : List D) : isTy .dict (.list b) = false := rfl
theorem ty_dict_tuple (b : List D) : isTy .dict (.tuple b) = false := rfl
theorem ty_dict_dict (b : List (D × D)) : isTy .dict (.dict b) = true := rfl
theorem ty_dict_W (w : Wd) : isTy .dict (dW w) = false := rfl
theorem ev_call_0 (m : FM) (xs : List D) (β : D) (ω : Om) : callM m [0] xs (some β :: ω) = CB (m xs [some β]) [0] (some β :: ω) := ev_call1 m 0 xs _ β rfl
theorem int_int (i : Int) : intD (.int i) = some (.int i) := rfl
theorem put_l0 (a v : D) (r : List D) : gPut (.list (a :: r)) [v, .int 0] = some (.list (v :: r)) := by
  unfold gPut; simp only; rw [ixN_pos (by decide) (by simp)]; rfl
theorem put_l1 (a b v : D) (r : List D) : gPut (.list (a :: b :: r)) [v, .int 1] = some (.list (a :: v :: r)) := by
  unfold gPut; simp only; rw [ixN_pos (by decide) (by simp)]; rfl
theorem put_l2 (a b c v : D) (r : List D) : gPut (.list (a :: b :: c :: r)) [v, .int 2] = some (.list (a :: b :: v :: r)) := by
  unfold gPut; simp only; rw [ixN_pos (by decide) (by simp)]; rfl
theorem put_l3 (a b c d v : D) (r : List D) : gPut (.list (a :: b :: c :: d :: r)) [v, .int 3] = some (.list (a :: b :: c :: v :: r)) := by
  unfold gPut; simp only; rw [ixN_pos (by decide) (by simp)]; rfl
theorem small64_of {i : Int} (h0 : 0 ≤ i) (h : i < 18446744073709551616) : small64 i = true := by
  unfold small64
  rw [Bool.and_eq_true, decide_eq_true_iff, decide_eq_true_iff]
  have : (2 : Int) ^ 64 = 18446744073709551616 := by decide
  omega
theorem fmod_range {i n : Int} (h : 0 < n) : 0 ≤ i.fmod n ∧ i.fmod n < n := by
  rw [Int.fmod_eq_emod_of_nonneg _ (by omega)]
  exact ⟨Int.emod_nonneg _ (by omega), Int.emod_lt_of_pos _ h⟩
theorem append_lst {xs : List D} (y : D) (h : xs.length < 16777216) : gAppend (.list xs) [y] = some (.list (xs ++ [y])) := by
  unfold gAppend; simp only; rw [if_pos (by rw [LIM_def]; exact h)]
theorem extend_lst {xs ys : List D} (h : xs.length + ys.length ≤ 16777216) : gExtend (.list xs) [.list ys] = some (.list (xs ++ ys)) := by
  unfold gExtend; simp only; rw [if_pos (by rw [LIM_def]; exact h)]
theorem insert_lst {xs : List D} {i : Int} (y : D) (h : xs.length < 16777216) (h0 : 0 ≤ i) (h1 : i ≤ 16777216) : gInsert (.list xs) [.int i, y] = some (.list (xs.take i.toNat ++ y :: xs.drop i.toNat)) := by
  unfold gInsert
  simp only
  rw [if_pos]
  have : (2 : Int) ^ 63 = 9223372036854775808 := by decide
  simp only [Bool.and_eq_true, decide_eq_true_eq]
  refine ⟨⟨?_, h0⟩, by omega⟩
  rw [LIM_def]; exact h
/-! join -/
theorem ev_2k (k : D → Option D) (g : D → D → Option D) (a b : EE) (ρ : Env) (ω : Om) : e2k k g a b ρ ω = RB (a ρ ω) fun x ω => RB (LF (k x) ω) fun x ω => RB (b ρ ω) fun y => LF (g x y) := by
  unfold e2k; rw [ev_bind]; refine RB_ext fun x ω => ?_; rw [ev_bind, ev_lift]; refine RB_ext fun x ω => ?_; rw [ev_bind]; refine RB_ext fun y ω => ?_; rw [ev_lift]
theorem ev_LW (w : WW) (ρ : Env) (ω : Om) : eLW w ρ ω = RB (w ρ ω) fun xs => M.pure (.list xs) := by
  unfold eLW; rw [ev_bind]
theorem ev_SlO (j : Nat) (lo hi : Option EE) (ρ : Env) (ω : Om) : eSlO j lo hi ρ ω = RB (eOwn j ρ ω) fun _ ω => RB (part lo ρ ω) fun l ω => RB (part hi ρ ω) fun h ω => RB (eOwn j ρ ω) fun x => LF (slD x l h) := by
  unfold eSlO; rw [ev_bind]; refine RB_ext fun x ω => ?_; rw [ev_bind]; refine RB_ext fun x ω => ?_; rw [ev_bind]; refine RB_ext fun x ω => ?_; rw [ev_bind]; refine RB_ext fun x ω => ?_; rw [ev_lift]
theorem asStr_W (w : Wd) : asStr (dW w) = some (dW w) := rfl
theorem asList_l (xs : List D) : asList (.list xs) = some (.list xs) := rfl
theorem str_nil : (PyData.str (Str.ofString "")) = dW [] := congrArg PyData.str (by decide +kernel : Str.ofString "" = ⟨[].toArray⟩)
theorem join_W (ws : List Wd) (h : (ws.flatten).length ≤ 16777216) : joinD (dW []) (.list (ws.map dW)) = some (dW ws.flatten) := by
  have e1 : (ws.map dW).mapM strOf = some (ws.map fun w => (⟨w.toArray⟩ : Str)) := by
    clear h
    induction ws with
    | nil => rfl
    | cons w ws ih => rw [List.map_cons, List.mapM_cons, ih]; rfl
  have e2 : Txt.join (⟨[].toArray⟩ : Str) (ws.map fun w => (⟨w.toArray⟩ : Str)) = ⟨ws.flatten.toArray⟩ := by
    have hf : ∀ (ws : List Wd) (acc : Array Nat), (ws.map fun w => (⟨w.toArray⟩ : Str)).foldl (fun acc p => acc ++ (⟨[].toArray⟩ : Str).cps ++ p.cps) acc = acc ++ ws.flatten.toArray := by
      intro ws
      induction ws with
      | nil => intro acc; simp
      | cons w ws ih =>
        intro acc
        rw [List.map_cons, List.foldl_cons, ih]
        simp [Array.append_assoc]
    cases ws with
    | nil => rfl
    | cons w ws =>
      show (⟨_⟩ : Str) = _
      congr 1
      rw [List.map_cons]
      show (ws.map fun w => (⟨w.toArray⟩ : Str)).foldl _ w.toArray = _
      rw [hf]
      simp
  have e3 : (((ws.map fun w => (⟨w.toArray⟩ : Str)).map (·.length)).sum) = ws.flatten.length := by
    clear h e1 e2
    induction ws with
    | nil => rfl
    | cons w ws ih => simp [Str.length] at ih ⊢; exact ih
  unfold joinD dW
  simp only [seqD]
  have e1' : (ws.map dW).mapM strOf = some (ws.map fun w => (⟨w.toArray⟩ : Str)) := e1
  unfold dW at e1'
  simp only [e1']
  rw [if_pos, e2]
  rw [e2, e3]
  simp only [Bool.and_eq_true, decide_eq_true_eq]
  refine ⟨?_, ?_⟩
  · rw [LIM_def]; simpa [Str.length] using h
  · rw [LIM_def]; simpa [Str.length] using h
/-! whiles -/
theorem whN_succ {c : TT} {b : SS} : ∀ (n : Nat) {ρ : Env} {ω : Om} {r : SR}, whN c b n ρ ω = some r → whN c b (n + 1) ρ ω = some r
  | 0, _, _, _, h => by simp [whN] at h
  | n + 1, ρ, ω, r, h => by
    unfold whN at h ⊢
    cases q : c ρ ω with
    | bad => rw [q] at h; exact h
    | ex x ω' => rw [q] at h; exact h
    | ok k ω' =>
      rw [q] at h
      cases k with
      | false => exact h
      | true =>
        simp only at h ⊢
        cases q2 : b ρ ω' with
        | nx ρ2 ω2 => rw [q2] at h; exact whN_succ n h
        | ct ρ2 ω2 => rw [q2] at h; exact whN_succ n h
        | _ => rw [q2] at h; exact h
theorem whN_le {c : TT} {b : SS} {n m : Nat} {ρ : Env} {ω : Om} {r : SR} (h : whN c b n ρ ω = some r) (hm : n ≤ m) : whN c b m ρ ω = some r := by
  induction hm with
  | refl => exact h
  | step _ ih => exact whN_succ _ ih
/-- a while ends so -/
def Ends (c : TT) (b : SS) (ρ : Env) (ω : Om) (r : SR) : Prop := ∃ n, whN c b n ρ ω = some r
theorem Ends.eq {c : TT} {b : SS} {ρ : Env} {ω : Om} {r : SR} (h : Ends c b ρ ω r) : sWhile c b ρ ω = r := by
  have hx : ∃ n r, whN c b n ρ ω = some r := by obtain ⟨n, e⟩ := h; exact ⟨n, r, e⟩
  unfold sWhile
  rw [dif_pos hx]
  have e1 := hx.choose_spec.choose_spec
  obtain ⟨n, e2⟩ := h
  have h1 := whN_le e1 (Nat.le_max_left hx.choose n)
  have h2 := whN_le e2 (Nat.le_max_right hx.choose n)
  rw [h1] at h2
  injection h2
theorem Ends.stop {c : TT} {b : SS} {ρ : Env} {ω ω' : Om} (h : c ρ ω = .ok false ω') : Ends c b ρ ω (.nx ρ ω') := ⟨1, by unfold whN; rw [h]⟩
theorem Ends.go {c : TT} {b : SS} {ρ ρ2 : Env} {ω ω' ω2 : Om} {r : SR} (h : c ρ ω = .ok true ω') (hb : b ρ ω' = .nx ρ2 ω2) (t : Ends c b ρ2 ω2 r) : Ends c b ρ ω r := by
  obtain ⟨n, e⟩ := t
  exact ⟨n + 1, by unfold whN; rw [h]; simp only; rw [hb]; exact e⟩
theorem Ends.ret {c : TT} {b : SS} {ρ : Env} {ω ω' ω2 : Om} {d : D} (h : c ρ ω = .ok true ω') (hb : b ρ ω' = .rt d ω2) : Ends c b ρ ω (.rt d ω2) := ⟨1, by unfold whN; rw [h]; simp only; rw [hb]⟩
/-! lesser words -/
theorem wless_total {a b : Wd} (h : a ≠ b) : wless a b = true ∨ wless b a = true := by
  unfold wless
  simp only [Bool.or_eq_true, Bool.and_eq_true, decide_eq_true_eq]
  by_cases q : a.length = b.length
  · by_cases l : a < b
    · exact .inl (.inr ⟨q, l⟩)
    · refine .inr (.inr ⟨q.symm, ?_⟩)
      by_cases l2 : b < a
      · exact l2
      · exact absurd (List.le_antisymm (List.not_lt.mp l2) (List.not_lt.mp l)) h
  · omega
theorem wless_asymm {a b : Wd} (h : wless a b = true) : wless b a = false := by
  unfold wless at h ⊢
  simp only [Bool.or_eq_true, Bool.and_eq_true, decide_eq_true_eq] at h
  rw [Bool.or_eq_false_iff, Bool.and_eq_false_iff]
  simp only [decide_eq_false_iff_not]
  rcases h with h | ⟨h1, h2⟩
  · exact ⟨by omega, .inl (by omega)⟩
  · refine ⟨by omega, .inr fun h3 => ?_⟩
    exact List.lt_irrefl _ (List.lt_trans h2 h3)
theorem wless_irrefl (a : Wd) : wless a a = false := by
  unfold wless; simp
/-! sizes -/
mutual
def dsz : D → Nat
  | .list xs => dszs xs + 1
  | .tuple xs => dszs xs + 1
  | _ => 1
def dszs : List D → Nat
  | [] => 0
  | x :: xs => dsz x + dszs xs
end
theorem dszs_app : ∀ (xs ys : List D), dszs (xs ++ ys) = dszs xs + dszs ys
  | [], ys => by simp [dszs]
  | x :: xs, ys => by rw [List.cons_append, dszs, dszs, dszs_app xs ys]; omega
theorem dsz_pos (d : D) : 0 < dsz d := by cases d <;> simp [dsz]
theorem dszs_map {τ : Type} {f : τ → D} {n : Nat} : ∀ {xs : List τ}, (∀ x ∈ xs, dsz (f x) ≤ n) → dszs (xs.map f) ≤ xs.length * n
  | [], _ => by simp [dszs]
  | x :: xs, h => by
    have h1 := dszs_map (xs := xs) fun y hy => h y (List.mem_cons_of_mem _ hy)
    have h2 := h x List.mem_cons_self
    rw [List.map_cons, dszs, List.length_cons, Nat.add_mul]; omega
end Wc

set_option Elab.async false
set_option linter.all false
set_option maxRecDepth 100000
set_option maxHeartbeats 1000000
/-! Pp: papers, plainly. -/
namespace Pp
open Wc
abbrev Lw := Wd × Wd
abbrev Use := Int × Int × Int × Int
abbrev Line := Wd × Wd × List Use
def dLw (l : Lw) : D := .tuple [dW l.1, dW l.2]
def dU (u : Use) : D := .tuple [.int u.1, .int u.2.1, .int u.2.2.1, .int u.2.2.2]
def dR (r : List Use) : D := .tuple (r.map dU)
def dLn (l : Line) : D := .tuple [dW l.1, dW l.2.1, dR l.2.2]
def dLs (ls : List Line) : D := .tuple (ls.map dLn)
theorem dLn_0 (l : Line) : idxD (dLn l) (.int 0) = some (dW l.1) := rfl
theorem dLn_1 (l : Line) : idxD (dLn l) (.int 1) = some (dW l.2.1) := rfl
theorem dLn_2 (l : Line) : idxD (dLn l) (.int 2) = some (dR l.2.2) := rfl
def pr (l : Line) : Lw := (l.1, l.2.1)
/-- the couple that a use names -/
def cpl (laws pairs : List Lw) (k i : Int) : Option Lw := if 0 ≤ i then (if k = 0 then laws[i.toNat]? else if k = 1 then pairs[i.toNat]? else none) else none
def side (c : Lw) (y : Int) : Wd := if y = 0 then c.1 else c.2
/-- one use -/
inductive U1 (laws pairs : List Lw) : Wd → Use → Wd → Prop
  | mk (a b : Wd) (k i y : Int) (c : Lw) (h : cpl laws pairs k i = some c) (hy : y = 0 ∨ y = 1) : U1 laws pairs (a ++ side c y ++ b) (k, i, a.length, y) (a ++ side c (1 - y) ++ b)
/-- a row, through words of at most M letters -/
inductive Wk (M : Nat) (laws pairs : List Lw) : Wd → List Use → Wd → Prop
  | nil {w : Wd} (h : w.length ≤ M) : Wk M laws pairs w [] w
  | cons {w w1 w2 : Wd} {u : Use} {r : List Use} (h : w.length ≤ M) (s : U1 laws pairs w u w1) (t : Wk M laws pairs w1 r w2) : Wk M laws pairs w (u :: r) w2
section
variable {M : Nat} {laws pairs : List Lw} {w w1 w2 : Wd} {r s : List Use} {u : Use}
theorem Wk.len (h : Wk M laws pairs w r w1) : w.length ≤ M := by cases h <;> assumption
theorem Wk.len2 (h : Wk M laws pairs w r w1) : w1.length ≤ M := by
  induction h with
  | nil h => exact h
  | cons _ _ _ ih => exact ih
theorem Wk.app (h : Wk M laws pairs w r w1) (g : Wk M laws pairs w1 s w2) : Wk M laws pairs w (r ++ s) w2 := by
  induction h with
  | nil _ => exact g
  | cons h s _ ih => exact .cons h s (ih g)
theorem Wk.one (h : w.length ≤ M) (s : U1 laws pairs w u w1) (h1 : w1.length ≤ M) : Wk M laws pairs w [u] w1 := .cons h s (.nil h1)
theorem Wk.mono {N : Nat} (h : Wk M laws pairs w r w1) (hn : M ≤ N) : Wk N laws pairs w r w1 := by
  induction h with
  | nil h => exact .nil (by omega)
  | cons h s _ ih => exact .cons (by omega) s ih
/-- a use, turned -/
def rvU (u : Use) : Use := (u.1, u.2.1, u.2.2.1, 1 - u.2.2.2)
def back (r : List Use) : List Use := (r.reverse).map rvU
theorem U1.rv (h : U1 laws pairs w u w1) : U1 laws pairs w1 (rvU u) w := by
  cases h with
  | mk a b k i y c h hy =>
    have := U1.mk (laws := laws) (pairs := pairs) a b k i (1 - y) c h (by omega)
    rw [show 1 - (1 - y) = y by omega] at this
    exact this
theorem Wk.rv (h : Wk M laws pairs w r w1) : Wk M laws pairs w1 (back r) w := by
  induction h with
  | nil h => exact .nil h
  | @cons w w1 w2 u r h s t ih =>
    unfold back
    rw [List.reverse_cons, List.map_append]
    exact ih.app (.one t.len s.rv h)
theorem back_back (r : List Use) : back (back r) = r := by
  unfold back
  rw [← List.map_reverse, List.reverse_reverse, List.map_map]
  have : rvU ∘ rvU = id := by
    funext u
    obtain ⟨k, i, p, y⟩ := u
    simp only [rvU, Function.comp, id]
    congr; omega
  rw [this, List.map_id]
/-- in the midst of words -/
def shU (n : Int) (u : Use) : Use := (u.1, u.2.1, u.2.2.1 + n, u.2.2.2)
theorem U1.placed (x y : Wd) (h : U1 laws pairs w u w1) : U1 laws pairs (x ++ w ++ y) (shU x.length u) (x ++ w1 ++ y) := by
  cases h with
  | mk a b k i e c h hy =>
    have := U1.mk (laws := laws) (pairs := pairs) (x ++ a) (b ++ y) k i e c h hy
    simp only [List.append_assoc, List.length_append] at this ⊢
    unfold shU
    simp only
    rw [show (a.length : Int) + x.length = ((x.length + a.length : Nat) : Int) by omega]
    exact this
theorem Wk.placed (x y : Wd) (h : Wk M laws pairs w r w1) : Wk (M + x.length + y.length) laws pairs (x ++ w ++ y) (r.map (shU x.length)) (x ++ w1 ++ y) := by
  induction h with
  | nil h => exact .nil (by simp only [List.length_append]; omega)
  | cons h s _ ih => exact .cons (by simp only [List.length_append]; omega) (s.placed x y) ih
/-- lines that stand elsewhere -/
theorem U1.re {f : Int → Int} {pairs' : List Lw} (h : U1 laws pairs w u w1) (hf : ∀ c, cpl laws pairs u.1 u.2.1 = some c → cpl laws pairs' u.1 (if u.1 = 1 then f u.2.1 else u.2.1) = some c) : U1 laws pairs' w (u.1, (if u.1 = 1 then f u.2.1 else u.2.1), u.2.2.1, u.2.2.2) w1 := by
  cases h with
  | mk a b k i y c h hy => exact .mk a b k _ y c (hf c h) hy
def reU (f : Int → Int) (u : Use) : Use := (u.1, (if u.1 = 1 then f u.2.1 else u.2.1), u.2.2.1, u.2.2.2)
theorem Wk.re {f : Int → Int} {pairs' : List Lw} (h : Wk M laws pairs w r w1) (hf : ∀ u ∈ r, ∀ c, cpl laws pairs u.1 u.2.1 = some c → cpl laws pairs' u.1 (if u.1 = 1 then f u.2.1 else u.2.1) = some c) : Wk M laws pairs' w (r.map (reU f)) w1 := by
  induction h with
  | nil h => exact .nil h
  | cons h s _ ih => exact .cons h (s.re (hf _ List.mem_cons_self)) (ih fun u hu => hf u (List.mem_cons_of_mem _ hu))
/-- with more lines -/
theorem cpl_more {more : List Lw} {k i : Int} {c : Lw} (h : cpl laws pairs k i = some c) : cpl laws (pairs ++ more) k i = some c := by
  unfold cpl at h ⊢
  split at h
  · rename_i h0
    rw [if_pos h0]
    split at h
    · rename_i hk; rw [if_pos hk]; exact h
    · rename_i hk
      rw [if_neg hk]
      split at h
      · rename_i hk1
        rw [if_pos hk1, List.getElem?_append_left (List.getElem?_eq_some_iff.mp h).1]; exact h
      · cases h
  · cases h
theorem Wk.more {more : List Lw} (h : Wk M laws pairs w r w1) : Wk M laws (pairs ++ more) w r w1 := by
  induction h with
  | nil h => exact .nil h
  | cons h s _ ih =>
    refine .cons h ?_ ih
    cases s with
    | mk a b k i y c hc hy => exact .mk a b k i y c (cpl_more hc) hy
/-- the lines that a walk names are there -/
theorem Wk.ix (h : Wk M laws pairs w r w1) : ∀ u ∈ r, u.1 = 1 → 0 ≤ u.2.1 ∧ u.2.1.toNat < pairs.length := by
  induction h with
  | nil _ => intro u hu; cases hu
  | cons h s _ ih =>
    intro u hu
    rcases List.mem_cons.mp hu with rfl | hu
    · cases s with
      | mk a b k i y c h hy =>
        intro hk
        simp only at hk
        subst hk
        unfold cpl at h
        split at h
        · rename_i h0
          rw [if_neg (by decide), if_pos rfl] at h
          exact ⟨h0, (List.getElem?_eq_some_iff.mp h).1⟩
        · cases h
    · exact ih u hu
end
/-! ### lines, each shown by those ahead -/
def VL (M : Nat) (laws : List Lw) (ls : List Line) : Prop := ∀ (i : Nat) (l : Line), ls[i]? = some l → wless l.2.1 l.1 = true ∧ Wk M laws ((ls.take i).map pr) l.1 l.2.2 l.2.1
section
variable {M : Nat} {laws : List Lw} {ls ls2 : List Line} {l : Line}
theorem VL.nil : VL M laws [] := by intro i l h; simp at h
theorem VL.snoc (h : VL M laws ls) (hl : wless l.2.1 l.1 = true) (hw : Wk M laws (ls.map pr) l.1 l.2.2 l.2.1) : VL M laws (ls ++ [l]) := by
  intro i l' hi
  by_cases q : i < ls.length
  · rw [List.getElem?_append_left q] at hi
    rw [List.take_append_of_le_length (by omega)]
    exact h i l' hi
  · rw [List.getElem?_append_right (by omega)] at hi
    have : i = ls.length := by
      have := (List.getElem?_eq_some_iff.mp hi).1
      simp at this; omega
    subst this
    simp at hi
    subst hi
    rw [List.take_left' rfl]
    exact ⟨hl, hw⟩
theorem VL.mono {N : Nat} (h : VL M laws ls) (hn : M ≤ N) : VL N laws ls := fun i l hi => ⟨(h i l hi).1, (h i l hi).2.mono hn⟩
/-- the index of a line, further on -/
def fuU (n : Int) (u : Use) : Use := reU (fun i => i + n) u
def fuL (n : Int) (l : Line) : Line := (l.1, l.2.1, l.2.2.map (fuU n))
theorem map_pr_fu (n : Int) (ls : List Line) : (ls.map (fuL n)).map pr = ls.map pr := by
  rw [List.map_map]; rfl
theorem cpl_fu {pre pairs : List Lw} {k i : Int} {c : Lw} (h : cpl laws pairs k i = some c) : cpl laws (pre ++ pairs) k (if k = 1 then i + pre.length else i) = some c := by
  unfold cpl at h ⊢
  split at h
  · rename_i h0
    rw [if_pos (by split <;> omega)]
    split at h
    · rename_i hk; subst hk; rw [if_pos rfl, if_neg (by decide)]; exact h
    · rename_i hk
      split at h
      · rename_i hk1
        rw [if_neg hk, if_pos hk1, if_pos hk1, List.getElem?_append_right (by omega)]
        rw [show (i + (pre.length : Int)).toNat - pre.length = i.toNat by omega]
        exact h
      · cases h
  · cases h
theorem Wk.fu {pre pairs : List Lw} {w w1 : Wd} {r : List Use} (h : Wk M laws pairs w r w1) : Wk M laws (pre ++ pairs) w (r.map (fuU pre.length)) w1 := h.re (f := fun i => i + pre.length) fun u hu c hc => cpl_fu hc
theorem VL.join (h : VL M laws ls) (g : VL M laws ls2) : VL M laws (ls ++ ls2.map (fuL ls.length)) := by
  intro i l hi
  by_cases q : i < ls.length
  · rw [List.getElem?_append_left q] at hi
    rw [List.take_append_of_le_length (by omega)]
    exact h i l hi
  · rw [List.getElem?_append_right (by omega), List.getElem?_map] at hi
    cases e : ls2[i - ls.length]? with
    | none => rw [e] at hi; cases hi
    | some l2 =>
      rw [e] at hi
      simp at hi
      subst hi
      obtain ⟨h1, h2⟩ := g _ _ e
      refine ⟨h1, ?_⟩
      rw [List.take_append, List.take_of_length_le (by omega), ← List.map_take, List.map_append, map_pr_fu]
      have := h2.fu (pre := ls.map pr)
      rw [List.length_map] at this
      exact this
end
/-! ### the lines that a row needs -/
inductive Nd (ls : List Line) (row : List Use) : Nat → Prop
  | base {u : Use} (h : u ∈ row) (hk : u.1 = 1) (h0 : 0 ≤ u.2.1) : Nd ls row u.2.1.toNat
  | step {j : Nat} {l : Line} {u : Use} (n : Nd ls row j) (hl : ls[j]? = some l) (h : u ∈ l.2.2) (hk : u.1 = 1) (h0 : 0 ≤ u.2.1) : Nd ls row u.2.1.toNat
/-- an ascending list of just those -/
structure Kept (ls : List Line) (row : List Use) (ks : List Nat) : Prop where
  asc : ks.Pairwise (· < ·)
  mem : ∀ i, i ∈ ks ↔ Nd ls row i
theorem asc_unique : ∀ {ks js : List Nat}, ks.Pairwise (· < ·) → js.Pairwise (· < ·) → (∀ i, i ∈ ks ↔ i ∈ js) → ks = js
  | [], [], _, _, _ => rfl
  | [], j :: js, _, _, h => absurd ((h j).mpr List.mem_cons_self) (by simp)
  | k :: ks, [], _, _, h => absurd ((h k).mp List.mem_cons_self) (by simp)
  | k :: ks, j :: js, a, b, h => by
    rw [List.pairwise_cons] at a b
    have e : k = j := by
      rcases List.mem_cons.mp ((h k).mp List.mem_cons_self) with e | e
      · exact e
      · rcases List.mem_cons.mp ((h j).mpr List.mem_cons_self) with e2 | e2
        · exact e2.symm
        · have := a.1 j e2; have := b.1 k e; omega
    subst e
    rw [asc_unique a.2 b.2 fun i => ?_]
    constructor
    · intro hi
      rcases List.mem_cons.mp ((h i).mp (List.mem_cons_of_mem _ hi)) with e | e
      · subst e; have := a.1 i hi; omega
      · exact e
    · intro hi
      rcases List.mem_cons.mp ((h i).mpr (List.mem_cons_of_mem _ hi)) with e | e
      · subst e; have := b.1 i hi; omega
      · exact e
theorem Kept.unique {ls : List Line} {row : List Use} {ks js : List Nat} (h : Kept ls row ks) (g : Kept ls row js) : ks = js := asc_unique h.asc g.asc fun i => (h.mem i).trans (g.mem i).symm
/-- the new index of a line -/
def nix (ks : List Nat) (i : Int) : Int := (ks.idxOf i.toNat : Nat)
def lnL (ks : List Nat) (l : Line) : Line := (l.1, l.2.1, l.2.2.map (reU (nix ks)))
def lnLs (ls : List Line) (ks : List Nat) : List Line := (ks.filterMap fun k => ls[k]?).map (lnL ks)
section
variable {M : Nat} {laws : List Lw} {ls : List Line} {row : List Use} {ks : List Nat} {w w1 : Wd}
theorem filt_len (h : ∀ k ∈ ks, k < ls.length) : (ks.filterMap fun k => ls[k]?).length = ks.length := by
  induction ks with
  | nil => rfl
  | cons k ks ih =>
    have hk := h k List.mem_cons_self
    rw [List.filterMap_cons_some (List.getElem?_eq_getElem hk), List.length_cons, List.length_cons, ih fun j hj => h j (List.mem_cons_of_mem _ hj)]
theorem filt_get : ∀ {ks : List Nat} (h : ∀ k ∈ ks, k < ls.length) (j : Nat), (ks.filterMap fun k => ls[k]?)[j]? = (ks[j]?).bind fun k => ls[k]?
  | [], _, j => by simp
  | k :: ks, h, j => by
    have hk := h k List.mem_cons_self
    rw [List.filterMap_cons_some (List.getElem?_eq_getElem hk)]
    cases j with
    | zero => simp [hk]
    | succ j => simpa using filt_get (ks := ks) (fun j hj => h j (List.mem_cons_of_mem _ hj)) j
theorem filt_take : ∀ {ks : List Nat} (h : ∀ k ∈ ks, k < ls.length) (j : Nat), (ks.filterMap fun k => ls[k]?).take j = (ks.take j).filterMap fun k => ls[k]?
  | [], _, j => by simp
  | k :: ks, h, j => by
    have hk := h k List.mem_cons_self
    cases j with
    | zero => simp
    | succ j => rw [List.filterMap_cons_some (List.getElem?_eq_getElem hk), List.take_succ_cons, List.take_succ_cons, List.filterMap_cons_some (List.getElem?_eq_getElem hk), filt_take fun j hj => h j (List.mem_cons_of_mem _ hj)]
theorem nd_lt (h : VL M laws ls) (hw : Wk M laws (ls.map pr) w row w1) {i : Nat} (n : Nd ls row i) : i < ls.length := by
  cases n with
  | base h hk h0 => have := (hw.ix _ h hk).2; rwa [List.length_map] at this
  | step n hl hu hk h0 =>
    obtain ⟨_, h2⟩ := h _ _ hl
    have := (h2.ix _ hu hk).2
    rw [List.length_map, List.length_take] at this
    omega
/-- a couple by its new index -/
theorem cpl_nix {pairs pairs' : List Lw} (hp : ∀ i, i ∈ ks → pairs'[ks.idxOf i]? = pairs[i]?) {k i : Int} {c : Lw} (hk : k = 1 → i.toNat ∈ ks) (h : cpl laws pairs k i = some c) : cpl laws pairs' k (if k = 1 then nix ks i else i) = some c := by
  unfold cpl at h ⊢
  split at h
  · rename_i h0
    rw [if_pos (by split <;> first | omega | (unfold nix; omega))]
    split at h
    · rename_i hk; subst hk; rw [if_pos rfl, if_neg (by decide)]; exact h
    · rename_i hk2
      split at h
      · rename_i hk1
        rw [if_neg hk2, if_pos hk1, if_pos hk1]
        have := hp i.toNat (hk hk1)
        unfold nix
        rw [show ((ks.idxOf i.toNat : Nat) : Int).toNat = ks.idxOf i.toNat by omega, this]
        exact h
      · cases h
  · cases h
theorem idx_get {ks : List Nat} {i : Nat} (h : i ∈ ks) : ks[ks.idxOf i]? = some i := by
  have hl := List.idxOf_lt_length_of_mem h
  rw [List.getElem?_eq_getElem hl, List.getElem_idxOf hl]
theorem asc_nodup (h : ks.Pairwise (· < ·)) : ks.Nodup := h.imp fun h => Nat.ne_of_lt h
/-- below a kept one the new indexes are below its own -/
theorem idx_lt (h : ks.Pairwise (· < ·)) {j : Nat} {k i : Nat} (hj : ks[j]? = some k) (hi : i ∈ ks) (lt : i < k) : ks.idxOf i < j := by
  obtain ⟨n, hn⟩ := List.getElem?_of_mem hi
  have e : ks.idxOf i = n := by
    obtain ⟨hl, he⟩ := List.getElem?_eq_some_iff.mp hn
    rw [← he]
    exact List.Nodup.idxOf_getElem (asc_nodup h) n hl
  rw [e]
  by_cases q : n < j
  · exact q
  · exfalso
    obtain ⟨hl, he⟩ := List.getElem?_eq_some_iff.mp hn
    obtain ⟨hl2, he2⟩ := List.getElem?_eq_some_iff.mp hj
    rcases Nat.lt_or_eq_of_le (Nat.le_of_not_lt q) with q | q
    · have := (List.pairwise_iff_getElem.mp h) j n hl2 hl q
      omega
    · subst q; omega
theorem lnLs_len (h : ∀ k ∈ ks, k < ls.length) : (lnLs ls ks).length = ks.length := by
  unfold lnLs; rw [List.length_map, filt_len h]
theorem lnLs_get (h : ∀ k ∈ ks, k < ls.length) (j : Nat) : (lnLs ls ks)[j]? = (ks[j]?).bind fun k => (ls[k]?).map (lnL ks) := by
  unfold lnLs
  rw [List.getElem?_map, filt_get h]
  cases ks[j]? <;> rfl
theorem lean_walk (hv : VL M laws ls) (hw : Wk M laws (ls.map pr) w row w1) (K : Kept ls row ks) : Wk M laws ((lnLs ls ks).map pr) w (row.map (reU (nix ks))) w1 := by
  have hk : ∀ k ∈ ks, k < ls.length := fun k h => nd_lt hv hw ((K.mem k).mp h)
  refine hw.re fun u hu c hc => cpl_nix (fun i hi => ?_) (fun h1 => ?_) hc
  · rw [List.getElem?_map, lnLs_get hk, idx_get hi, List.getElem?_map]
    simp only [Option.bind_some]
    cases ls[i]? <;> rfl
  · exact (K.mem _).mpr (.base hu h1 (hw.ix u hu h1).1)
theorem lean_VL (hv : VL M laws ls) (hw : Wk M laws (ls.map pr) w row w1) (K : Kept ls row ks) : VL M laws (lnLs ls ks) := by
  have hk : ∀ k ∈ ks, k < ls.length := fun k h => nd_lt hv hw ((K.mem k).mp h)
  intro j l hj
  rw [lnLs_get hk] at hj
  cases e : ks[j]? with
  | none => rw [e] at hj; cases hj
  | some k =>
    rw [e] at hj
    simp only [Option.bind_some] at hj
    cases e2 : ls[k]? with
    | none => rw [e2] at hj; cases hj
    | some l0 =>
      rw [e2] at hj
      simp at hj
      subst hj
      obtain ⟨h1, h2⟩ := hv k l0 e2
      refine ⟨h1, ?_⟩
      refine h2.re fun u hu c hc => ?_
      have hix := h2.ix u hu
      by_cases q : u.1 = 1
      · obtain ⟨h0, hlt⟩ := hix q
        have hkk : k < ls.length := (List.getElem?_eq_some_iff.mp e2).1
        have hu' : u.2.1.toNat < k := by rw [List.length_map, List.length_take] at hlt; omega
        have hm : u.2.1.toNat ∈ ks := (K.mem _).mpr (.step ((K.mem k).mp (List.mem_of_getElem? e)) e2 hu q h0)
        have hlt2 := idx_lt K.asc e hm hu'
        have hul : u.2.1.toNat < ls.length := by omega
        have e5 : ((ks.idxOf u.2.1.toNat : Nat) : Int).toNat = ks.idxOf u.2.1.toNat := by omega
        rw [if_pos q]
        rw [q] at hc ⊢
        unfold cpl at hc ⊢
        rw [if_pos h0, if_neg (by decide), if_pos rfl, List.getElem?_map, List.getElem?_take, if_pos hu', List.getElem?_eq_getElem hul] at hc
        unfold nix
        rw [if_pos (by omega), if_neg (by decide), if_pos rfl, e5, List.getElem?_map, List.getElem?_take, if_pos hlt2, lnLs_get hk, idx_get hm]
        simp only [Option.bind_some]
        rw [List.getElem?_eq_getElem hul]
        exact hc
      · rw [if_neg q]
        unfold cpl at hc ⊢
        split at hc
        · rename_i h0
          rw [if_pos h0]
          split at hc
          · rename_i hk0; rw [if_pos hk0]; exact hc
          · cases hc
        · cases hc
theorem asc_len : ∀ {ks : List Nat} {lo n : Nat}, ks.Pairwise (· < ·) → (∀ k ∈ ks, lo ≤ k ∧ k < n) → ks.length ≤ n - lo
  | [], _, _, _, _ => by simp
  | k :: ks, lo, n, a, h => by
    rw [List.pairwise_cons] at a
    have h1 := h k List.mem_cons_self
    have := asc_len (lo := k + 1) (n := n) a.2 fun j hj => ⟨a.1 j hj, (h j (List.mem_cons_of_mem _ hj)).2⟩
    rw [List.length_cons]; omega
theorem lean_len (hv : VL M laws ls) (hw : Wk M laws (ls.map pr) w row w1) (K : Kept ls row ks) : (lnLs ls ks).length ≤ ls.length := by
  have hk : ∀ k ∈ ks, k < ls.length := fun k h => nd_lt hv hw ((K.mem k).mp h)
  rw [lnLs_len hk]
  have := asc_len (lo := 0) (n := ls.length) K.asc fun k h => ⟨Nat.zero_le _, hk k h⟩
  omega
theorem re_ix {u : Use} (h : u.1 = 1) : (reU (nix ks) u).2.1.toNat = ks.idxOf u.2.1.toNat := by
  unfold reU nix
  simp only
  rw [if_pos h]
  omega
/-- made lean again: nothing is left to be done -/
theorem lean_kept (hv : VL M laws ls) (hw : Wk M laws (ls.map pr) w row w1) (K : Kept ls row ks) : Kept (lnLs ls ks) (row.map (reU (nix ks))) (List.range ks.length) := by
  have hk : ∀ k ∈ ks, k < ls.length := fun k h => nd_lt hv hw ((K.mem k).mp h)
  refine ⟨List.pairwise_lt_range, fun i => ?_⟩
  rw [List.mem_range]
  constructor
  · intro hi
    have up : ∀ n, Nd ls row n → Nd (lnLs ls ks) (row.map (reU (nix ks))) (ks.idxOf n) := by
      intro n hn
      induction hn with
      | @base u h hk1 h0 =>
        have := Nd.base (ls := lnLs ls ks) (row := row.map (reU (nix ks))) (u := reU (nix ks) u) (List.mem_map_of_mem h) hk1 (by unfold reU nix; simp only; rw [if_pos hk1]; omega)
        rwa [re_ix hk1] at this
      | @step j l u n hl h hk1 h0 ih =>
        have hm : j ∈ ks := (K.mem j).mpr n
        have := Nd.step (ls := lnLs ls ks) (row := row.map (reU (nix ks))) (u := reU (nix ks) u) (l := lnL ks l) ih (by rw [lnLs_get hk, idx_get hm]; simp only [Option.bind_some]; rw [hl]; rfl) (by unfold lnL; exact List.mem_map_of_mem h) hk1 (by unfold reU nix; simp only; rw [if_pos hk1]; omega)
        rwa [re_ix hk1] at this
    have hn := up (ks[i]) ((K.mem _).mp (List.getElem_mem hi))
    rw [List.Nodup.idxOf_getElem (asc_nodup K.asc) i hi] at hn
    exact hn
  · intro hn
    have := nd_lt (lean_VL hv hw K) (lean_walk hv hw K) hn
    rwa [lnLs_len hk] at this
theorem reU_self {n : Nat} {u : Use} (h : u.1 = 1 → 0 ≤ u.2.1 ∧ u.2.1.toNat < n) : reU (nix (List.range n)) u = u := by
  obtain ⟨k, i, p, y⟩ := u
  unfold reU
  simp only
  split
  · rename_i hk
    obtain ⟨h0, hl⟩ := h hk
    simp only at h0 hl
    unfold nix
    have : (List.range n).idxOf i.toNat = i.toNat := by
      have hl' : i.toNat < (List.range n).length := by simpa using hl
      have := List.Nodup.idxOf_getElem List.nodup_range i.toNat hl'
      rwa [List.getElem_range] at this
    rw [this]
    congr; omega
  · rfl
theorem map_self {τ : Type} {f : τ → τ} : ∀ {xs : List τ}, (∀ x ∈ xs, f x = x) → xs.map f = xs
  | [], _ => rfl
  | x :: xs, h => by rw [List.map_cons, h x List.mem_cons_self, map_self fun y hy => h y (List.mem_cons_of_mem _ hy)]
theorem filt_range (ls : List Line) : (List.range ls.length).filterMap (fun k => ls[k]?) = ls := by
  apply List.ext_getElem?
  intro i
  rw [filt_get (fun k hk => List.mem_range.mp hk)]
  by_cases q : i < ls.length
  · rw [List.getElem?_range q]; rfl
  · rw [List.getElem?_eq_none (by simpa using q), List.getElem?_eq_none (by omega)]; rfl
/-- all of them kept -/
theorem lean_all (hv : VL M laws ls) (hw : Wk M laws (ls.map pr) w row w1) : lnLs ls (List.range ls.length) = ls ∧ row.map (reU (nix (List.range ls.length))) = row := by
  constructor
  · unfold lnLs
    rw [filt_range]
    refine map_self fun l hl => ?_
    obtain ⟨i, hi⟩ := List.getElem?_of_mem hl
    obtain ⟨_, h2⟩ := hv i l hi
    obtain ⟨a, b, r⟩ := l
    unfold lnL
    simp only
    rw [map_self fun u hu => reU_self fun h1 => ?_]
    obtain ⟨h3, h4⟩ := h2.ix u hu h1
    rw [List.length_map, List.length_take] at h4
    exact ⟨h3, by omega⟩
  · refine map_self fun u hu => reU_self fun h1 => ?_
    have := hw.ix u hu h1
    rwa [List.length_map] at this
end
end Pp

set_option Elab.async false
set_option linter.all false
set_option maxRecDepth 100000
set_option maxHeartbeats 4000000
namespace K00
open PySem PySem.Spec PyProof.Rows L2 Wc
noncomputable section
def xTl : List ((String × String) × Bool) := [(("NoName", "Refused"), false), (("Refused", "Refused"), true), (("Breaks", "Refused"), false), (("TooMany", "Refused"), false)]
def xT : XT := fun a b => xTl.lookup (a, b)
abbrev l__law_came : CameT := [("Refused", "refused", ["why"]), ("NoName", "name", ["name"]), ("Nothing", "nothing", []), ("Breaks", "breaks", ["index"]), ("TooMany", "many", ["what", "limit"])]
abbrev b_is_integer : SS :=
    (sRet (eAnd (e1 (isT [.int]) (eVar 0)) (eNot (e1 (isT [.bool]) (eVar 0)))))
def m_is_integer : FM := defM [false] 1 0 b_is_integer
abbrev b_is_within : SS :=
    (sRet (eAnd (eCall m_is_integer [.sh (eVar 0)]) (eT (tCh .le .le (eVar 1) (eVar 0) (eVar 2)))))
def m_is_within : FM := defM [false, false, false] 3 0 b_is_within
abbrev b_is_string : SS :=
    (sRet (e1 (isT [.str]) (eVar 0)))
def m_is_string : FM := defM [false] 1 0 b_is_string
abbrev b_is_tuple_of : SS :=
    (sRet (eAnd (e1 (isT [.tuple]) (eVar 0)) (e2 (cmpD .eq) (e1 lenD (eVar 0)) (eVar 1))))
def m_is_tuple_of : FM := defM [false, false] 2 0 b_is_tuple_of
abbrev b_is_word : SS :=
    (sRet (eAnd (eCall m_is_string [.sh (eVar 1)]) (eAnd (e2 (cmpD .le) (e1 lenD (eVar 1)) (eVar 2)) (e1 allD (eLc (wOf (eVar 1)) (.nm 3) Wc.tYes (e2 (cmpD .mem) (eVar 3) (eVar 0)) [3])))))
def m_is_word : FM := defM [false, false, false] 4 0 b_is_word
abbrev b_key : SS :=
    (sRet (eTup [.one (e1 lenD (eVar 0)), .one (eVar 0)]))
def m_key : FM := defM [false] 1 0 b_key
abbrev b_is_less : SS :=
    (sRet (e2 (cmpD .lt) (eCall m_key [.sh (eVar 0)]) (eCall m_key [.sh (eVar 1)])))
def m_is_less : FM := defM [false, false] 2 0 b_is_less
abbrev b_places_of : SS :=
    (sRet (e1 tupD (eLc (wRange (eC (.int 0)) (e2 (opD .add) (e2 (opD .sub) (e1 lenD (eVar 0)) (e1 lenD (eVar 1))) (eC (.int 1)))) (.nm 2) (Wc.tC .eq (eSl (eVar 0) (some (eVar 2)) (some (e2 (opD .add) (eVar 2) (e1 lenD (eVar 1))))) (eVar 1)) (eVar 2) [2])))
def m_places_of : FM := defM [false, false] 3 0 b_places_of
abbrev b_with_part : SS :=
    (sRet (e2 (opD .add) (e2 (opD .add) (eSl (eVar 0) none (some (eVar 1))) (eVar 3)) (eSl (eVar 0) (some (e2 (opD .add) (eVar 1) (eVar 2))) none)))
def m_with_part : FM := defM [false, false, false, false] 4 0 b_with_part
abbrev b_back_uses : SS :=
    (sRet (eLc (wOf (e1 revD (eVar 0))) (.tup [(.nm 1), (.nm 2), (.nm 3), (.nm 4)]) Wc.tYes (eTup [.one (eVar 1), .one (eVar 2), .one (eVar 3), .one (e2 (opD .sub) (eC (.int 1)) (eVar 4))]) [1, 2, 3, 4]))
def m_back_uses : FM := defM [false] 5 0 b_back_uses
abbrev b_couple_used : SS :=
    (sSeq (sIf (Wc.tOr (Wc.tNot (Wc.tB (eCall m_is_tuple_of [.sh (eVar 2), .sh (eC (.int 4))]))) (Wc.tOr (Wc.tNot (Wc.tB (eCall m_is_within [.sh (e2 idxD (eVar 2) (eC (.int 0))), .sh (eC (.int 0)), .sh (eC (.int 1))]))) (Wc.tNot (Wc.tB (eCall m_is_within [.sh (e2 idxD (eVar 2) (eC (.int 3))), .sh (eC (.int 0)), .sh (eC (.int 1))]))))) (sRet (eC .none)) sNil)
    (sSeq (sAsg (.nm 3) (eIf (Wc.tC .eq (e2 idxD (eVar 2) (eC (.int 0))) (eC (.int 0))) (e2 idxD (eVar 0) (eC (.int 2))) (eVar 1)))
    (sRet (eIf (Wc.tB (eCall m_is_within [.sh (e2 idxD (eVar 2) (eC (.int 1))), .sh (eC (.int 0)), .sh (e2 (opD .sub) (e1 lenD (eVar 3)) (eC (.int 1)))])) (eSl (e2 idxD (eVar 3) (e2 idxD (eVar 2) (eC (.int 1)))) none (some (eC (.int 2)))) (eC .none)))))
def m_couple_used : FM := defM [false, false, false] 4 0 b_couple_used
abbrev b_after_line_use : SS :=
    (sSeq (sAsg (.nm 4) (eCall m_couple_used [.sh (eVar 0), .sh (eVar 1), .sh (eVar 3)]))
    (sSeq (sIf (Wc.tC .isN (eVar 4) (eC .none)) sBad sNil)
    (sSeq (sPar2 (.sh 5 (e2 idxD (eVar 4) (e2 idxD (eVar 3) (eC (.int 3))))) (.sh 6 (e2 idxD (eVar 4) (e2 (opD .sub) (eC (.int 1)) (e2 idxD (eVar 3) (eC (.int 3)))))))
    (sSeq (sIf (Wc.tOr (Wc.tNot (Wc.tB (eCall m_is_within [.sh (e2 idxD (eVar 3) (eC (.int 2))), .sh (eC (.int 0)), .sh (e1 lenD (eVar 2))]))) (Wc.tC .nmem (e2 idxD (eVar 3) (eC (.int 2))) (eCall m_places_of [.sh (eVar 2), .sh (eVar 5)]))) sBad sNil)
    (sRet (eCall m_with_part [.sh (eVar 2), .sh (e2 idxD (eVar 3) (eC (.int 2))), .sh (e1 lenD (eVar 5)), .sh (eVar 6)]))))))
def m_after_line_use : FM := defM [false, false, false, false] 7 0 b_after_line_use
abbrev lb_after_row_0 : SS :=
    (sAsg (.nm 2) (eCall m_after_line_use [.sh (eVar 0), .sh (eVar 1), .sh (eVar 2), .sh (eVar 4)]))
abbrev b_after_row : SS :=
    (sSeq (sIf (Wc.tNot (Wc.tB (e1 (isT [.tuple]) (eVar 3)))) sBad sNil)
    (sSeq (sFor (.nm 4) (wOf (eVar 3)) lb_after_row_0)
    (sRet (eVar 2))))
def m_after_row : FM := defM [false, false, false, false] 5 0 b_after_row
abbrev b_does_lead : SS :=
    (sTryC xT (sRet (e2 (cmpD .eq) (eCall m_after_row [.sh (eVar 0), .sh (eVar 1), .sh (eVar 2), .sh (eVar 4)]) (eVar 3))) [("Refused", (.bool false))])
def m_does_lead : FM := defM [false, false, false, false, false] 5 0 b_does_lead
abbrev b_line_fault : SS :=
    (sSeq (sIf (Wc.tOr (Wc.tNot (Wc.tB (eCall m_is_tuple_of [.sh (eVar 2), .sh (eC (.int 3))]))) (Wc.tNot (Wc.tB (e1 allD (eLc (wOf (eSl (eVar 2) none (some (eC (.int 2))))) (.nm 3) Wc.tYes (eCall m_is_word [.sh (e2 idxD (eVar 0) (eC (.int 1))), .sh (eVar 3), .sh (eC (.int 200))]) [3]))))) (sRet (eC (.str "form"))) sNil)
    (sSeq (sIf (Wc.tNot (Wc.tB (eCall m_is_less [.sh (e2 idxD (eVar 2) (eC (.int 1))), .sh (e2 idxD (eVar 2) (eC (.int 0)))]))) (sRet (eC (.str "order"))) sNil)
    (sRet (eIf (Wc.tB (eCall m_does_lead [.sh (eVar 0), .sh (eVar 1), .sh (e2 idxD (eVar 2) (eC (.int 0))), .sh (e2 idxD (eVar 2) (eC (.int 1))), .sh (e2 idxD (eVar 2) (eC (.int 2)))])) (eC .none) (eC (.str "row"))))))
def m_line_fault : FM := defM [false, false, false] 4 0 b_line_fault
abbrev lb_lines_fault_0 : SS :=
    (sSeq (sAsg (.nm 4) (eCall m_line_fault [.sh (eVar 0), .sh (eSl (eVar 1) none (some (eVar 2))), .sh (eVar 3)]))
    (sIf (Wc.tC .notN (eVar 4) (eC .none)) (sRet (eTup [.one (eVar 2), .one (eVar 4)])) sNil))
abbrev b_lines_fault : SS :=
    (sSeq (sIf (Wc.tNot (Wc.tB (e1 (isT [.tuple]) (eVar 1)))) (sRet (eTup [.one (e1 negD (eC (.int 1))), .one (eC (.str "form"))])) sNil)
    (sSeq (sFor (.tup [(.nm 2), (.nm 3)]) (wEnum (eVar 1)) lb_lines_fault_0)
    (sRet (eC .none))))
def m_lines_fault : FM := defM [false, false] 5 0 b_lines_fault
abbrev b_are_lines : SS :=
    (sRet (e2 (cmpD .isN) (eCall m_lines_fault [.sh (eVar 0), .sh (eVar 1)]) (eC .none)))
def m_are_lines : FM := defM [false, false] 2 0 b_are_lines
abbrev b_shows_alike : SS :=
    (sRet (eAnd (eCall m_is_tuple_of [.sh (eVar 3), .sh (eC (.int 3))]) (eAnd (e2 (cmpD .eq) (e2 idxD (eVar 3) (eC (.int 0))) (eC (.str "alike"))) (eAnd (eCall m_are_lines [.sh (eVar 0), .sh (e2 idxD (eVar 3) (eC (.int 1)))]) (eCall m_does_lead [.sh (eVar 0), .sh (e2 idxD (eVar 3) (eC (.int 1))), .sh (eVar 1), .sh (eVar 2), .sh (e2 idxD (eVar 3) (eC (.int 2)))])))))
def m_shows_alike : FM := defM [false, false, false, false] 4 0 b_shows_alike
abbrev b_roomy : SS :=
    (sSeq (sIf (Wc.tC .gt (e1 lenD (eVar 0)) (eC (.int 400))) (sRaise "TooMany" ["what", "limit"] [.one (eC (.str "lines")), .one (eC (.int 400))]) sNil)
    (sSeq (sIf (Wc.tC .gt (e1 lenD (eVar 1)) (eC (.int 2000))) (sRaise "TooMany" ["what", "limit"] [.one (eC (.str "uses")), .one (eC (.int 2000))]) sNil)
    (sRet (eTup [.one (eC (.str "alike")), .one (e1 tupD (eVar 0)), .one (e1 tupD (eVar 1))]))))
def m_roomy : FM := defM [false, false] 2 0 b_roomy
abbrev b_turned_paper : SS :=
    (sRet (eTup [.one (eC (.str "alike")), .one (e2 idxD (eVar 0) (eC (.int 1))), .one (e1 tupD (eCall m_back_uses [.sh (e2 idxD (eVar 0) (eC (.int 2)))]))]))
def m_turned_paper : FM := defM [false] 1 0 b_turned_paper
abbrev b_further : SS :=
    (sRet (e1 tupD (eLc (wOf (eVar 0)) (.tup [(.nm 2), (.nm 3), (.nm 4), (.nm 5)]) Wc.tYes (eTup [.one (eVar 2), .one (eIf (Wc.tC .eq (eVar 2) (eC (.int 1))) (e2 (opD .add) (eVar 3) (eVar 1)) (eVar 3)), .one (eVar 4), .one (eVar 5)]) [2, 3, 4, 5])))
def m_further : FM := defM [false, false] 6 0 b_further
abbrev b_lines_further : SS :=
    (sRet (e1 tupD (eLc (wOf (eVar 0)) (.tup [(.nm 2), (.nm 3), (.nm 4)]) Wc.tYes (eTup [.one (eVar 2), .one (eVar 3), .one (eCall m_further [.sh (eVar 4), .sh (eVar 1)])]) [2, 3, 4])))
def m_lines_further : FM := defM [false, false] 5 0 b_lines_further
abbrev b_joined_papers : SS :=
    (sSeq (sAsg (.nm 2) (e1 lenD (e2 idxD (eVar 0) (eC (.int 1)))))
    (sRet (eCall m_roomy [.sh (eTup [.star (e2 idxD (eVar 0) (eC (.int 1))), .star (eCall m_lines_further [.sh (e2 idxD (eVar 1) (eC (.int 1))), .sh (eVar 2)])]), .sh (eTup [.star (e2 idxD (eVar 0) (eC (.int 2))), .star (eCall m_further [.sh (e2 idxD (eVar 1) (eC (.int 2))), .sh (eVar 2)])])])))
def m_joined_papers : FM := defM [false, false] 3 0 b_joined_papers
abbrev b_placed_paper : SS :=
    (sSeq (sAsg (.nm 2) (eLc (wOf (e2 idxD (eVar 0) (eC (.int 2)))) (.tup [(.nm 3), (.nm 4), (.nm 5), (.nm 6)]) Wc.tYes (eTup [.one (eVar 3), .one (eVar 4), .one (e2 (opD .add) (eVar 5) (e1 lenD (eVar 1))), .one (eVar 6)]) [3, 4, 5, 6]))
    (sRet (eTup [.one (eC (.str "alike")), .one (e2 idxD (eVar 0) (eC (.int 1))), .one (e1 tupD (eVar 2))])))
def m_placed_paper : FM := defM [false, false] 7 0 b_placed_paper
abbrev b_lines_in : SS :=
    (sRet (eLc (wOf (eVar 0)) (.tup [(.nm 1), (.nm 2), (.nm 3), (.nm 4)]) (Wc.tC .eq (eVar 1) (eC (.int 1))) (eVar 2) [1, 2, 3, 4]))
def m_lines_in : FM := defM [false] 5 0 b_lines_in
abbrev lb_needed_lines_0 : SS :=
    (sPut 0 (eC (.bool true)) (eVar 3))
abbrev lb_needed_lines_1 : SS :=
    (sPut 0 (eC (.bool true)) (eVar 3))
abbrev lb_needed_lines_2 : SS :=
    (sIf (Wc.tC .mem (eVar 4) (eOwn 0)) (sFor (.nm 3) (wOf (eCall m_lines_in [.sh (e2 idxD (e2 idxD (eVar 0) (eVar 4)) (eC (.int 2)))])) lb_needed_lines_1) sNil)
abbrev b_needed_lines : SS :=
    (sSeq (sOwn 0 (eC (.dict [])))
    (sSeq (sFor (.nm 3) (wOf (eCall m_lines_in [.sh (eVar 1)])) lb_needed_lines_0)
    (sSeq (sFor (.nm 4) (wDown (e2 (opD .sub) (e1 lenD (eVar 0)) (eC (.int 1))) (e1 negD (eC (.int 1)))) lb_needed_lines_2)
    (sRet (e1 sortD (eOwn 0))))))
def m_needed_lines : FM := defM [false, false] 5 1 b_needed_lines
abbrev b_renumbered : SS :=
    (sRet (e1 tupD (eLc (wOf (eVar 0)) (.tup [(.nm 2), (.nm 3), (.nm 4), (.nm 5)]) Wc.tYes (eTup [.one (eVar 2), .one (eIf (Wc.tC .eq (eVar 2) (eC (.int 1))) (e2 dgetD (eVar 1) (eVar 3)) (eVar 3)), .one (eVar 4), .one (eVar 5)]) [2, 3, 4, 5])))
def m_renumbered : FM := defM [false, false] 6 0 b_renumbered
abbrev b_lean_paper : SS :=
    (sSeq (sAsg (.nm 1) (eCall m_needed_lines [.sh (e2 idxD (eVar 0) (eC (.int 1))), .sh (e2 idxD (eVar 0) (eC (.int 2)))]))
    (sSeq (sAsg (.nm 2) (eDc (wEnum (eVar 1)) (.tup [(.nm 5), (.nm 4)]) (eVar 4) (eVar 5) [5, 4]))
    (sSeq (sAsg (.nm 3) (eLc (wOf (eVar 1)) (.nm 4) Wc.tYes (eTup [.one (e2 idxD (e2 idxD (e2 idxD (eVar 0) (eC (.int 1))) (eVar 4)) (eC (.int 0))), .one (e2 idxD (e2 idxD (e2 idxD (eVar 0) (eC (.int 1))) (eVar 4)) (eC (.int 1))), .one (eCall m_renumbered [.sh (e2 idxD (e2 idxD (e2 idxD (eVar 0) (eC (.int 1))) (eVar 4)) (eC (.int 2))), .sh (eVar 2)])]) [4]))
    (sRet (eTup [.one (eC (.str "alike")), .one (e1 tupD (eVar 3)), .one (eCall m_renumbered [.sh (e2 idxD (eVar 0) (eC (.int 2))), .sh (eVar 2)])])))))
def m_lean_paper : FM := defM [false] 6 0 b_lean_paper
abbrev b_step_paper : SS :=
    (sRet (eTup [.one (eC (.str "alike")), .one (eTup []), .one (e1 tupD (eLc (wOf (eVar 0)) (.tup [(.nm 1), (.nm 2), (.nm 3)]) Wc.tYes (eTup [.one (eC (.int 0)), .one (eVar 1), .one (eVar 2), .one (eVar 3)]) [1, 2, 3]))]))
def m_step_paper : FM := defM [false] 4 0 b_step_paper
abbrev b__law_take : SS :=
    (sSeq (sIf (Wc.tC .eq (e2o idxD 0 (eC (.int 0))) (eC (.int 0))) (sSeq (sAsg (.nm 4) (e2 idxD (e2 (opD .add) (eSl (e2o idxD 0 (eC (.int 3))) (some (e2o idxD 0 (eC (.int 2)))) none) (eLst [.one (eC (.int 0))])) (eC (.int 0))))
    (sSeq (sAugI 0 (eC (.int 2)) addI (eC (.int 1)))
    (sSeq (sIf (Wc.tC .ge (eVar 4) (e2 (opD .pow) (eC (.int 10)) (eC (.int 18)))) (sPut 0 (eVar 4) (eC (.int 0))) sNil)
    (sSeq (sAsg (.nm 5) (e2 (opD .add) (e2 (opD .add) (e2 (opD .mul) (e2o idxD 0 (eC (.int 1))) (eC (.int 48271))) (e2 (opD .mod) (e1 intD (eVar 4)) (eC (.int 2147483647)))) (e2 (opD .mul) (eC (.int 7919)) (e2o idxD 0 (eC (.int 2))))))
    (sPut 0 (e2 (opD .mod) (e1 intD (eVar 5)) (eC (.int 2147483647))) (eC (.int 1))))))) sNil)
    (sSeq (sIf (Wc.tC .gt (e2o idxD 0 (eC (.int 0))) (eC (.int 0))) (sSeq (sAsg (.nm 6) (e2 (opD .mod) (e1 intD (e2o idxD 0 (eC (.int 0)))) (eVar 1)))
    (sSeq (sPut 0 (e2 (opD .fdiv) (e1 intD (e2o idxD 0 (eC (.int 0)))) (eVar 1)) (eC (.int 0)))
    (sRet (eVar 6)))) sNil)
    (sSeq (sAsg (.nm 2) (e2 (opD .mod) (e1 intD (e2 (opD .mul) (e2 (opD .add) (e2o idxD 0 (eC (.int 1))) (eC (.int 1))) (eC (.int 39373)))) (eC (.int 1000000007))))
    (sSeq (sAsg (.nm 3) (e2 (opD .mod) (e1 intD (e2 (opD .mul) (e2 (opD .mod) (e1 intD (e2 (opD .mul) (eVar 2) (eVar 2))) (eC (.int 998244353))) (eC (.int 30011)))) (eC (.int 998244353))))
    (sRet (e2 (opD .mod) (e1 intD (e2 (opD .fdiv) (eVar 3) (eC (.int 7)))) (eVar 1)))))))
def m__law_take : FM := defM [true, false] 7 0 b__law_take
abbrev b__law_some : SS :=
    (sRet (e2 idxD (eVar 1) (eCall m__law_take [.ow 0, .sh (e1 lenD (eVar 1))])))
def m__law_some : FM := defM [true, false] 2 0 b__law_some
abbrev lb__law_mixed_0 : SS :=
    (sMut 1 [.one (eCall m__law_take [.ow 0, .sh (e2 (opD .add) (e1 lenD (eOwn 1)) (eC (.int 1)))]), .one (eVar 3)] gInsert)
abbrev b__law_mixed : SS :=
    (sSeq (sOwn 1 (eLst []))
    (sSeq (sFor (.nm 3) (wOf (eVar 1)) lb__law_mixed_0)
    (sRet (eGive 1))))
def m__law_mixed : FM := defM [true, false] 4 1 b__law_mixed
abbrev lb__law_alike_0 : SS :=
    (sSeq (sAsg (.tup [(.nm 4), (.nm 5)]) (e2o idxD 0 (eVar 3)))
    (sSeq (sAug 3 addI (eC (.int 1)))
    (sSeq (sIf (Wc.tOr (Wc.tC .ne (e1 (isT [.bool]) (eVar 4)) (e1 (isT [.bool]) (eVar 5))) (Wc.tC .ne (e1 (isT [.str]) (eVar 4)) (e1 (isT [.str]) (eVar 5)))) (sRet (eC (.bool false))) sNil)
    (sSeq (sIf (Wc.tC .ne (e1 (isT [.tuple, .list]) (eVar 4)) (e1 (isT [.tuple, .list]) (eVar 5))) (sRet (eC (.bool false))) sNil)
    (sIf (Wc.tB (e1 (isT [.tuple, .list]) (eVar 4))) (sSeq (sIf (Wc.tOr (Wc.tC .ne (e1 (isT [.tuple]) (eVar 4)) (e1 (isT [.tuple]) (eVar 5))) (Wc.tC .ne (e1 lenD (eVar 4)) (e1 lenD (eVar 5)))) (sRet (eC (.bool false))) sNil)
    (sMut 0 [.one (eLW (wZip (eVar 4) (eVar 5)))] gExtend)) (sIf (Wc.tC .ne (eVar 4) (eVar 5)) (sRet (eC (.bool false))) sNil))))))
abbrev b__law_alike : SS :=
    (sSeq (sPar2 (.fr 0 (eLst [.one (eTup [.one (eVar 0), .one (eVar 1)])])) (.sh 3 (eC (.int 0))))
    (sSeq (sWhile (Wc.tC .lt (eVar 3) (e1 lenD (eOwn 0))) lb__law_alike_0)
    (sRet (eC (.bool true)))))
def m__law_alike : FM := defM [false, false] 6 1 b__law_alike
abbrev b__law_is_int : SS :=
    (sRet (eAnd (e1 (isT [.int]) (eVar 0)) (eNot (e1 (isT [.bool]) (eVar 0)))))
def m__law_is_int : FM := defM [false] 1 0 b__law_is_int
abbrev b__law_order : SS :=
    (sRet (eTup [.one (e1 lenD (eVar 0)), .one (eVar 0)]))
def m__law_order : FM := defM [false] 1 0 b__law_order
abbrev b__law_less : SS :=
    (sRet (e2 (cmpD .lt) (eCall m__law_order [.sh (eVar 0)]) (eCall m__law_order [.sh (eVar 1)])))
def m__law_less : FM := defM [false, false] 2 0 b__law_less
abbrev b__law_letters : SS :=
    (sRet (e2k asStr joinD (eC (.str "")) (e1 sortD (eSl (eCall m__law_mixed [.ow 0, .sh (eC (.str "abcdmyz"))]) none (some (eCall m__law_some [.ow 0, .sh (eLst [.one (eC (.int 1)), .one (eC (.int 2)), .one (eC (.int 2)), .one (eC (.int 2)), .one (eC (.int 3)), .one (eC (.int 3)), .one (eC (.int 4))])]))))))
def m__law_letters : FM := defM [true] 1 0 b__law_letters
abbrev lb__law_word_0 : SS :=
    (sSeq (sAsg (.nm 5) (eIf (Wc.tAnd (Wc.tC .ne (eVar 3) (eC (.str ""))) (Wc.tC .eq (eCall m__law_take [.ow 0, .sh (eC (.int 3))]) (eC (.int 0)))) (e2 idxD (eVar 3) (e1 negD (eC (.int 1)))) (eCall m__law_some [.ow 0, .sh (eVar 1)])))
    (sAsg (.nm 3) (e2 (opD .add) (eVar 3) (eVar 5))))
abbrev b__law_word : SS :=
    (sSeq (sAsg (.nm 3) (eC (.str "")))
    (sSeq (sFor (.nm 4) (wRange (eC (.int 0)) (eCall m__law_take [.ow 0, .sh (e2 (opD .add) (eVar 2) (eC (.int 1)))])) lb__law_word_0)
    (sRet (eVar 3))))
def m__law_word : FM := defM [true, false, false] 6 0 b__law_word
abbrev b__law_pair : SS :=
    (sSeq (sPar2 (.sh 3 (eCall m__law_word [.ow 0, .sh (eVar 1), .sh (eVar 2)])) (.sh 4 (eCall m__law_word [.ow 0, .sh (eVar 1), .sh (eVar 2)])))
    (sSeq (sIf (Wc.tC .eq (eVar 3) (eVar 4)) (sAsg (.nm 3) (e2 (opD .add) (eVar 3) (e2 idxD (eVar 1) (eC (.int 0))))) sNil)
    (sRet (eIf (Wc.tB (eCall m__law_less [.sh (eVar 4), .sh (eVar 3)])) (eTup [.one (eVar 3), .one (eVar 4)]) (eTup [.one (eVar 4), .one (eVar 3)])))))
def m__law_pair : FM := defM [true, false, false] 5 0 b__law_pair
abbrev b__law_stands : SS :=
    (sRet (eLc (wRange (eC (.int 0)) (e2 (opD .add) (e2 (opD .sub) (e1 lenD (eVar 0)) (e1 lenD (eVar 1))) (eC (.int 1)))) (.nm 2) (Wc.tC .eq (eSl (eVar 0) (some (eVar 2)) (some (e2 (opD .add) (eVar 2) (e1 lenD (eVar 1))))) (eVar 1)) (eVar 2) [2]))
def m__law_stands : FM := defM [false, false] 3 0 b__law_stands
abbrev lb__law_walked_0 : SS :=
    (sSeq (sIf (Wc.tOr (Wc.tNot (Wc.tB (e1 (isT [.tuple]) (eVar 4)))) (Wc.tOr (Wc.tC .ne (e1 lenD (eVar 4)) (eC (.int 4))) (Wc.tC .ne (eLc (wOf (eVar 4)) (.nm 8) (Wc.tNot (Wc.tB (eCall m__law_is_int [.sh (eVar 8)]))) (eC (.int 1)) [8]) (eLst [])))) (sRet (eC .none)) sNil)
    (sSeq (sIf (Wc.tOr (Wc.tC .nmem (e2 idxD (eVar 4) (eC (.int 0))) (eTup [.one (eC (.int 0)), .one (eC (.int 1))])) (Wc.tC .nmem (e2 idxD (eVar 4) (eC (.int 3))) (eTup [.one (eC (.int 0)), .one (eC (.int 1))]))) (sRet (eC .none)) sNil)
    (sSeq (sAsg (.nm 5) (eIf (Wc.tC .eq (e2 idxD (eVar 4) (eC (.int 0))) (eC (.int 0))) (e2 idxD (eVar 0) (eC (.int 2))) (eVar 1)))
    (sSeq (sIf (Wc.tNot (tCh .le .lt (eC (.int 0)) (e2 idxD (eVar 4) (eC (.int 1))) (e1 lenD (eVar 5)))) (sRet (eC .none)) sNil)
    (sSeq (sPar2 (.sh 6 (e2 idxD (e2 idxD (eVar 5) (e2 idxD (eVar 4) (eC (.int 1)))) (e2 idxD (eVar 4) (eC (.int 3))))) (.sh 7 (e2 idxD (e2 idxD (eVar 5) (e2 idxD (eVar 4) (eC (.int 1)))) (e2 (opD .sub) (eC (.int 1)) (e2 idxD (eVar 4) (eC (.int 3)))))))
    (sSeq (sIf (Wc.tC .nmem (e2 idxD (eVar 4) (eC (.int 2))) (eCall m__law_stands [.sh (eVar 2), .sh (eVar 6)])) (sRet (eC .none)) sNil)
    (sAsg (.nm 2) (e2 (opD .add) (e2 (opD .add) (eSl (eVar 2) none (some (e2 idxD (eVar 4) (eC (.int 2))))) (eVar 7)) (eSl (eVar 2) (some (e2 (opD .add) (e2 idxD (eVar 4) (eC (.int 2))) (e1 lenD (eVar 6)))) none)))))))))
abbrev b__law_walked : SS :=
    (sSeq (sIf (Wc.tNot (Wc.tB (e1 (isT [.tuple]) (eVar 3)))) (sRet (eC .none)) sNil)
    (sSeq (sFor (.nm 4) (wOf (eVar 3)) lb__law_walked_0)
    (sRet (eVar 2))))
def m__law_walked : FM := defM [false, false, false, false] 9 0 b__law_walked
abbrev lb__law_are_lines_0 : SS :=
    (sIf (Wc.tOr (Wc.tNot (Wc.tB (eCall m__law_less [.sh (eVar 4), .sh (eVar 3)]))) (Wc.tC .ne (eCall m__law_walked [.sh (eVar 0), .sh (eSl (eVar 1) none (some (eVar 2))), .sh (eVar 3), .sh (eVar 5)]) (eVar 4))) (sRet (eC (.bool false))) sNil)
abbrev b__law_are_lines : SS :=
    (sSeq (sFor (.tup [(.nm 2), (.tup [(.nm 3), (.nm 4), (.nm 5)])]) (wEnum (eVar 1)) lb__law_are_lines_0)
    (sRet (eC (.bool true))))
def m__law_are_lines : FM := defM [false, false] 6 0 b__law_are_lines
abbrev b__law_shows : SS :=
    (sSeq (sIf (Wc.tOr (Wc.tC .ne (e2 idxD (eVar 3) (eC (.int 0))) (eC (.str "alike"))) (Wc.tNot (Wc.tB (eCall m__law_are_lines [.sh (eVar 0), .sh (e2 idxD (eVar 3) (eC (.int 1)))])))) (sRet (eC (.bool false))) sNil)
    (sRet (e2 (cmpD .eq) (eCall m__law_walked [.sh (eVar 0), .sh (e2 idxD (eVar 3) (eC (.int 1))), .sh (eVar 1), .sh (e2 idxD (eVar 3) (eC (.int 2)))]) (eVar 2))))
def m__law_shows : FM := defM [false, false, false, false] 4 0 b__law_shows
abbrev lb__law_uses_on_0 : SS :=
    (sIf (Wc.tC .le (e2 (opD .sub) (e2 (opD .add) (e1 lenD (eVar 2)) (e1 lenD (e2 idxD (eVar 8) (e2 (opD .sub) (eC (.int 1)) (eVar 9))))) (e1 lenD (e2 idxD (eVar 8) (eVar 9)))) (eVar 3)) (sAsg (.nm 4) (e2 (opD .add) (eVar 4) (eLc (wOf (eCall m__law_stands [.sh (eVar 2), .sh (e2 idxD (eVar 8) (eVar 9))])) (.nm 10) Wc.tYes (eTup [.one (eVar 5), .one (eVar 7), .one (eVar 10), .one (eVar 9)]) [10]))) sNil)
abbrev lb__law_uses_on_1 : SS :=
    (sFor (.nm 9) (wOf (eTup [.one (eC (.int 0)), .one (eC (.int 1))])) lb__law_uses_on_0)
abbrev lb__law_uses_on_2 : SS :=
    (sFor (.tup [(.nm 7), (.nm 8)]) (wEnum (eVar 6)) lb__law_uses_on_1)
abbrev b__law_uses_on : SS :=
    (sSeq (sAsg (.nm 4) (eLst []))
    (sSeq (sFor (.tup [(.nm 5), (.nm 6)]) (wOf (eTup [.one (eTup [.one (eC (.int 0)), .one (e2 idxD (eVar 0) (eC (.int 2)))]), .one (eTup [.one (eC (.int 1)), .one (eVar 1)])])) lb__law_uses_on_2)
    (sRet (eVar 4))))
def m__law_uses_on : FM := defM [false, false, false, false] 11 0 b__law_uses_on
abbrev lb__law_walk_0 : SS :=
    (sSeq (sAsg (.nm 8) (eCall m__law_uses_on [.sh (eVar 1), .sh (eVar 2), .sh (eVar 3), .sh (eVar 5)]))
    (sIf (Wc.tC .ne (eVar 8) (eLst [])) (sSeq (sAsg (.nm 9) (eCall m__law_some [.ow 0, .sh (eVar 8)]))
    (sPar2 (.sh 6 (e2 (opD .add) (eVar 6) (eTup [.one (eVar 9)]))) (.sh 3 (eCall m__law_walked [.sh (eVar 1), .sh (eVar 2), .sh (eVar 3), .sh (eTup [.one (eVar 9)])])))) sNil))
abbrev b__law_walk : SS :=
    (sSeq (sAsg (.nm 6) (eTup []))
    (sSeq (sFor (.nm 7) (wRange (eC (.int 0)) (eVar 4)) lb__law_walk_0)
    (sRet (eTup [.one (eVar 6), .one (eVar 3)]))))
def m__law_walk : FM := defM [true, false, false, false, false, false] 10 0 b__law_walk
abbrev lb__law_lines_0 : SS :=
    (sSeq (sAsg (.nm 5) (eCall m__law_word [.ow 0, .sh (e2 idxD (eVar 1) (eC (.int 1))), .sh (eC (.int 6))]))
    (sSeq (sAsg (.tup [(.nm 6), (.nm 7)]) (eCall m__law_walk [.ow 0, .sh (eVar 1), .sh (eVar 3), .sh (eVar 5), .sh (e2 (opD .add) (eC (.int 1)) (eCall m__law_take [.ow 0, .sh (eC (.int 4))])), .sh (eC (.int 14))]))
    (sSeq (sIf (Wc.tB (eCall m__law_less [.sh (eVar 7), .sh (eVar 5)])) (sAsg (.nm 3) (e2 (opD .add) (eVar 3) (eTup [.one (eTup [.one (eVar 5), .one (eVar 7), .one (eVar 6)])]))) sNil)
    (sIf (Wc.tB (eCall m__law_less [.sh (eVar 5), .sh (eVar 7)])) (sAsg (.nm 3) (e2 (opD .add) (eVar 3) (eTup [.one (eTup [.one (eVar 7), .one (eVar 5), .one (e1 tupD (eLc (wOf (e1 revD (eVar 6))) (.tup [(.nm 8), (.nm 9), (.nm 10), (.nm 11)]) Wc.tYes (eTup [.one (eVar 8), .one (eVar 9), .one (eVar 10), .one (e2 (opD .sub) (eC (.int 1)) (eVar 11))]) [8, 9, 10, 11]))])]))) sNil))))
abbrev b__law_lines : SS :=
    (sSeq (sAsg (.nm 3) (eTup []))
    (sSeq (sFor (.nm 4) (wRange (eC (.int 0)) (eVar 2)) lb__law_lines_0)
    (sRet (eVar 3))))
def m__law_lines : FM := defM [true, false, false] 12 0 b__law_lines
abbrev b__law_paper : SS :=
    (sSeq (sAsg (.nm 4) (eCall m__law_lines [.ow 0, .sh (eVar 1), .sh (eCall m__law_take [.ow 0, .sh (eC (.int 4))])]))
    (sSeq (sAsg (.tup [(.nm 5), (.nm 6)]) (eCall m__law_walk [.ow 0, .sh (eVar 1), .sh (eVar 4), .sh (eVar 2), .sh (eCall m__law_take [.ow 0, .sh (eC (.int 6))]), .sh (eVar 3)]))
    (sRet (eTup [.one (eTup [.one (eC (.str "alike")), .one (eVar 4), .one (eVar 5)]), .one (eVar 6)]))))
def m__law_paper : FM := defM [true, false, false, false] 7 0 b__law_paper
abbrev lb__law_lean_0 : SS :=
    (sIf (Wc.tC .eq (eVar 7) (eC (.int 1))) (sPut 0 (eC (.bool true)) (eVar 8)) sNil)
abbrev lb__law_lean_1 : SS :=
    (sIf (Wc.tC .eq (eVar 7) (eC (.int 1))) (sPut 0 (eC (.bool true)) (eVar 8)) sNil)
abbrev lb__law_lean_2 : SS :=
    (sFor (.tup [(.nm 7), (.nm 8), (.nm 9), (.nm 10)]) (wOf (eIf (Wc.tC .mem (eVar 2) (eOwn 0)) (e2 idxD (e2 idxD (e2 idxD (eVar 0) (eC (.int 1))) (eVar 2)) (eC (.int 2))) (eTup []))) lb__law_lean_1)
abbrev lb__law_lean_3 : SS :=
    (sMut 1 [.one (e1 tupD (eLc (wOf (eVar 5)) (.tup [(.nm 7), (.nm 2), (.nm 9), (.nm 10)]) Wc.tYes (eTup [.one (eVar 7), .one (eIf (Wc.tC .eq (eVar 7) (eC (.int 1))) (e2k asList findD (eVar 3) (eVar 2)) (eVar 2)), .one (eVar 9), .one (eVar 10)]) [7, 2, 9, 10]))] gAppend)
abbrev b__law_lean : SS :=
    (sSeq (sOwn 0 (eC (.dict [])))
    (sSeq (sFor (.tup [(.nm 7), (.nm 8), (.nm 9), (.nm 10)]) (wOf (e2 idxD (eVar 0) (eC (.int 2)))) lb__law_lean_0)
    (sSeq (sFor (.nm 2) (wDown (e2 (opD .sub) (e1 lenD (e2 idxD (eVar 0) (eC (.int 1)))) (eC (.int 1))) (e1 negD (eC (.int 1)))) lb__law_lean_2)
    (sSeq (sAsg (.nm 3) (e1 sortD (eOwn 0)))
    (sSeq (sOwn 1 (eLst []))
    (sSeq (sFor (.nm 5) (wOf (e2 (opD .add) (eLst [.one (e2 idxD (eVar 0) (eC (.int 2)))]) (eLc (wOf (eVar 3)) (.nm 2) Wc.tYes (e2 idxD (e2 idxD (e2 idxD (eVar 0) (eC (.int 1))) (eVar 2)) (eC (.int 2))) [2]))) lb__law_lean_3)
    (sSeq (sAsg (.nm 6) (eLc (wZip (eVar 3) (eSlO 1 (some (eC (.int 1))) none)) (.tup [(.nm 2), (.nm 5)]) Wc.tYes (eTup [.one (e2 idxD (e2 idxD (e2 idxD (eVar 0) (eC (.int 1))) (eVar 2)) (eC (.int 0))), .one (e2 idxD (e2 idxD (e2 idxD (eVar 0) (eC (.int 1))) (eVar 2)) (eC (.int 1))), .one (eVar 5)]) [2, 5]))
    (sRet (eTup [.one (eC (.str "alike")), .one (e1 tupD (eVar 6)), .one (e2o idxD 1 (eC (.int 0)))])))))))))
def m__law_lean : FM := defM [false] 11 2 b__law_lean
abbrev lb__law_wild_book_0 : SS :=
    (sSeq (sAsg (.nm 4) (eCall m__law_pair [.ow 0, .sh (eVar 1), .sh (eCall m__law_some [.ow 0, .sh (eLst [.one (eC (.int 2)), .one (eC (.int 3)), .one (eC (.int 4))])])]))
    (sAsg (.nm 2) (e2 (opD .add) (eVar 2) (eIf (Wc.tC .nmem (eVar 4) (eVar 2)) (eLst [.one (eVar 4)]) (eLst [])))))
abbrev b__law_wild_book : SS :=
    (sSeq (sAsg (.nm 2) (eLst []))
    (sSeq (sFor (.nm 3) (wRange (eC (.int 0)) (e2 (opD .add) (eC (.int 1)) (eCall m__law_take [.ow 0, .sh (eC (.int 4))]))) lb__law_wild_book_0)
    (sSeq (sIf (Wc.tAnd (Wc.tC .eq (eCall m__law_take [.ow 0, .sh (eC (.int 3))]) (eC (.int 0))) (Wc.tC .gt (e1 lenD (eVar 1)) (eC (.int 1)))) (sSeq (sPar2 (.sh 5 (e2 idxD (eVar 1) (eC (.int 0)))) (.sh 6 (e2 idxD (eVar 1) (e1 negD (eC (.int 1))))))
    (sSeq (sAsg (.nm 4) (eTup [.one (e2 (opD .add) (e2 (opD .add) (eVar 6) (eVar 5)) (eVar 6)), .one (e2 (opD .add) (e2 (opD .add) (eVar 5) (eVar 6)) (eVar 5))]))
    (sAsg (.nm 2) (e2 (opD .add) (eVar 2) (eIf (Wc.tC .nmem (eVar 4) (eVar 2)) (eLst [.one (eVar 4)]) (eLst [])))))) sNil)
    (sRet (eTup [.one (eC (.str "wild")), .one (eVar 1), .one (e1 tupD (eVar 2))])))))
def m__law_wild_book : FM := defM [true, false] 7 0 b__law_wild_book
abbrev b__law_back : SS :=
    (sRet (e1 tupD (eLc (wOf (e1 revD (eVar 0))) (.tup [(.nm 1), (.nm 2), (.nm 3), (.nm 4)]) Wc.tYes (eTup [.one (eVar 1), .one (eVar 2), .one (eVar 3), .one (e2 (opD .sub) (eC (.int 1)) (eVar 4))]) [1, 2, 3, 4])))
def m__law_back : FM := defM [false] 5 0 b__law_back
abbrev b__law_further : SS :=
    (sRet (e1 tupD (eLc (wOf (eVar 0)) (.tup [(.nm 2), (.nm 3), (.nm 4), (.nm 5)]) Wc.tYes (eTup [.one (eVar 2), .one (e2 (opD .add) (eVar 3) (e2 (opD .mul) (eVar 1) (eVar 2))), .one (eVar 4), .one (eVar 5)]) [2, 3, 4, 5])))
def m__law_further : FM := defM [false, false] 6 0 b__law_further
abbrev lb__law_papers_right_0 : SS :=
    (sSeq (sIf (Wc.tOr (Wc.tNot (Wc.tB (eCall m__law_shows [.sh (eVar 1), .sh (eVar 18), .sh (eVar 19), .sh (eVar 20)]))) (Wc.tC .notN (eCall m_shows_alike [.sh (eVar 1), .sh (eVar 18), .sh (eVar 19), .sh (eVar 20)]) (eC (.bool true)))) (sRet (eC (.bool false))) sNil)
    (sIf (Wc.tOr (Wc.tC .notN (eCall m_lines_fault [.sh (eVar 1), .sh (e2 idxD (eVar 20) (eC (.int 1)))]) (eC .none)) (Wc.tB (eCall m_shows_alike [.sh (eVar 1), .sh (eVar 18), .sh (e2 (opD .add) (eVar 19) (e2 idxD (e2 idxD (eVar 1) (eC (.int 1))) (eC (.int 0)))), .sh (eVar 20)]))) (sRet (eC (.bool false))) sNil))
abbrev b__law_papers_right : SS :=
    (sSeq (sAsg (.tup [(.nm 8), (.nm 9)]) (eCall m__law_paper [.ow 0, .sh (eVar 1), .sh (eVar 2), .sh (eC (.int 24))]))
    (sSeq (sAsg (.tup [(.nm 10), (.nm 11)]) (eCall m__law_paper [.ow 0, .sh (eVar 1), .sh (eVar 9), .sh (eC (.int 30))]))
    (sSeq (sAsg (.nm 3) (e1 lenD (e2 idxD (eVar 8) (eC (.int 1)))))
    (sSeq (sAsg (.nm 4) (e2 (opD .add) (e2 idxD (eVar 8) (eC (.int 1))) (e1 tupD (eLc (wOf (e2 idxD (eVar 10) (eC (.int 1)))) (.tup [(.nm 18), (.nm 19), (.nm 6)]) Wc.tYes (eTup [.one (eVar 18), .one (eVar 19), .one (eCall m__law_further [.sh (eVar 6), .sh (eVar 3)])]) [18, 19, 6]))))
    (sSeq (sAsg (.nm 5) (eTup [.one (eC (.str "alike")), .one (eVar 4), .one (e2 (opD .add) (e2 idxD (eVar 8) (eC (.int 2))) (eCall m__law_further [.sh (e2 idxD (eVar 10) (eC (.int 2))), .sh (eVar 3)]))]))
    (sSeq (sPar2 (.sh 12 (eCall m_turned_paper [.sh (eVar 8)])) (.sh 13 (eCall m_joined_papers [.sh (eVar 8), .sh (eVar 10)])))
    (sSeq (sIf (Wc.tNot (Wc.tB (eCall m__law_alike [.sh (eLst [.one (eVar 12), .one (eVar 13)]), .sh (eLst [.one (eTup [.one (eC (.str "alike")), .one (e2 idxD (eVar 8) (eC (.int 1))), .one (eCall m__law_back [.sh (e2 idxD (eVar 8) (eC (.int 2)))])]), .one (eVar 5)])]))) (sRet (eC (.bool false))) sNil)
    (sSeq (sAsg (.tup [(.nm 14), (.nm 15)]) (eTup [.one (eCall m__law_word [.ow 0, .sh (e2 idxD (eVar 1) (eC (.int 1))), .sh (eC (.int 4))]), .one (eCall m__law_word [.ow 0, .sh (e2 idxD (eVar 1) (eC (.int 1))), .sh (eC (.int 4))])]))
    (sSeq (sAsg (.nm 6) (e1 tupD (eLc (wOf (e2 idxD (eVar 8) (eC (.int 2)))) (.tup [(.nm 21), (.nm 22), (.nm 23), (.nm 24)]) Wc.tYes (eTup [.one (eVar 21), .one (eVar 22), .one (e2 (opD .add) (eVar 23) (e1 lenD (eVar 14))), .one (eVar 24)]) [21, 22, 23, 24])))
    (sSeq (sPar2 (.sh 16 (eCall m_placed_paper [.sh (eVar 8), .sh (eVar 14)])) (.sh 17 (eCall m_lean_paper [.sh (eVar 13)])))
    (sSeq (sIf (Wc.tNot (Wc.tB (eCall m__law_alike [.sh (eLst [.one (eVar 16), .one (eVar 17), .one (eCall m_lean_paper [.sh (eVar 17)])]), .sh (eLst [.one (eTup [.one (eC (.str "alike")), .one (e2 idxD (eVar 8) (eC (.int 1))), .one (eVar 6)]), .one (eCall m__law_lean [.sh (eVar 5)]), .one (eCall m__law_lean [.sh (eVar 5)])])]))) (sRet (eC (.bool false))) sNil)
    (sSeq (sOwn 1 (eLst [.one (eTup [.one (eVar 9), .one (eVar 2), .one (eVar 12)]), .one (eTup [.one (eVar 2), .one (eVar 11), .one (eVar 13)]), .one (eTup [.one (eVar 2), .one (eVar 11), .one (eVar 17)]), .one (eTup [.one (eVar 11), .one (eVar 2), .one (eCall m_turned_paper [.sh (eVar 17)])])]))
    (sSeq (sMut 1 [.one (eTup [.one (e2 (opD .add) (e2 (opD .add) (eVar 14) (eVar 2)) (eVar 15)), .one (e2 (opD .add) (e2 (opD .add) (eVar 14) (eVar 9)) (eVar 15)), .one (eVar 16)])] gAppend)
    (sSeq (sFor (.tup [(.nm 18), (.nm 19), (.nm 20)]) (wOf (eGive 1)) lb__law_papers_right_0)
    (sRet (eAnd (e2 (cmpD .eq) (eCall m_turned_paper [.sh (eVar 12)]) (eVar 8)) (e2 (cmpD .le) (e1 lenD (e2 idxD (eVar 17) (eC (.int 1)))) (e1 lenD (e2 idxD (eVar 13) (eC (.int 1)))))))))))))))))))))
def m__law_papers_right : FM := defM [true, false, false] 25 1 b__law_papers_right
abbrev b__law_steps_right : SS :=
    (sSeq (sAsg (.tup [(.nm 4), (.nm 5)]) (eCall m__law_walk [.ow 0, .sh (eVar 1), .sh (eTup []), .sh (eVar 2), .sh (eCall m__law_take [.ow 0, .sh (eC (.int 8))]), .sh (eC (.int 24))]))
    (sSeq (sAsg (.nm 3) (e1 tupD (eLc (wOf (eVar 4)) (.nm 6) Wc.tYes (eSl (eVar 6) (some (eC (.int 1))) none) [6])))
    (sRet (eAnd (eCall m__law_alike [.sh (eCall m_step_paper [.sh (eVar 3)]), .sh (eTup [.one (eC (.str "alike")), .one (eTup []), .one (eVar 4)])]) (eCall m_shows_alike [.sh (eVar 1), .sh (eVar 2), .sh (eVar 5), .sh (eCall m_step_paper [.sh (eVar 3)])])))))
def m__law_steps_right : FM := defM [true, false, false] 7 0 b__law_steps_right
abbrev b__law_limits_right : SS :=
    (sSeq (sAsg (.tup [(.nm 7), (.nm 8)]) (e2 idxD (e2 idxD (eVar 1) (eC (.int 2))) (eC (.int 0))))
    (sSeq (sAsg (.tup [(.nm 9), (.nm 10)]) (eTup [.one (eTup [.one (eVar 7), .one (eVar 8), .one (eTup [.one (eTup [.one (eC (.int 0)), .one (eC (.int 0)), .one (eC (.int 0)), .one (eC (.int 0))])])]), .one (eTup [.one (eTup [.one (eC (.int 1)), .one (eC (.int 0)), .one (eC (.int 0)), .one (eC (.int 0))]), .one (eTup [.one (eC (.int 1)), .one (eC (.int 0)), .one (eC (.int 0)), .one (eC (.int 1))])])]))
    (sSeq (sAsg (.nm 2) (e2 (opD .add) (eC (.int 150)) (eCall m__law_take [.ow 0, .sh (eC (.int 51))])))
    (sSeq (sAsg (.tup [(.nm 11), (.nm 12)]) (eTup [.one (eTup [.one (eC (.str "alike")), .one (e2 (opD .mul) (eTup [.one (eVar 9)]) (eVar 2)), .one (eVar 10)]), .one (eTup [.one (eC (.str "alike")), .one (e2 (opD .mul) (eTup [.one (eVar 9)]) (eC (.int 200))), .one (eVar 10)])]))
    (sSeq (sAsg (.nm 3) (eCame l__law_came (eCall m_joined_papers [.sh (eVar 11), .sh (eVar 12)])))
    (sSeq (sIf (Wc.tOr (Wc.tNot (Wc.tB (e1 (isT [.tuple]) (eVar 3)))) (Wc.tOr (Wc.tC .ne (e1 lenD (e2 idxD (eVar 3) (eC (.int 1)))) (e2 (opD .add) (eVar 2) (eC (.int 200)))) (Wc.tC .ne (e1 lenD (e2 idxD (eVar 3) (eC (.int 2)))) (eC (.int 4))))) (sRet (eC (.bool false))) sNil)
    (sSeq (sAsg (.nm 4) (eTup [.one (eC (.str "alike")), .one (e2 (opD .mul) (eTup [.one (eVar 9)]) (e2 (opD .sub) (eC (.int 401)) (eVar 2))), .one (eTup [])]))
    (sSeq (sIf (Wc.tC .ne (eCame l__law_came (eCall m_joined_papers [.sh (eVar 11), .sh (eVar 4)])) (eLst [.one (eC (.str "many")), .one (eC (.str "lines")), .one (eC (.int 400))])) (sRet (eC (.bool false))) sNil)
    (sSeq (sAsg (.nm 5) (eTup [.one (eC (.str "alike")), .one (eTup [.one (eVar 9)]), .one (e2 (opD .mul) (eVar 10) (eC (.int 500)))]))
    (sSeq (sIf (Wc.tC .ne (e1 lenD (e2 idxD (eCall m_joined_papers [.sh (eVar 5), .sh (eVar 5)]) (eC (.int 2)))) (eC (.int 2000))) (sRet (eC (.bool false))) sNil)
    (sSeq (sIf (Wc.tC .ne (eCame l__law_came (eCall m_joined_papers [.sh (eVar 5), .sh (eTup [.one (eC (.str "alike")), .one (eTup [.one (eVar 9)]), .one (e2 (opD .add) (e2 (opD .mul) (eVar 10) (eC (.int 500))) (eVar 10))])])) (eLst [.one (eC (.str "many")), .one (eC (.str "uses")), .one (eC (.int 2000))])) (sRet (eC (.bool false))) sNil)
    (sSeq (sAsg (.nm 6) (eTup [.one (eC (.str "alike")), .one (e2 (opD .mul) (eTup [.one (eVar 9)]) (eC (.int 400))), .one (e2 (opD .add) (e2 (opD .mul) (eVar 10) (eC (.int 500))) (eVar 10))]))
    (sSeq (sIf (Wc.tC .ne (eCame l__law_came (eCall m_joined_papers [.sh (eVar 5), .sh (eVar 6)])) (eLst [.one (eC (.str "many")), .one (eC (.str "lines")), .one (eC (.int 400))])) (sRet (eC (.bool false))) sNil)
    (sRet (e2 (cmpD .eq) (e2 idxD (eCall m_lean_paper [.sh (eTup [.one (eC (.str "alike")), .one (e2 (opD .mul) (eTup [.one (eVar 9)]) (eC (.int 400))), .one (eVar 10)])]) (eC (.int 1))) (eTup [.one (eVar 9)]))))))))))))))))
def m__law_limits_right : FM := defM [true, false] 13 0 b__law_limits_right
abbrev lb_law_0 : SS :=
    (sSeq (sAsg (.nm 3) (eCall m__law_wild_book [.ow 0, .sh (eCall m__law_letters [.ow 0])]))
    (sSeq (sAsg (.nm 4) (eCall m__law_word [.ow 0, .sh (e2 idxD (eVar 3) (eC (.int 1))), .sh (eC (.int 8))]))
    (sIf (Wc.tOr (Wc.tNot (Wc.tB (eCall m__law_papers_right [.ow 0, .sh (eVar 3), .sh (eVar 4)]))) (Wc.tNot (Wc.tB (eCall m__law_steps_right [.ow 0, .sh (eVar 3), .sh (eVar 4)])))) (sRet (eC (.bool false))) sNil)))
abbrev b_law : SS :=
    (sSeq (sFor (.nm 2) (wRange (eC (.int 0)) (eC (.int 4))) lb_law_0)
    (sRet (eCall m__law_limits_right [.ow 0, .sh (eVar 3)])))
end
end K00

set_option Elab.async false
set_option linter.all false
set_option maxRecDepth 100000
set_option maxHeartbeats 1000000
namespace K00
open PySem Wc Pp
local macro_rules | `(tactic| walk_at "ev") => `(tactic| simp only [dLn_0, dLn_1, dLn_2, RB_ok, RB_ex, LF_some, ev_bind, ev_pure, ev_lift, SB_ok, SB_ex, SQ_nx, SQ_rt, SQ_ex, SQ_bk, SQ_ct, VR_ok, ev_var, ev_own, GV_ok, ev_give, ev_c, ev_1, ev_2, ev_2o, ev_tC, ev_tCo, CH_t, CH_f, ev_tCh, ev_tB, ev_tAnd, ev_tOr, ev_tNot, ev_tYes, ev_eT, ev_eAnd, ev_eOr, ev_eNot, ev_eIf, ev_eCh, ev_items_nil, ev_items_one, ev_items_star, ev_eTup, ev_eLst, PT_int, ev_part_n, ev_part_s, ev_eSl, ev_args_nil, ev_args_sh, ev_args_ow, CB_ok, CB_ex, ev_call0, ev_eCall, owns, putO, ev_wOf, RN_int, ev_wRange, RND_int, ev_wDown, ev_wEnum, ev_wZip, ev_eLc, ev_eDc, OB_some, bt_nm, bt_tup, bt_nil, bt_cons, ev_nil, ev_seq, ev_asg, NX_some, ev_par2, P1.e, P1.ρ, P1.ω, ev_own_set, ev_aug, IFS_t, IFS_f, ev_if, ev_ret, ev_drop, ev_raise, MK_some, MKo_some, ev_mutK, ev_mut, ev_lstE, ev_put, ev_augI, ev_for, FG_nx, FG_ct, FG_bk, FG_rt, FG_ex, FB_some, for_nil, for_cons, DF_nx, DF_rt, DF_ex, ev_defM, entryE, Bd_some, St1_nx, List.getElem?_cons_succ, List.getElem?_cons_zero, List.set_cons_succ, List.set_cons_zero, List.replicate_succ, List.replicate_zero, List.length_cons, List.length_nil, List.nil_append, List.cons_append, List.take_zero, List.take_succ_cons, List.take_nil, wipeE, limited_k, truth_b, add_int, sub_int, addI_int, neg_int, len_W, len_tup, len_lst, items_tup, items_lst, items_W, seq_tup, seq_lst, tup_tup, tup_lst, rev_tup, rev_lst, idx_t0, idx_t1, idx_t2, idx_t3, idx_l0, idx_l1, idx_l2, idx_l3, sl_tup, sl_lst, sl_W, cmp_lt, cmp_le, cmp_gt, cmp_ge, cmp_isN, cmp_notN, cmp_isB, cmp_notB, eq_int, ne_int, eq_W, ne_W, eq_b, ne_b, isT_def, ty_int_none, ty_int_bool, ty_int_int, ty_int_str, ty_int_list, ty_int_tuple, ty_int_dict, ty_int_W, ty_bool_none, ty_bool_bool, ty_bool_int, ty_bool_str, ty_bool_list, ty_bool_tuple, ty_bool_dict, ty_bool_W, ty_str_none, ty_str_bool, ty_str_int, ty_str_str, ty_str_list, ty_str_tuple, ty_str_dict, ty_str_W, ty_tuple_none, ty_tuple_bool, ty_tuple_int, ty_tuple_str, ty_tuple_list, ty_tuple_tuple, ty_tuple_dict, ty_tuple_W, ty_list_none, ty_list_bool, ty_list_int, ty_list_str, ty_list_list, ty_list_tuple, ty_list_dict, ty_list_W, ty_dict_none, ty_dict_bool, ty_dict_int, ty_dict_str, ty_dict_list, ty_dict_tuple, ty_dict_dict, ty_dict_W, List.any_cons, List.any_nil, Bool.or_false, Bool.false_or, Bool.or_true, Bool.true_or, Bool.not_true, Bool.not_false, Bool.and_true, Bool.true_and, Bool.and_false, Bool.false_and, notNone, cmpD_def, Option.map_some, decide_true, decide_false, int_int, put_l0, put_l1, put_l2, put_l3, ev_call_0, ev_2k, ev_LW, ev_SlO, asStr_W, asList_l, str_nil, beq_self_eq_true, Nat.reduceAdd, Nat.reduceSub, Nat.reduceLeDiff, Int.reduceEq, Int.reduceLE, Int.reduceLT, Int.reduceSub, Int.reduceAdd, Int.reduceNeg, Int.cast_ofNat_Int, Int.natCast_one, Int.natCast_zero])
/-! ### the package: words -/
theorem is_integer_ev (i : Int) : m_is_integer [.int i] [] = .ok (.bool true) [] := by
  unfold m_is_integer b_is_integer
  walk_at "ev"
theorem is_within_ev (i a b : Int) : m_is_within [.int i, .int a, .int b] [] = .ok (.bool (decide (a ≤ i) && decide (i ≤ b))) [] := by
  unfold m_is_within b_is_within
  walk_at "ev"
  rw [is_integer_ev]
  walk_at "ev"
  cases h : decide (a ≤ i) <;> walk_at "ev"
theorem is_string_ev (w : Wd) : m_is_string [dW w] [] = .ok (.bool true) [] := by
  unfold m_is_string b_is_string dW
  walk_at "ev"
theorem is_tuple_of_ev (xs : List D) (n : Int) : m_is_tuple_of [.tuple xs, .int n] [] = .ok (.bool (decide ((xs.length : Int) = n))) [] := by
  unfold m_is_tuple_of b_is_tuple_of
  walk_at "ev"
theorem is_word_ev (L w : Wd) (n : Int) : m_is_word [dW L, dW w, .int n] [] = .ok (.bool (decide ((w.length : Int) ≤ n) && w.all fun c => decide (c ∈ L))) [] := by
  unfold m_is_word b_is_word
  walk_at "ev"
  rw [is_string_ev]
  walk_at "ev"
  cases h : decide ((w.length : Int) ≤ n) <;> walk_at "ev"
  rw [lcGo_all dCh (fun c => .bool (decide (c ∈ L))) w fun c hc => by walk_at "ev"; rw [mem_sign]; walk_at "ev"]
  walk_at "ev"
  rw [allD_map]
  walk_at "ev"
theorem key_ev (w : Wd) : m_key [dW w] [] = .ok (.tuple [.int w.length, dW w]) [] := by
  unfold m_key b_key
  walk_at "ev"
theorem is_less_ev (a b : Wd) : m_is_less [dW a, dW b] [] = .ok (.bool (wless a b)) [] := by
  unfold m_is_less b_is_less
  walk_at "ev"
  rw [key_ev]
  walk_at "ev"
  rw [key_ev]
  walk_at "ev"
  rw [keyLt]
  walk_at "ev"
/-- the places at which a part stands -/
def stn (w p : Wd) : List Nat := (List.range (w.length + 1 - p.length)).filter fun i => decide ((w.drop i).take p.length = p)
theorem stn_mem (a p b : Wd) : a.length ∈ stn (a ++ p ++ b) p := by
  unfold stn
  rw [List.mem_filter, List.mem_range]
  refine ⟨by simp only [List.length_append]; omega, ?_⟩
  rw [decide_eq_true_iff, List.append_assoc, List.drop_left' rfl, List.take_left' rfl]
theorem stn_cut {w p : Wd} {i : Nat} (h : i ∈ stn w p) : ∃ a b, w = a ++ p ++ b ∧ a.length = i := by
  unfold stn at h
  rw [List.mem_filter, List.mem_range, decide_eq_true_iff] at h
  refine ⟨w.take i, w.drop (i + p.length), ?_, by rw [List.length_take]; omega⟩
  conv => lhs; rw [← List.take_append_drop i w, ← List.take_append_drop p.length (w.drop i), h.2, List.drop_drop]
  rw [List.append_assoc]
def Sm : Nat := 1000000
theorem Sm_def : Sm = 1000000 := rfl
theorem rg_stn (w p : Wd) (hw : w.length ≤ Sm) (hp : p.length ≤ Sm) : rgN 0 ((w.length : Int) - p.length + 1) = some ((List.range (w.length + 1 - p.length)).map fun (k : Nat) => PyData.int k) := by
  rw [Sm_def] at hw hp
  rw [rgZ (by omega) (by omega)]
  congr 3; omega
theorem places_of_ev (w p : Wd) (hw : w.length ≤ Sm) (hp : p.length ≤ Sm) : m_places_of [dW w, dW p] [] = .ok (.tuple ((stn w p).map fun (k : Nat) => PyData.int k)) [] := by
  unfold m_places_of b_places_of
  walk_at "ev"
  rw [rg_stn w p hw hp]
  walk_at "ev"
  rw [lcGo_map (fun (k : Nat) => PyData.int k) (fun i => decide ((w.drop i).take p.length = p)) (fun (k : Nat) => PyData.int k)]
  · walk_at "ev"
    rfl
  · intro k hk
    walk_at "ev"
    rw [cut_mid _ (by omega) (by omega), show ((k : Int) + p.length).toNat - (k : Int).toNat = p.length by omega, show (k : Int).toNat = k by omega]
    exact ⟨rfl, fun _ => trivial⟩
theorem with_part_ev (a o b p : Wd) (h : (a ++ o ++ b).length ≤ Sm) (hp : p.length ≤ Sm) : m_with_part [dW (a ++ o ++ b), .int a.length, .int o.length, dW p] [] = .ok (dW (a ++ p ++ b)) [] := by
  unfold m_with_part b_with_part
  rw [Sm_def] at h hp
  simp only [List.length_append] at h
  walk_at "ev"
  rw [cut_take _ (by omega), show (a.length : Int).toNat = a.length by omega, List.append_assoc, List.take_left' rfl, add_W (by rw [LIM_def]; omega)]
  walk_at "ev"
  rw [cut_drop _ (by omega), show ((a.length : Int) + o.length).toNat = (a ++ o).length by simp only [List.length_append]; omega, ← List.append_assoc, List.drop_left' rfl, add_W (by rw [LIM_def]; simp only [List.length_append]; omega)]
  walk_at "ev"
/-! ### the package: line uses -/
theorem back_uses_ev (r : List Use) : m_back_uses [dR r] [] = .ok (.list ((back r).map dU)) [] := by
  unfold m_back_uses b_back_uses dR
  walk_at "ev"
  rw [← List.map_reverse, lcGo_all dU (fun u => dU (rvU u)) r.reverse fun u hu => by unfold dU; walk_at "ev"; rfl]
  walk_at "ev"
  unfold back
  rw [List.map_map]
  rfl
def dBk (nm L : Wd) (laws : List Lw) : D := .tuple [dW nm, dW L, .tuple (laws.map dLw)]
variable {laws : List Lw} {ls : List Line} {nm L w w1 : Wd} {u : Use} {r : List Use} {M : Nat}
/-- words that are not too long -/
def Sml (n : Nat) (ps : List Lw) : Prop := ∀ p ∈ ps, p.1.length ≤ n ∧ p.2.length ≤ n
theorem couple_used_ev {k i p y : Int} {c : Lw} (h : cpl laws (ls.map pr) k i = some c) (hy : y = 0 ∨ y = 1) : m_couple_used [dBk nm L laws, dLs ls, dU (k, i, p, y)] [] = .ok (.tuple [dW c.1, dW c.2]) [] := by
  unfold m_couple_used b_couple_used dBk dLs dU
  walk_at "ev"
  rw [is_tuple_of_ev]
  walk_at "ev"
  rw [is_within_ev]
  have h' := h
  unfold cpl at h
  split at h
  · rename_i h0
    have hk : k = 0 ∨ k = 1 := by
      split at h
      · rename_i q; exact .inl q
      · split at h
        · rename_i q; exact .inr q
        · cases h
    have hkb : (decide (0 ≤ k) && decide (k ≤ 1)) = true := by rcases hk with rfl | rfl <;> decide
    have hyb : (decide (0 ≤ y) && decide (y ≤ 1)) = true := by rcases hy with rfl | rfl <;> decide
    walk_at "ev"
    rw [hkb]
    walk_at "ev"
    rw [is_within_ev]
    walk_at "ev"
    rw [hyb]
    walk_at "ev"
    rcases hk with rfl | rfl
    · rw [if_pos rfl] at h
      have hl := (List.getElem?_eq_some_iff.mp h).1
      walk_at "ev"
      rw [is_within_ev]
      have hb : (decide (0 ≤ i) && decide (i ≤ ((laws.map dLw).length : Int) - 1)) = true := by
        rw [List.length_map]; simp; omega
      walk_at "ev"
      rw [hb]
      walk_at "ev"
      rw [idx_tup h0 (by rw [List.length_map]; exact hl), List.getElem?_map, h]
      walk_at "ev"
      simp only [dLw]
      walk_at "ev"
      rw [cut_take _ (by decide)]
      rfl
    · rw [if_neg (by decide), if_pos rfl, List.getElem?_map] at h
      cases e : ls[i.toNat]? with
      | none => rw [e] at h; cases h
      | some l =>
        rw [e] at h
        simp only [Option.map_some, Option.some.injEq] at h
        have hl := (List.getElem?_eq_some_iff.mp e).1
        have e10 : decide ((1 : Int) = 0) = false := by decide
        rw [e10]
        walk_at "ev"
        rw [is_within_ev]
        have hb : (decide (0 ≤ i) && decide (i ≤ ((ls.map dLn).length : Int) - 1)) = true := by
          rw [List.length_map]; simp; omega
        walk_at "ev"
        rw [hb]
        walk_at "ev"
        rw [idx_tup h0 (by rw [List.length_map]; exact hl), List.getElem?_map, e]
        walk_at "ev"
        simp only [dLn]
        walk_at "ev"
        rw [cut_take _ (by decide), ← h]
        rfl
  · cases h
theorem idx_side {c : Lw} {y : Int} (hy : y = 0 ∨ y = 1) : idxD (.tuple [dW c.1, dW c.2]) (.int y) = some (dW (side c y)) := by
  rcases hy with rfl | rfl <;> rfl
theorem side_len {ps : List Lw} {n : Nat} (h : Sml n laws) (h2 : Sml n ps) {k i y : Int} {c : Lw} (hc : cpl laws ps k i = some c) : (side c y).length ≤ n := by
  have hm : c ∈ laws ∨ c ∈ ps := by
    unfold cpl at hc
    split at hc
    · split at hc
      · exact .inl (List.mem_of_getElem? hc)
      · split at hc
        · exact .inr (List.mem_of_getElem? hc)
        · cases hc
    · cases hc
  unfold side
  rcases hm with hm | hm
  · have := h c hm; split <;> omega
  · have := h2 c hm; split <;> omega
open Classical in
theorem nmem_places {n : Nat} {w p : Wd} (h : n ∈ stn w p) : cmpB .nmem (.int n) (.tuple ((stn w p).map fun (k : Nat) => PyData.int k)) = some false := by
  rw [nmem_of (mem_gdt (gd_int _) ((gn_tup (n := 0) (gn_map fun x hx => gn_int _)).gd (by decide)))]
  rw [decide_eq_true (List.mem_map_of_mem (f := fun (k : Nat) => PyData.int k) h)]
  rfl
theorem after_line_use_ev (h : U1 laws (ls.map pr) w u w1) (hw : w.length ≤ Sm) (hl : Sml Sm laws) (hs : Sml Sm (ls.map pr)) : m_after_line_use [dBk nm L laws, dLs ls, dW w, dU u] [] = .ok (dW w1) [] := by
  cases h with
  | mk a b k i y c hc hy =>
    unfold m_after_line_use b_after_line_use
    walk_at "ev"
    rw [couple_used_ev hc hy]
    walk_at "ev"
    unfold dU
    walk_at "ev"
    rw [idx_side hy]
    walk_at "ev"
    rw [idx_side (show 1 - y = 0 ∨ 1 - y = 1 by omega)]
    walk_at "ev"
    rw [is_within_ev]
    have hb : (decide (0 ≤ (a.length : Int)) && decide ((a.length : Int) ≤ ((a ++ side c y ++ b).length : Int))) = true := by
      simp only [List.length_append, Bool.and_eq_true, decide_eq_true_eq]; omega
    walk_at "ev"
    rw [hb]
    walk_at "ev"
    rw [places_of_ev _ _ hw (side_len hl hs hc)]
    walk_at "ev"
    rw [nmem_places (stn_mem a _ b)]
    walk_at "ev"
    rw [with_part_ev _ _ _ _ hw (side_len hl hs hc)]
    walk_at "ev"
theorem after_row_ev (h : Wk M laws (ls.map pr) w r w1) (hM : M ≤ Sm) (hl : Sml Sm laws) (hs : Sml Sm (ls.map pr)) : m_after_row [dBk nm L laws, dLs ls, dW w, dR r] [] = .ok (dW w1) [] := by
  unfold m_after_row b_after_row dR
  walk_at "ev"
  have key : ∀ (R : D) (r : List Use) (w : Wd) (o : Option D), Wk M laws (ls.map pr) w r w1 → St1 (sForGo (.nm 4) (sAsg (.nm 2) (eCall m_after_line_use [.sh (eVar 0), .sh (eVar 1), .sh (eVar 2), .sh (eVar 4)])) (r.map dU) [some (dBk nm L laws), some (dLs ls), some (dW w), some R, o] []) fun ρ ω => ω = [] ∧ ∃ o', ρ = [some (dBk nm L laws), some (dLs ls), some (dW w1), some R, o'] := by
    intro R r
    induction r with
    | nil => intro w o h; cases h; rw [List.map_nil]; walk_at "ev"; exact ⟨trivial, o, rfl⟩
    | cons u r ih =>
      intro w o h
      cases h with
      | cons h s t =>
      rw [List.map_cons]
      walk_at "ev"
      rw [after_line_use_ev s (by omega) hl hs]
      walk_at "ev"
      exact ih _ _ t
  obtain ⟨ρ', ω', e, hω, o', hρ⟩ := St1_ex (key _ r w none h)
  subst hω hρ
  rw [e]
  walk_at "ev"
theorem does_lead_ev (h : Wk M laws (ls.map pr) w r w1) (hM : M ≤ Sm) (hl : Sml Sm laws) (hs : Sml Sm (ls.map pr)) (w2 : Wd) : m_does_lead [dBk nm L laws, dLs ls, dW w, dW w2, dR r] [] = .ok (.bool (decide (w1 = w2))) [] := by
  unfold m_does_lead b_does_lead sTryC
  walk_at "ev"
  rw [after_row_ev h hM hl hs]
  walk_at "ev"
end K00

set_option Elab.async false
set_option linter.all false
set_option maxRecDepth 100000
set_option maxHeartbeats 1000000
namespace K00
open PySem Wc Pp
local macro_rules | `(tactic| walk_at "ev") => `(tactic| simp only [dLn_0, dLn_1, dLn_2, RB_ok, RB_ex, LF_some, ev_bind, ev_pure, ev_lift, SB_ok, SB_ex, SQ_nx, SQ_rt, SQ_ex, SQ_bk, SQ_ct, VR_ok, ev_var, ev_own, GV_ok, ev_give, ev_c, ev_1, ev_2, ev_2o, ev_tC, ev_tCo, CH_t, CH_f, ev_tCh, ev_tB, ev_tAnd, ev_tOr, ev_tNot, ev_tYes, ev_eT, ev_eAnd, ev_eOr, ev_eNot, ev_eIf, ev_eCh, ev_items_nil, ev_items_one, ev_items_star, ev_eTup, ev_eLst, PT_int, ev_part_n, ev_part_s, ev_eSl, ev_args_nil, ev_args_sh, ev_args_ow, CB_ok, CB_ex, ev_call0, ev_eCall, owns, putO, ev_wOf, RN_int, ev_wRange, RND_int, ev_wDown, ev_wEnum, ev_wZip, ev_eLc, ev_eDc, OB_some, bt_nm, bt_tup, bt_nil, bt_cons, ev_nil, ev_seq, ev_asg, NX_some, ev_par2, P1.e, P1.ρ, P1.ω, ev_own_set, ev_aug, IFS_t, IFS_f, ev_if, ev_ret, ev_drop, ev_raise, MK_some, MKo_some, ev_mutK, ev_mut, ev_lstE, ev_put, ev_augI, ev_for, FG_nx, FG_ct, FG_bk, FG_rt, FG_ex, FB_some, for_nil, for_cons, DF_nx, DF_rt, DF_ex, ev_defM, entryE, Bd_some, St1_nx, List.getElem?_cons_succ, List.getElem?_cons_zero, List.set_cons_succ, List.set_cons_zero, List.replicate_succ, List.replicate_zero, List.length_cons, List.length_nil, List.nil_append, List.cons_append, List.take_zero, List.take_succ_cons, List.take_nil, wipeE, limited_k, truth_b, add_int, sub_int, addI_int, neg_int, len_W, len_tup, len_lst, items_tup, items_lst, items_W, seq_tup, seq_lst, tup_tup, tup_lst, rev_tup, rev_lst, idx_t0, idx_t1, idx_t2, idx_t3, idx_l0, idx_l1, idx_l2, idx_l3, sl_tup, sl_lst, sl_W, cmp_lt, cmp_le, cmp_gt, cmp_ge, cmp_isN, cmp_notN, cmp_isB, cmp_notB, eq_int, ne_int, eq_W, ne_W, eq_b, ne_b, isT_def, ty_int_none, ty_int_bool, ty_int_int, ty_int_str, ty_int_list, ty_int_tuple, ty_int_dict, ty_int_W, ty_bool_none, ty_bool_bool, ty_bool_int, ty_bool_str, ty_bool_list, ty_bool_tuple, ty_bool_dict, ty_bool_W, ty_str_none, ty_str_bool, ty_str_int, ty_str_str, ty_str_list, ty_str_tuple, ty_str_dict, ty_str_W, ty_tuple_none, ty_tuple_bool, ty_tuple_int, ty_tuple_str, ty_tuple_list, ty_tuple_tuple, ty_tuple_dict, ty_tuple_W, ty_list_none, ty_list_bool, ty_list_int, ty_list_str, ty_list_list, ty_list_tuple, ty_list_dict, ty_list_W, ty_dict_none, ty_dict_bool, ty_dict_int, ty_dict_str, ty_dict_list, ty_dict_tuple, ty_dict_dict, ty_dict_W, List.any_cons, List.any_nil, Bool.or_false, Bool.false_or, Bool.or_true, Bool.true_or, Bool.not_true, Bool.not_false, Bool.and_true, Bool.true_and, Bool.and_false, Bool.false_and, notNone, cmpD_def, Option.map_some, decide_true, decide_false, int_int, put_l0, put_l1, put_l2, put_l3, ev_call_0, ev_2k, ev_LW, ev_SlO, asStr_W, asList_l, str_nil, beq_self_eq_true, Nat.reduceAdd, Nat.reduceSub, Nat.reduceLeDiff, Int.reduceEq, Int.reduceLE, Int.reduceLT, Int.reduceSub, Int.reduceAdd, Int.reduceNeg, Int.cast_ofNat_Int, Int.natCast_one, Int.natCast_zero])
variable {laws : List Lw} {ls ls2 : List Line} {l : Line} {nm L w w1 w2 : Wd} {u : Use} {r r2 row : List Use} {M : Nat} {ks : List Nat}
/-! ### the package: lines -/
def GW (L w : Wd) : Prop := w.length ≤ 200 ∧ ∀ c ∈ w, c ∈ L
def GL (L : Wd) (ls : List Line) : Prop := ∀ l ∈ ls, GW L l.1 ∧ GW L l.2.1
theorem GW.b (h : GW L w) : (decide ((w.length : Int) ≤ 200) && w.all fun c => decide (c ∈ L)) = true := by
  rw [Bool.and_eq_true, List.all_eq_true]
  exact ⟨decide_eq_true (by have := h.1; omega), fun c hc => decide_eq_true (h.2 c hc)⟩
theorem GL.sml (h : GL L ls) : Sml Sm (ls.map pr) := by
  intro p hp
  obtain ⟨l, hl, rfl⟩ := List.mem_map.mp hp
  have := h l hl
  rw [Sm_def]
  exact ⟨Nat.le_trans this.1.1 (by decide), Nat.le_trans this.2.1 (by decide)⟩
theorem line_fault_ev (hv : wless l.2.1 l.1 = true) (h : Wk M laws (ls.map pr) l.1 l.2.2 l.2.1) (hM : M ≤ Sm) (hl : Sml Sm laws) (hg : GL L ls) (h1 : GW L l.1) (h2 : GW L l.2.1) : m_line_fault [dBk nm L laws, dLs ls, dLn l] [] = .ok .none [] := by
  unfold m_line_fault b_line_fault dLn
  walk_at "ev"
  rw [is_tuple_of_ev]
  walk_at "ev"
  rw [cut_take _ (by decide), show (2 : Int).toNat = 2 by decide]
  walk_at "ev"
  rw [show [dW l.1, dW l.2.1] = [l.1, l.2.1].map dW from rfl, lcGo_all dW (fun w => .bool (decide ((w.length : Int) ≤ 200) && w.all fun c => decide (c ∈ L))) _ fun w hw => by
    unfold dBk; walk_at "ev"; rw [is_word_ev]; walk_at "ev"]
  walk_at "ev"
  rw [allD_map]
  walk_at "ev"
  rw [show ([l.1, l.2.1].all fun w => (decide ((w.length : Int) ≤ 200) && w.all fun c => decide (c ∈ L))) = true by simp only [List.all_cons, List.all_nil, h1.b, h2.b]; rfl]
  walk_at "ev"
  rw [is_less_ev, hv]
  walk_at "ev"
  rw [does_lead_ev h hM hl hg.sml, show decide (l.2.1 = l.2.1) = true from decide_eq_true rfl]
  walk_at "ev"
theorem lines_fault_ev (hv : VL M laws ls) (hM : M ≤ Sm) (hl : Sml Sm laws) (hg : GL L ls) : m_lines_fault [dBk nm L laws, dLs ls] [] = .ok .none [] := by
  unfold m_lines_fault b_lines_fault
  have e : dLs ls = .tuple (ls.map dLn) := rfl
  rw [e]
  walk_at "ev"
  rw [← e]
  have key : ∀ (post pre : List Line) (o1 o2 o3 : Option D), ls = pre ++ post → St1 (sForGo (.tup [.nm 2, .nm 3]) (sSeq (sAsg (.nm 4) (eCall m_line_fault [.sh (eVar 0), .sh (eSl (eVar 1) none (some (eVar 2))), .sh (eVar 3)])) (sIf (tC .notN (eVar 4) (eC .none)) (sRet (eTup [.one (eVar 2), .one (eVar 4)])) sNil)) (enumFrom pre.length (post.map dLn)) [some (dBk nm L laws), some (dLs ls), o1, o2, o3] []) fun ρ ω => ω = [] := by
    intro post
    induction post with
    | nil => intro pre o1 o2 o3 _; rw [List.map_nil, enumFrom]; walk_at "ev"
    | cons l post ih =>
      intro pre o1 o2 o3 hl'
      rw [List.map_cons, enumFrom]
      walk_at "ev"
      have hi : ls[pre.length]? = some l := by rw [hl', List.getElem?_append_right (Nat.le_refl _)]; simp
      obtain ⟨h1, h2⟩ := hv _ _ hi
      have hm := hg l (List.mem_of_getElem? hi)
      have ht : ls.take pre.length = pre := by rw [hl', List.take_left' rfl]
      conv => enter [1]; unfold dLs
      walk_at "ev"
      rw [cut_take _ (by omega), show ((pre.length : Nat) : Int).toNat = pre.length by omega, ← List.map_take, ht]
      rw [ht] at h2
      have hg' : GL L pre := fun l hl => hg l (by rw [hl']; exact List.mem_append_left _ hl)
      have := line_fault_ev (nm := nm) h1 h2 hM hl hg' hm.1 hm.2
      unfold dLs at this
      rw [this]
      walk_at "ev"
      have := ih (pre ++ [l]) (some (.int pre.length)) (some (dLn l)) (some .none) (by rw [hl']; simp)
      rw [List.length_append, List.length_singleton] at this
      exact this
  obtain ⟨ρ', ω', e2, hω⟩ := St1_ex (key ls [] none none none rfl)
  subst hω
  rw [show enumFrom 0 (ls.map dLn) = enumFrom ([] : List Line).length (ls.map dLn) from rfl, e2]
  walk_at "ev"
theorem are_lines_ev (hv : VL M laws ls) (hM : M ≤ Sm) (hl : Sml Sm laws) (hg : GL L ls) : m_are_lines [dBk nm L laws, dLs ls] [] = .ok (.bool true) [] := by
  unfold m_are_lines b_are_lines
  walk_at "ev"
  rw [lines_fault_ev hv hM hl hg]
  walk_at "ev"
def dP (ls : List Line) (r : List Use) : D := .tuple [.str "alike", dLs ls, dR r]
theorem shows_alike_ev (hv : VL M laws ls) (hM : M ≤ Sm) (hl : Sml Sm laws) (hg : GL L ls) (h : Wk M laws (ls.map pr) w r w1) (w2 : Wd) : m_shows_alike [dBk nm L laws, dW w, dW w2, dP ls r] [] = .ok (.bool (decide (w1 = w2))) [] := by
  unfold m_shows_alike b_shows_alike dP
  walk_at "ev"
  rw [is_tuple_of_ev]
  walk_at "ev"
  rw [cmp_eq_self (gd_str _)]
  walk_at "ev"
  rw [are_lines_ev hv hM hl hg]
  walk_at "ev"
  rw [does_lead_ev h hM hl hg.sml]
  walk_at "ev"
/-! ### the package: papers -/
def tooMany (x : Str) (n : Int) : Exn := ⟨"TooMany", [("what", .str x), ("limit", .int n)]⟩
theorem roomy_ev (xs ys : List D) : m_roomy [.tuple xs, .tuple ys] [] = if 400 < xs.length then .ex (tooMany "lines" 400) [] else if 2000 < ys.length then .ex (tooMany "uses" 2000) [] else .ok (.tuple [.str "alike", .tuple xs, .tuple ys]) [] := by
  unfold m_roomy b_roomy
  walk_at "ev"
  by_cases h : 400 < xs.length
  · rw [if_pos h, show decide ((400 : Int) < xs.length) = true from decide_eq_true (by omega)]
    walk_at "ev"
    rfl
  · rw [if_neg h, show decide ((400 : Int) < xs.length) = false from decide_eq_false (by omega)]
    walk_at "ev"
    by_cases h2 : 2000 < ys.length
    · rw [if_pos h2, show decide ((2000 : Int) < ys.length) = true from decide_eq_true (by omega)]
      walk_at "ev"
      rfl
    · rw [if_neg h2, show decide ((2000 : Int) < ys.length) = false from decide_eq_false (by omega)]
      walk_at "ev"
theorem turned_paper_ev (ls : List Line) (r : List Use) : m_turned_paper [dP ls r] [] = .ok (dP ls (back r)) [] := by
  unfold m_turned_paper b_turned_paper dP
  walk_at "ev"
  rw [back_uses_ev]
  walk_at "ev"
  rfl
theorem decide_eqC (a b : Int) (i j : Decidable (a = b)) : @decide _ i = @decide _ j := by congr
theorem further_ev (r : List Use) (n : Int) : m_further [dR r, .int n] [] = .ok (dR (r.map (fuU n))) [] := by
  unfold m_further b_further dR
  walk_at "ev"
  rw [lcGo_all dU (fun u => dU (fuU n u)) r fun u hu => ?_]
  · walk_at "ev"
    rw [List.map_map]
    rfl
  · unfold dU
    walk_at "ev"
    by_cases h : u.1 = 1
    · rw [show decide (u.1 = 1) = true from decide_eq_true h]
      walk_at "ev"
      unfold fuU reU
      simp only
      rw [if_pos h]
    · rw [show decide (u.1 = 1) = false from decide_eq_false h]
      walk_at "ev"
      unfold fuU reU
      simp only
      rw [if_neg h]
theorem lines_further_ev (ls : List Line) (n : Int) : m_lines_further [dLs ls, .int n] [] = .ok (dLs (ls.map (fuL n))) [] := by
  unfold m_lines_further b_lines_further dLs
  walk_at "ev"
  rw [lcGo_all dLn (fun l => dLn (fuL n l)) ls fun l hl => ?_]
  · walk_at "ev"
    rw [List.map_map]
    rfl
  · unfold dLn
    walk_at "ev"
    rw [further_ev]
    walk_at "ev"
    rfl
def joined (l1 : List Line) (r1 : List Use) (l2 : List Line) (r2 : List Use) : D := dP (l1 ++ l2.map (fuL l1.length)) (r1 ++ r2.map (fuU l1.length))
theorem joined_papers_ev (l1 : List Line) (r1 : List Use) (l2 : List Line) (r2 : List Use) (h1 : l1.length + l2.length ≤ Sm) (h2 : r1.length + r2.length ≤ Sm) :
    m_joined_papers [dP l1 r1, dP l2 r2] [] = if 400 < l1.length + l2.length then .ex (tooMany "lines" 400) [] else if 2000 < r1.length + r2.length then .ex (tooMany "uses" 2000) [] else .ok (joined l1 r1 l2 r2) [] := by
  rw [Sm_def] at h1 h2
  unfold m_joined_papers b_joined_papers dP
  walk_at "ev"
  conv => enter [1]; unfold dLs
  walk_at "ev"
  have e : ∀ ls : List Line, PyData.tuple (ls.map dLn) = dLs ls := fun _ => rfl
  have er : ∀ ls : List Use, PyData.tuple (ls.map dU) = dR ls := fun _ => rfl
  rw [e l2, List.length_map, lines_further_ev]
  conv => enter [1]; unfold dLs
  walk_at "ev"
  simp only [List.append_nil]
  rw [limited_k _ (by simp only [List.length_append, List.length_map]; omega)]
  walk_at "ev"
  conv => enter [1]; unfold dR
  walk_at "ev"
  rw [er r2, further_ev]
  conv => enter [1]; unfold dR
  walk_at "ev"
  simp only [List.append_nil]
  rw [limited_k _ (by simp only [List.length_append, List.length_map]; omega)]
  walk_at "ev"
  rw [roomy_ev]
  simp only [List.length_append, List.length_map]
  by_cases q : 400 < l1.length + l2.length
  · rw [if_pos q, if_pos q]; walk_at "ev"
  · rw [if_neg q, if_neg q]
    by_cases q2 : 2000 < r1.length + r2.length
    · rw [if_pos q2, if_pos q2]; walk_at "ev"
    · rw [if_neg q2, if_neg q2]; walk_at "ev"
      unfold joined dP dLs dR
      rw [List.map_append, List.map_append]
theorem placed_paper_ev (ls : List Line) (r : List Use) (x : Wd) : m_placed_paper [dP ls r, dW x] [] = .ok (dP ls (r.map (shU x.length))) [] := by
  unfold m_placed_paper b_placed_paper dP dR
  walk_at "ev"
  rw [lcGo_all dU (fun u => dU (shU x.length u)) r fun u hu => by unfold dU; walk_at "ev"; rfl]
  walk_at "ev"
  rw [List.map_map]
  rfl
def ixs (r : List Use) : List Int := (r.filter fun u => decide (u.1 = 1)).map fun u => u.2.1
theorem lines_in_ev (r : List Use) : m_lines_in [dR r] [] = .ok (.list ((ixs r).map PyData.int)) [] := by
  unfold m_lines_in b_lines_in dR
  walk_at "ev"
  rw [lcGo_map dU (fun u => decide (u.1 = 1)) (fun u => .int u.2.1) r fun u hu => by unfold dU; walk_at "ev"; exact ⟨trivial, fun _ => trivial⟩]
  walk_at "ev"
  unfold ixs
  rw [List.map_map]
  rfl
theorem step_paper_ev (r : List Use) (h : ∀ u ∈ r, u.1 = 0) : m_step_paper [.tuple (r.map fun u => .tuple [.int u.2.1, .int u.2.2.1, .int u.2.2.2])] [] = .ok (dP [] r) [] := by
  unfold m_step_paper b_step_paper
  walk_at "ev"
  rw [lcGo_all (fun u : Use => .tuple [.int u.2.1, .int u.2.2.1, .int u.2.2.2]) dU r fun u hu => by
    unfold dU; walk_at "ev"; rw [h u hu]]
  walk_at "ev"
  rfl
end K00

set_option Elab.async false
set_option linter.all false
set_option maxRecDepth 100000
set_option maxHeartbeats 1000000
namespace K00
open PySem Wc Pp
local macro_rules | `(tactic| walk_at "ev") => `(tactic| simp only [dLn_0, dLn_1, dLn_2, RB_ok, RB_ex, LF_some, ev_bind, ev_pure, ev_lift, SB_ok, SB_ex, SQ_nx, SQ_rt, SQ_ex, SQ_bk, SQ_ct, VR_ok, ev_var, ev_own, GV_ok, ev_give, ev_c, ev_1, ev_2, ev_2o, ev_tC, ev_tCo, CH_t, CH_f, ev_tCh, ev_tB, ev_tAnd, ev_tOr, ev_tNot, ev_tYes, ev_eT, ev_eAnd, ev_eOr, ev_eNot, ev_eIf, ev_eCh, ev_items_nil, ev_items_one, ev_items_star, ev_eTup, ev_eLst, PT_int, ev_part_n, ev_part_s, ev_eSl, ev_args_nil, ev_args_sh, ev_args_ow, CB_ok, CB_ex, ev_call0, ev_eCall, owns, putO, ev_wOf, RN_int, ev_wRange, RND_int, ev_wDown, ev_wEnum, ev_wZip, ev_eLc, ev_eDc, OB_some, bt_nm, bt_tup, bt_nil, bt_cons, ev_nil, ev_seq, ev_asg, NX_some, ev_par2, P1.e, P1.ρ, P1.ω, ev_own_set, ev_aug, IFS_t, IFS_f, ev_if, ev_ret, ev_drop, ev_raise, MK_some, MKo_some, ev_mutK, ev_mut, ev_lstE, ev_put, ev_augI, ev_for, FG_nx, FG_ct, FG_bk, FG_rt, FG_ex, FB_some, for_nil, for_cons, DF_nx, DF_rt, DF_ex, ev_defM, entryE, Bd_some, St1_nx, List.getElem?_cons_succ, List.getElem?_cons_zero, List.set_cons_succ, List.set_cons_zero, List.replicate_succ, List.replicate_zero, List.length_cons, List.length_nil, List.nil_append, List.cons_append, List.take_zero, List.take_succ_cons, List.take_nil, wipeE, limited_k, truth_b, add_int, sub_int, addI_int, neg_int, len_W, len_tup, len_lst, items_tup, items_lst, items_W, seq_tup, seq_lst, tup_tup, tup_lst, rev_tup, rev_lst, idx_t0, idx_t1, idx_t2, idx_t3, idx_l0, idx_l1, idx_l2, idx_l3, sl_tup, sl_lst, sl_W, cmp_lt, cmp_le, cmp_gt, cmp_ge, cmp_isN, cmp_notN, cmp_isB, cmp_notB, eq_int, ne_int, eq_W, ne_W, eq_b, ne_b, isT_def, ty_int_none, ty_int_bool, ty_int_int, ty_int_str, ty_int_list, ty_int_tuple, ty_int_dict, ty_int_W, ty_bool_none, ty_bool_bool, ty_bool_int, ty_bool_str, ty_bool_list, ty_bool_tuple, ty_bool_dict, ty_bool_W, ty_str_none, ty_str_bool, ty_str_int, ty_str_str, ty_str_list, ty_str_tuple, ty_str_dict, ty_str_W, ty_tuple_none, ty_tuple_bool, ty_tuple_int, ty_tuple_str, ty_tuple_list, ty_tuple_tuple, ty_tuple_dict, ty_tuple_W, ty_list_none, ty_list_bool, ty_list_int, ty_list_str, ty_list_list, ty_list_tuple, ty_list_dict, ty_list_W, ty_dict_none, ty_dict_bool, ty_dict_int, ty_dict_str, ty_dict_list, ty_dict_tuple, ty_dict_dict, ty_dict_W, List.any_cons, List.any_nil, Bool.or_false, Bool.false_or, Bool.or_true, Bool.true_or, Bool.not_true, Bool.not_false, Bool.and_true, Bool.true_and, Bool.and_false, Bool.false_and, notNone, cmpD_def, Option.map_some, decide_true, decide_false, int_int, put_l0, put_l1, put_l2, put_l3, ev_call_0, ev_2k, ev_LW, ev_SlO, asStr_W, asList_l, str_nil, beq_self_eq_true, Nat.reduceAdd, Nat.reduceSub, Nat.reduceLeDiff, Int.reduceEq, Int.reduceLE, Int.reduceLT, Int.reduceSub, Int.reduceAdd, Int.reduceNeg, Int.cast_ofNat_Int, Int.natCast_one, Int.natCast_zero])
variable {laws : List Lw} {ls ls2 : List Line} {l : Line} {nm L w w1 w2 : Wd} {u : Use} {r r2 row : List Use} {M : Nat} {ks ds : List Nat}
/-! ### a dict of numbers that are there -/
def eDs (ds : List Nat) : List (D × D) := ds.map fun (k : Nat) => (PyData.int k, PyData.bool true)
def adD (ds : List Nat) (k : Nat) : List Nat := if k ∈ ds then ds else ds ++ [k]
theorem eqv_ints (a b : Int) : PyData.eqv (.int a) (.int b) = decide (a = b) := by
  rw [Bool.eq_iff_iff, decide_eq_true_iff, eqv_dec rfl rfl]; simp
theorem any_ds (ds : List Nat) (k : Nat) : ((eDs ds).any fun kv => PyData.eqv kv.1 (.int k)) = decide (k ∈ ds) := by
  rw [Bool.eq_iff_iff, List.any_eq_true, decide_eq_true_iff]
  unfold eDs
  constructor
  · rintro ⟨kv, hkv, e⟩
    obtain ⟨j, hj, rfl⟩ := List.mem_map.mp hkv
    simp only [eqv_ints, decide_eq_true_eq] at e
    have : j = k := by omega
    exact this ▸ hj
  · intro h
    exact ⟨_, List.mem_map.mpr ⟨k, h, rfl⟩, by simp [eqv_ints]⟩
theorem dput_ds (ds : List Nat) (k : Nat) : dput (eDs ds) (.int k) (.bool true) = eDs (adD ds k) := by
  unfold dput adD
  rw [any_ds]
  by_cases h : k ∈ ds
  · rw [if_pos (decide_eq_true h), if_pos h]
    unfold eDs
    rw [List.map_map]
    apply List.map_congr_left
    intro j _
    simp only [Function.comp]
    split <;> rfl
  · rw [if_neg (by simp [h]), if_neg h]
    unfold eDs
    rw [List.map_append]; rfl
theorem mem_ds (ds : List Nat) (k : Nat) : cmpB .mem (.int k) (.dict (eDs ds)) = some (decide (k ∈ ds)) := by
  have h : memD (.int k) (.dict (eDs ds)) = some (decide (k ∈ ds)) := by
    unfold memD keyOf
    simp only
    rw [← any_ds]
    congr 1
    unfold dget
    rw [Option.isSome_map]
    rw [Bool.eq_iff_iff, List.find?_isSome, List.any_eq_true]
  rw [← h]; rfl
theorem put_ds (ds : List Nat) {i : Int} (h0 : 0 ≤ i) (hl : ds.length < 16777216) : gPut (.dict (eDs ds)) [.bool true, .int i] = some (.dict (eDs (adD ds i.toNat))) := by
  unfold gPut keyOf
  simp only
  have : i = ((i.toNat : Nat) : Int) := by omega
  rw [if_pos (by unfold eDs; rw [List.length_map]; exact hl)]
  conv => lhs; rw [this, dput_ds]
def adA (ds : List Nat) (is : List Int) : List Nat := is.foldl (fun ds i => adD ds i.toNat) ds
theorem mem_adD {ds : List Nat} {k j : Nat} : j ∈ adD ds k ↔ j ∈ ds ∨ j = k := by
  unfold adD
  split
  · constructor
    · exact .inl
    · rintro (h | rfl)
      · exact h
      · assumption
  · simp
theorem nd_adD {ds : List Nat} {k : Nat} (h : ds.Nodup) : (adD ds k).Nodup := by
  unfold adD
  split
  · exact h
  · rw [List.nodup_append]
    refine ⟨h, by simp, ?_⟩
    intro a ha b hb
    simp at hb
    subst hb
    intro e; subst e; contradiction
theorem len_adD (ds : List Nat) (k : Nat) : (adD ds k).length ≤ ds.length + 1 := by
  unfold adD
  split <;> simp
theorem mem_adA : ∀ {is : List Int} {ds : List Nat} {j : Nat}, j ∈ adA ds is ↔ j ∈ ds ∨ ∃ i ∈ is, i.toNat = j
  | [], ds, j => by simp [adA]
  | i :: is, ds, j => by
    have := mem_adA (is := is) (ds := adD ds i.toNat) (j := j)
    unfold adA at this ⊢
    rw [List.foldl_cons, this, mem_adD]
    constructor
    · rintro ((h | h) | ⟨i', hi, e⟩)
      · exact .inl h
      · exact .inr ⟨i, List.mem_cons_self, h.symm⟩
      · exact .inr ⟨i', List.mem_cons_of_mem _ hi, e⟩
    · rintro (h | ⟨i', hi, e⟩)
      · exact .inl (.inl h)
      · rcases List.mem_cons.mp hi with rfl | hi
        · exact .inl (.inr e.symm)
        · exact .inr ⟨i', hi, e⟩
theorem nd_adA : ∀ {is : List Int} {ds : List Nat}, ds.Nodup → (adA ds is).Nodup
  | [], _, h => h
  | i :: is, ds, h => by
    have := nd_adA (is := is) (nd_adD (k := i.toNat) h)
    unfold adA at this ⊢
    rwa [List.foldl_cons]
theorem nodup_len {ds : List Nat} {n : Nat} (h : ds.Nodup) (hn : ∀ k ∈ ds, k < n) : ds.length ≤ n := by
  have p : (ds.mergeSort fun a b => decide (a ≤ b)).Perm ds := List.mergeSort_perm ds _
  have h1 : (ds.mergeSort fun a b => decide (a ≤ b)).Pairwise (fun a b => decide (a ≤ b) = true) := List.pairwise_mergeSort (by intro a b c; simp; omega) (by intro a b; simp; omega) ds
  have h2 : (ds.mergeSort fun a b => decide (a ≤ b)).Nodup := p.nodup_iff.mpr h
  have h3 : (ds.mergeSort fun a b => decide (a ≤ b)).Pairwise (· < ·) := (h1.and h2).imp fun ⟨a, b⟩ => by simp at a; omega
  have := asc_len (lo := 0) (n := n) h3 fun k hk => ⟨Nat.zero_le _, hn k (p.mem_iff.mp hk)⟩
  rw [p.length_eq] at this
  omega
theorem sort_ds (nd : ds.Nodup) (hl : ds.length < 64) : ∃ ks : List Nat, sortD (.dict (eDs ds)) = some (.list (ks.map fun (k : Nat) => PyData.int k)) ∧ ks.Pairwise (· < ·) ∧ ∀ i, i ∈ ks ↔ i ∈ ds := by
  have p : (ds.mergeSort fun a b => decide (a ≤ b)).Perm ds := List.mergeSort_perm ds _
  have h1 : (ds.mergeSort fun a b => decide (a ≤ b)).Pairwise (fun a b => decide (a ≤ b) = true) := List.pairwise_mergeSort (by intro a b c; simp; omega) (by intro a b; simp; omega) ds
  have h2 : (ds.mergeSort fun a b => decide (a ≤ b)).Nodup := p.nodup_iff.mpr nd
  refine ⟨ds.mergeSort fun a b => decide (a ≤ b), ?_, (h1.and h2).imp fun ⟨a, b⟩ => by simp at a; omega, fun i => p.mem_iff⟩
  have e : ((eDs ds).map (·.1)).mapM intOf = some (ds.map fun (k : Nat) => (k : Int)) := by
    clear nd hl p h1 h2
    induction ds with
    | nil => rfl
    | cons d ds ih =>
      unfold eDs at ih ⊢
      rw [List.map_cons, List.map_cons, List.mapM_cons, ih]
      rfl
  unfold sortD
  simp only [e]
  rw [if_pos (by rw [List.length_map]; exact hl)]
  rw [← List.map_mergeSort (r := fun a b => decide (a ≤ b)) (f := fun (k : Nat) => (k : Int)) (by intro a _ b _; simp)]
  rw [List.map_map]
  rfl
/-! ### the lines that a row needs -/
theorem ixs_ok {pairs : List Lw} (h : Pp.Wk M laws pairs w r w1) : ∀ i ∈ ixs r, 0 ≤ i ∧ i.toNat < pairs.length := by
  intro i hi
  unfold ixs at hi
  obtain ⟨u, hu, rfl⟩ := List.mem_map.mp hi
  rw [List.mem_filter, decide_eq_true_iff] at hu
  exact h.ix u hu.1 hu.2
theorem ixs_mem {i : Int} : i ∈ ixs r ↔ ∃ u ∈ r, u.1 = 1 ∧ u.2.1 = i := by
  unfold ixs
  rw [List.mem_map]
  constructor
  · rintro ⟨u, hu, rfl⟩
    rw [List.mem_filter, decide_eq_true_iff] at hu
    exact ⟨u, hu.1, hu.2, rfl⟩
  · rintro ⟨u, hu, h1, rfl⟩
    exact ⟨u, by rw [List.mem_filter, decide_eq_true_iff]; exact ⟨hu, h1⟩, rfl⟩
theorem ixs_len : (ixs r).length ≤ r.length := by
  unfold ixs
  rw [List.length_map]
  exact List.length_filter_le _ _
/-- what the walk down keeps -/
structure Dn (ls : List Line) (row : List Use) (n : Nat) (ds : List Nat) : Prop where
  nd : ds.Nodup
  of : ∀ i ∈ ds, Nd ls row i
  base : ∀ i ∈ ixs row, i.toNat ∈ ds
  cl : ∀ j ∈ ds, n ≤ j → ∀ l, ls[j]? = some l → ∀ i ∈ ixs l.2.2, i.toNat ∈ ds
theorem Dn.start (hi : ∀ i ∈ ixs row, 0 ≤ i ∧ i.toNat < ls.length) : Dn ls row ls.length (adA [] (ixs row)) := by
  refine ⟨nd_adA List.nodup_nil, fun i h => ?_, fun i h => mem_adA.mpr (.inr ⟨i, h, rfl⟩), fun j h hj l hl => ?_⟩
  · rcases mem_adA.mp h with q | ⟨i', q, rfl⟩
    · cases q
    · have h0 := (hi i' q).1
      obtain ⟨u, hu, h1, rfl⟩ := ixs_mem.mp q
      exact .base hu h1 h0
  · have := (List.getElem?_eq_some_iff.mp hl).1; omega
theorem Dn.skip {n : Nat} (h : Dn ls row (n + 1) ds) (hn : n ∉ ds) : Dn ls row n ds :=
  ⟨h.nd, h.of, h.base, fun j hj hn' => h.cl j hj (by rcases Nat.lt_or_eq_of_le hn' with q | q; exact q; subst q; contradiction)⟩
theorem Dn.take {n : Nat} (h : Dn ls row (n + 1) ds) (hn : n ∈ ds) (hl : ls[n]? = some l) (hi : ∀ i ∈ ixs l.2.2, 0 ≤ i ∧ i.toNat < n) : Dn ls row n (adA ds (ixs l.2.2)) := by
  refine ⟨nd_adA h.nd, fun i hi' => ?_, fun i hi' => mem_adA.mpr (.inl (h.base i hi')), fun j hj hn' l' hl' i hi' => ?_⟩
  · rcases mem_adA.mp hi' with q | ⟨i', q, rfl⟩
    · exact h.of i q
    · have h0 := (hi i' q).1
      obtain ⟨u, hu, h1, rfl⟩ := ixs_mem.mp q
      exact .step (h.of n hn) hl hu h1 h0
  · rcases mem_adA.mp hj with q | ⟨i', q, rfl⟩
    · rcases Nat.lt_or_eq_of_le hn' with q2 | q2
      · exact mem_adA.mpr (.inl (h.cl j q q2 l' hl' i hi'))
      · subst q2
        rw [hl] at hl'; cases hl'
        exact mem_adA.mpr (.inr ⟨i, hi', rfl⟩)
    · have := (hi i' q).2; omega
theorem Dn.done (h : Dn ls row 0 ds) : ∀ i, i ∈ ds ↔ Nd ls row i := by
  intro i
  refine ⟨h.of i, fun n => ?_⟩
  induction n with
  | @base u hu h1 h0 => exact h.base _ (ixs_mem.mpr ⟨u, hu, h1, rfl⟩)
  | @step j l u n hl hu h1 h0 ih => exact h.cl j ih (Nat.zero_le _) l hl _ (ixs_mem.mpr ⟨u, hu, h1, rfl⟩)
theorem downN_raw {n : Nat} (h : n ≤ 16777216) : downN ((n : Int) - 1) (-1) = some (intsBy ((n : Int) - 1) (-1) n) := by
  unfold downN in62
  rw [if_pos]
  · congr 2; omega
  · simp only [Bool.and_eq_true, decide_eq_true_eq, LIM_def]
    refine ⟨⟨⟨?_, ?_⟩, ?_, ?_⟩, ?_⟩ <;> first | omega | (apply decide_eq_true; omega)
theorem intsBy_down1 (n : Nat) : intsBy (((n + 1 : Nat) : Int) - 1) (-1) (n + 1) = .int n :: intsBy ((n : Int) - 1) (-1) n := by
  show PyData.int _ :: intsBy _ _ n = _
  rw [show ((n + 1 : Nat) : Int) - 1 = n by omega]
  rfl
/-- sizes of rows -/
def RL (ls : List Line) (row : List Use) : Prop := ls.length ≤ Sm ∧ row.length ≤ Sm ∧ ∀ l ∈ ls, l.2.2.length ≤ Sm
theorem need_loop1 (a b f o4 : Option D) : ∀ (is : List Int) (ds : List Nat) (o3 : Option D), (∀ i ∈ is, 0 ≤ i) → ds.length + is.length < 16777216 →
    St1 (sForGo (.nm 3) (sPut 0 (eC (.bool true)) (eVar 3)) (is.map PyData.int) [a, b, f, o3, o4] [some (.dict (eDs ds))]) fun ρ ω => ω = [some (.dict (eDs (adA ds is)))] ∧ ∃ o, ρ = [a, b, f, o, o4]
  | [], ds, o3, _, _ => by rw [List.map_nil]; walk_at "ev"; exact ⟨rfl, _, rfl⟩
  | i :: is, ds, o3, h, hl => by
    rw [List.map_cons]
    rw [List.length_cons] at hl
    walk_at "ev"
    rw [put_ds ds (h i List.mem_cons_self) (by omega)]
    walk_at "ev"
    have := len_adD ds i.toNat
    exact need_loop1 a b f o4 is (adD ds i.toNat) (some (.int i)) (fun j hj => h j (List.mem_cons_of_mem _ hj)) (by omega)
theorem needed_lines_ev (hv : VL M laws ls) (hw : Pp.Wk M laws (ls.map pr) w row w1) (hr : RL ls row) (hn : ∀ ds : List Nat, ds.Nodup → (∀ i ∈ ds, Nd ls row i) → ds.length < 64) :
    ∃ ks, Kept ls row ks ∧ m_needed_lines [dLs ls, dR row] [] = .ok (.list (ks.map fun (k : Nat) => PyData.int k)) [] := by
  obtain ⟨hr1, hr2, hr3⟩ := hr
  rw [Sm_def] at hr1 hr2
  have hrow := ixs_ok hw
  rw [List.length_map] at hrow
  have hlen := ixs_len (r := row)
  have key : ∀ (n : Nat) (ds : List Nat) (o3 o4 : Option D), n ≤ ls.length → Dn ls row n ds →
      St1 (sForGo (.nm 4) (sIf (tC .mem (eVar 4) (eOwn 0)) (sFor (.nm 3) (wOf (eCall m_lines_in [.sh (e2 idxD (e2 idxD (eVar 0) (eVar 4)) (eC (.int 2)))])) (sPut 0 (eC (.bool true)) (eVar 3))) sNil) (intsBy ((n : Int) - 1) (-1) n) [some (dLs ls), some (dR row), none, o3, o4] [some (.dict (eDs ds))]) fun ρ ω => ∃ ds', Dn ls row 0 ds' ∧ ω = [some (.dict (eDs ds'))] := by
    intro n
    induction n with
    | zero => intro ds o3 o4 _ h; rw [intsBy]; walk_at "ev"; exact ⟨ds, h, rfl⟩
    | succ n ih =>
      intro ds o3 o4 hn' h
      rw [intsBy_down1]
      walk_at "ev"
      rw [mem_ds]
      by_cases q : n ∈ ds
      · rw [decide_eq_true q]
        have hl : ls[n]? = some ls[n] := List.getElem?_eq_getElem (by omega)
        obtain ⟨h1, h2⟩ := hv _ _ hl
        have hi := ixs_ok h2
        rw [List.length_map, List.length_take] at hi
        walk_at "ev"
        conv => enter [1]; unfold dLs
        rw [idx_tup (by omega) (by rw [List.length_map]; omega), List.getElem?_map, show ((n : Nat) : Int).toNat = n by omega, hl]
        walk_at "ev"
        rw [lines_in_ev]
        walk_at "ev"
        have h3 := hr3 _ (List.getElem_mem (show n < ls.length by omega))
        rw [Sm_def] at h3
        have h4 : ds.length ≤ ls.length := nodup_len h.nd fun k hk => nd_lt hv hw (h.of k hk)
        have h5 := ixs_len (r := ls[n].2.2)
        obtain ⟨ρ', ω', e, hω, o, hρ⟩ := St1_ex (need_loop1 (some (.tuple (ls.map dLn))) (some (dR row)) none (some (.int n)) (ixs ls[n].2.2) ds o3 (fun i hi' => (hi i hi').1) (by omega))
        subst hω hρ
        rw [e]
        walk_at "ev"
        exact ih _ _ _ (by omega) (h.take q hl fun i hi' => ⟨(hi i hi').1, by have := (hi i hi').2; omega⟩)
      · rw [decide_eq_false q]
        walk_at "ev"
        exact ih _ _ _ (by omega) (h.skip q)
  unfold m_needed_lines b_needed_lines
  walk_at "ev"
  rw [lines_in_ev]
  walk_at "ev"
  obtain ⟨ρ', ω', e, hω, o, hρ⟩ := St1_ex (need_loop1 (some (dLs ls)) (some (dR row)) none none (ixs row) [] none (fun i hi' => (hrow i hi').1) (by rw [List.length_nil]; omega))
  subst hω hρ
  have e0 : PyData.dict [] = .dict (eDs []) := rfl
  rw [e0, e]
  walk_at "ev"
  conv => enter [1, ks, 2]; unfold dLs
  walk_at "ev"
  rw [List.length_map, downN_raw (by omega)]
  walk_at "ev"
  obtain ⟨ρ', ω', e2, ds', hd, hω⟩ := St1_ex (key ls.length _ o none (Nat.le_refl _) (Dn.start hrow))
  subst hω
  unfold dLs at e2
  rw [e2]
  walk_at "ev"
  obtain ⟨ks, h1, h2, h3⟩ := sort_ds hd.nd (hn _ hd.nd hd.of)
  refine ⟨ks, ⟨h2, fun i => (h3 i).trans (hd.done i)⟩, ?_⟩
  rw [h1]
  walk_at "ev"
/-! ### made lean -/
def enN : List Nat → Nat → List (D × D)
  | [], _ => []
  | k :: r, n => (.int k, .int n) :: enN r (n + 1)
theorem enN_any {j : Nat} : ∀ {ks : List Nat} {n : Nat}, ((enN ks n).any fun kv => PyData.eqv kv.1 (.int j)) = decide (j ∈ ks)
  | [], n => by simp [enN]
  | k :: ks, n => by
    unfold enN
    rw [List.any_cons, enN_any (ks := ks), eqv_ints]
    by_cases h : (k : Int) = j
    · have : j = k := by omega
      subst this
      simp
    · have : j ≠ k := by omega
      simp [h, this]
theorem dc_enum (ω : Om) (a b c d e f : Option D) : ∀ (ks : List Nat) (pre : List Nat) , (pre ++ ks).Nodup →
    dcGo (.tup [.nm 5, .nm 4]) (eVar 4) (eVar 5) [a, b, c, d, e, f] (enumFrom pre.length (ks.map fun (k : Nat) => PyData.int k)) (enN pre 0) ω = .ok (enN (pre ++ ks) 0) ω
  | [], pre, _ => by rw [List.map_nil, enumFrom, List.append_nil]; rfl
  | k :: ks, pre, h => by
    rw [List.map_cons, enumFrom]
    unfold dcGo
    simp only [bt_tup, bt_cons, bt_nm, bt_nil, OB_some, List.set_cons_succ, List.set_cons_zero]
    rw [ev_bind, noEx_ok (a := PyData.int k) (ω' := ω) (by walk_at "ev"), RB_ok, ev_bind, noEx_ok (a := PyData.int pre.length) (ω' := ω) (by walk_at "ev"), RB_ok]
    simp only [keyOf]
    have hk : k ∉ pre := by
      intro hm
      rw [List.nodup_append] at h
      exact h.2.2 k hm k List.mem_cons_self rfl
    have e1 : dput (enN pre 0) (.int k) (.int pre.length) = enN (pre ++ [k]) 0 := by
      unfold dput
      rw [enN_any, if_neg (by simp [hk])]
      have : ∀ (ps : List Nat) (n : Nat), enN ps n ++ [((PyData.int k : D), (PyData.int ((n + ps.length : Nat) : Int) : D))] = enN (ps ++ [k]) n := by
        intro ps
        induction ps with
        | nil => intro n; simp [enN]
        | cons p ps ih =>
          intro n
          rw [List.cons_append]
          unfold enN
          rw [List.cons_append, ← ih (n + 1), List.length_cons, show n + 1 + ps.length = n + (ps.length + 1) by omega]
      have := this pre 0
      rwa [Nat.zero_add] at this
    rw [e1]
    have := dc_enum ω a b c d e f ks (pre ++ [k]) (by simpa using h)
    rw [List.length_append, List.length_singleton, List.append_assoc] at this
    exact this
theorem enN_get : ∀ {ks : List Nat} {i n : Nat}, i ∈ ks → dget (enN ks n) (.int i) = some (.int ((n + ks.idxOf i : Nat) : Int))
  | k :: ks, i, n, h => by
    unfold enN dget
    rw [List.find?_cons, eqv_ints]
    by_cases q : k = i
    · subst q
      rw [decide_eq_true rfl]
      simp
    · rw [decide_eq_false (by omega)]
      have hm : i ∈ ks := by rcases List.mem_cons.mp h with e | e; exact absurd e.symm q; exact e
      have := enN_get (ks := ks) (n := n + 1) hm
      unfold dget at this
      rw [this, List.idxOf_cons]
      have : (k == i) = false := by simp [q]
      rw [this]
      simp only [cond_false]
      rw [show n + 1 + ks.idxOf i = n + (ks.idxOf i + 1) by omega]
theorem renumbered_ev (h : ∀ u ∈ r, u.1 = 1 → 0 ≤ u.2.1 ∧ u.2.1.toNat ∈ ks) : m_renumbered [dR r, .dict (enN ks 0)] [] = .ok (dR (r.map (reU (nix ks)))) [] := by
  unfold m_renumbered b_renumbered dR
  walk_at "ev"
  rw [lcGo_all dU (fun u => dU (reU (nix ks) u)) r fun u hu => ?_]
  · walk_at "ev"
    rw [List.map_map]
    rfl
  · unfold dU
    walk_at "ev"
    by_cases q : u.1 = 1
    · rw [show decide (u.1 = 1) = true from decide_eq_true q]
      obtain ⟨h0, hm⟩ := h u hu q
      walk_at "ev"
      have e : dgetD (.dict (enN ks 0)) (.int u.2.1) = some (.int (nix ks u.2.1)) := by
        unfold dgetD keyOf nix
        simp only
        have := enN_get (n := 0) hm
        rw [Nat.zero_add] at this
        rw [← this]
        congr 2; omega
      rw [e]
      walk_at "ev"
      unfold reU
      simp only
      rw [if_pos q]
    · rw [show decide (u.1 = 1) = false from decide_eq_false q]
      walk_at "ev"
      unfold reU
      simp only
      rw [if_neg q]
theorem lean_paper_ev (hv : VL M laws ls) (hw : Pp.Wk M laws (ls.map pr) w row w1) (hr : RL ls row) (hn : ∀ ds : List Nat, ds.Nodup → (∀ i ∈ ds, Nd ls row i) → ds.length < 64) (K : Kept ls row ks) :
    m_lean_paper [dP ls row] [] = .ok (dP (lnLs ls ks) (row.map (reU (nix ks)))) [] := by
  obtain ⟨ks', K', e⟩ := needed_lines_ev hv hw hr hn
  cases K.unique K'
  have hk : ∀ k ∈ ks, k < ls.length := fun k h => nd_lt hv hw ((K.mem k).mp h)
  unfold m_lean_paper b_lean_paper dP
  walk_at "ev"
  rw [e]
  walk_at "ev"
  rw [show enumFrom 0 (ks.map fun (k : Nat) => PyData.int k) = enumFrom ([] : List Nat).length (ks.map fun (k : Nat) => PyData.int k) from rfl, show ([] : List (D × D)) = enN [] 0 from rfl, dc_enum [] _ _ _ _ _ _ ks [] (asc_nodup K.asc)]
  walk_at "ev"
  rw [lcGo_all (fun (k : Nat) => PyData.int k) (fun k => match ls[k]? with | some l => dLn (lnL ks l) | none => .none) ks fun k hk' => ?_]
  · walk_at "ev"
    rw [renumbered_ev (fun u hu h1 => ⟨(hw.ix u hu h1).1, (K.mem _).mpr (.base hu h1 (hw.ix u hu h1).1)⟩)]
    walk_at "ev"
    have : ∀ js : List Nat, (∀ k ∈ js, k < ls.length) → (js.map fun k => match ls[k]? with | some l => dLn (lnL ks l) | none => .none) = ((js.filterMap fun k => ls[k]?).map (lnL ks)).map dLn := by
      intro js
      induction js with
      | nil => intro _; rfl
      | cons j js ih =>
        intro h
        have hj := h j List.mem_cons_self
        rw [List.map_cons, ih fun k hk => h k (List.mem_cons_of_mem _ hk), List.filterMap_cons_some (List.getElem?_eq_getElem hj), List.map_cons, List.map_cons, List.getElem?_eq_getElem hj]
    rw [this ks hk]
    rfl
  · have hl := List.getElem?_eq_getElem (hk k hk')
    rw [hl]
    have hkl : k < ls.length := hk k hk'
    have E : idxD (.tuple (ls.map dLn)) (.int k) = some (dLn ls[k]) := by
      rw [idx_tup (by omega) (by rw [List.length_map]; have := hk k hk'; omega), List.getElem?_map, show ((k : Nat) : Int).toNat = k by omega, hl]; rfl
    unfold dLs
    obtain ⟨h1, h2⟩ := hv _ _ hl
    repeat (first | rw [E] | walk_at "ev")
    rw [renumbered_ev (fun u hu q => ⟨(h2.ix u hu q).1, (K.mem _).mpr (.step ((K.mem k).mp hk') hl hu q (h2.ix u hu q).1)⟩)]
    walk_at "ev"
    rfl
end K00

set_option Elab.async false
set_option linter.all false
set_option maxRecDepth 100000
set_option maxHeartbeats 1000000
namespace K00
open PySem Wc Pp
local macro_rules | `(tactic| walk_at "ev") => `(tactic| simp only [dLn_0, dLn_1, dLn_2, RB_ok, RB_ex, LF_some, ev_bind, ev_pure, ev_lift, SB_ok, SB_ex, SQ_nx, SQ_rt, SQ_ex, SQ_bk, SQ_ct, VR_ok, ev_var, ev_own, GV_ok, ev_give, ev_c, ev_1, ev_2, ev_2o, ev_tC, ev_tCo, CH_t, CH_f, ev_tCh, ev_tB, ev_tAnd, ev_tOr, ev_tNot, ev_tYes, ev_eT, ev_eAnd, ev_eOr, ev_eNot, ev_eIf, ev_eCh, ev_items_nil, ev_items_one, ev_items_star, ev_eTup, ev_eLst, PT_int, ev_part_n, ev_part_s, ev_eSl, ev_args_nil, ev_args_sh, ev_args_ow, CB_ok, CB_ex, ev_call0, ev_eCall, owns, putO, ev_wOf, RN_int, ev_wRange, RND_int, ev_wDown, ev_wEnum, ev_wZip, ev_eLc, ev_eDc, OB_some, bt_nm, bt_tup, bt_nil, bt_cons, ev_nil, ev_seq, ev_asg, NX_some, ev_par2, P1.e, P1.ρ, P1.ω, ev_own_set, ev_aug, IFS_t, IFS_f, ev_if, ev_ret, ev_drop, ev_raise, MK_some, MKo_some, ev_mutK, ev_mut, ev_lstE, ev_put, ev_augI, ev_for, FG_nx, FG_ct, FG_bk, FG_rt, FG_ex, FB_some, for_nil, for_cons, DF_nx, DF_rt, DF_ex, ev_defM, entryE, Bd_some, St1_nx, List.getElem?_cons_succ, List.getElem?_cons_zero, List.set_cons_succ, List.set_cons_zero, List.replicate_succ, List.replicate_zero, List.length_cons, List.length_nil, List.nil_append, List.cons_append, List.take_zero, List.take_succ_cons, List.take_nil, wipeE, limited_k, truth_b, add_int, sub_int, addI_int, neg_int, len_W, len_tup, len_lst, items_tup, items_lst, items_W, seq_tup, seq_lst, tup_tup, tup_lst, rev_tup, rev_lst, idx_t0, idx_t1, idx_t2, idx_t3, idx_l0, idx_l1, idx_l2, idx_l3, sl_tup, sl_lst, sl_W, cmp_lt, cmp_le, cmp_gt, cmp_ge, cmp_isN, cmp_notN, cmp_isB, cmp_notB, eq_int, ne_int, eq_W, ne_W, eq_b, ne_b, isT_def, ty_int_none, ty_int_bool, ty_int_int, ty_int_str, ty_int_list, ty_int_tuple, ty_int_dict, ty_int_W, ty_bool_none, ty_bool_bool, ty_bool_int, ty_bool_str, ty_bool_list, ty_bool_tuple, ty_bool_dict, ty_bool_W, ty_str_none, ty_str_bool, ty_str_int, ty_str_str, ty_str_list, ty_str_tuple, ty_str_dict, ty_str_W, ty_tuple_none, ty_tuple_bool, ty_tuple_int, ty_tuple_str, ty_tuple_list, ty_tuple_tuple, ty_tuple_dict, ty_tuple_W, ty_list_none, ty_list_bool, ty_list_int, ty_list_str, ty_list_list, ty_list_tuple, ty_list_dict, ty_list_W, ty_dict_none, ty_dict_bool, ty_dict_int, ty_dict_str, ty_dict_list, ty_dict_tuple, ty_dict_dict, ty_dict_W, List.any_cons, List.any_nil, Bool.or_false, Bool.false_or, Bool.or_true, Bool.true_or, Bool.not_true, Bool.not_false, Bool.and_true, Bool.true_and, Bool.and_false, Bool.false_and, notNone, cmpD_def, Option.map_some, decide_true, decide_false, int_int, put_l0, put_l1, put_l2, put_l3, ev_call_0, ev_2k, ev_LW, ev_SlO, asStr_W, asList_l, str_nil, beq_self_eq_true, Nat.reduceAdd, Nat.reduceSub, Nat.reduceLeDiff, Int.reduceEq, Int.reduceLE, Int.reduceLT, Int.reduceSub, Int.reduceAdd, Int.reduceNeg, Int.cast_ofNat_Int, Int.natCast_one, Int.natCast_zero])
/-! ### the law: draws -/
def Bag (β : D) : Prop := ∃ (a b c : Int) (cells : List Int), β = .list [.int a, .int b, .int c, .list (cells.map PyData.int)] ∧ cells.length ≤ 63
theorem pow_18 : opD .pow (.int 10) (.int 18) = some (.int 1000000000000000000) := by
  unfold opD
  simp only
  rw [if_pos (by decide)]
  rfl
theorem head_cell (cells : List Int) (c : Int) : ∃ (x : Int) (r : List D), (cutL (cells.map PyData.int) (some c) none ++ [PyData.int 0]) = .int x :: r := by
  rw [cut_map]
  cases cutL cells (some c) none with
  | nil => exact ⟨0, [], rfl⟩
  | cons x xs => exact ⟨x, _, rfl⟩
theorem cut_len {α : Type} (xs : List α) (lo hi : Option Int) : (cutL xs lo hi).length ≤ xs.length := by
  unfold cutL
  rw [List.length_take, List.length_drop]
  omega
theorem take_ev {β : D} (hβ : Bag β) {n : Int} (h1 : 1 ≤ n) (h2 : n < 1073741824) : ∃ v β', m__law_take [.int n] [some β] = .ok (.int v) [some β'] ∧ 0 ≤ v ∧ v < n ∧ Bag β' := by
  obtain ⟨a, b, c, cells, rfl, hc⟩ := hβ
  unfold m__law_take b__law_take
  walk_at "ev"
  by_cases q : a = 0
  · subst q
    walk_at "ev"
    rw [add_lst (by
      have := cut_len (cells.map PyData.int) (some c) none
      rw [List.length_map] at this
      rw [LIM_def, List.length_singleton]; omega)]
    walk_at "ev"
    obtain ⟨x, r, e⟩ := head_cell cells c
    rw [e]
    walk_at "ev"
    rw [pow_18]
    walk_at "ev"
    by_cases q2 : 1000000000000000000 ≤ x
    · rw [decide_eq_true q2]
      walk_at "ev"
      rw [mul_int (.inr (by decide))]
      walk_at "ev"
      rw [mod_int (by decide)]
      walk_at "ev"
      rw [mul_int (.inl (by decide))]
      walk_at "ev"
      rw [mod_int (by decide)]
      walk_at "ev"
      rw [decide_eq_true (show 0 < x by omega)]
      walk_at "ev"
      rw [mod_int (by omega)]
      walk_at "ev"
      rw [fdiv_int (by omega) (by omega)]
      walk_at "ev"
      exact ⟨_, _, rfl, (fmod_range (by omega)).1, (fmod_range (by omega)).2, _, _, _, cells, rfl, hc⟩
    · rw [decide_eq_false q2]
      walk_at "ev"
      rw [mul_int (.inr (by decide))]
      walk_at "ev"
      rw [mod_int (by decide)]
      walk_at "ev"
      rw [mul_int (.inl (by decide))]
      walk_at "ev"
      rw [mod_int (by decide)]
      walk_at "ev"
      generalize (b * 48271 + x.fmod 2147483647 + 7919 * (c + 1)).fmod 2147483647 = b2
      rw [mul_int (.inr (by decide))]
      walk_at "ev"
      rw [mod_int (by decide)]
      walk_at "ev"
      have hb := fmod_range (i := (b2 + 1) * 39373) (n := 1000000007) (by decide)
      generalize ((b2 + 1) * 39373).fmod 1000000007 = g at hb ⊢
      rw [mul_int (.inr (small64_of hb.1 (by omega)))]
      walk_at "ev"
      rw [mod_int (by decide)]
      walk_at "ev"
      rw [mul_int (.inr (by decide))]
      walk_at "ev"
      rw [mod_int (by decide)]
      walk_at "ev"
      rw [fdiv_int (by decide) (by decide)]
      walk_at "ev"
      rw [mod_int (by omega)]
      walk_at "ev"
      exact ⟨_, _, rfl, (fmod_range (by omega)).1, (fmod_range (by omega)).2, _, _, _, cells, rfl, hc⟩
  · rw [decide_eq_false q]
    walk_at "ev"
    by_cases q3 : 0 < a
    · rw [decide_eq_true q3]
      walk_at "ev"
      rw [mod_int (by omega)]
      walk_at "ev"
      rw [fdiv_int (by omega) (by omega)]
      walk_at "ev"
      exact ⟨_, _, rfl, (fmod_range (by omega)).1, (fmod_range (by omega)).2, _, _, _, cells, rfl, hc⟩
    · rw [decide_eq_false q3]
      walk_at "ev"
      rw [mul_int (.inr (by decide))]
      walk_at "ev"
      rw [mod_int (by decide)]
      walk_at "ev"
      have hb := fmod_range (i := (b + 1) * 39373) (n := 1000000007) (by decide)
      generalize ((b + 1) * 39373).fmod 1000000007 = g at hb ⊢
      rw [mul_int (.inr (small64_of hb.1 (by omega)))]
      walk_at "ev"
      rw [mod_int (by decide)]
      walk_at "ev"
      rw [mul_int (.inr (by decide))]
      walk_at "ev"
      rw [mod_int (by decide)]
      walk_at "ev"
      rw [fdiv_int (by decide) (by decide)]
      walk_at "ev"
      rw [mod_int (by omega)]
      walk_at "ev"
      exact ⟨_, _, rfl, (fmod_range (by omega)).1, (fmod_range (by omega)).2, _, _, _, cells, rfl, hc⟩
end K00

set_option Elab.async false
set_option linter.all false
set_option maxRecDepth 100000
set_option maxHeartbeats 1000000
namespace K00
open PySem Wc Pp
local macro_rules | `(tactic| walk_at "ev") => `(tactic| simp only [dLn_0, dLn_1, dLn_2, RB_ok, RB_ex, LF_some, ev_bind, ev_pure, ev_lift, SB_ok, SB_ex, SQ_nx, SQ_rt, SQ_ex, SQ_bk, SQ_ct, VR_ok, ev_var, ev_own, GV_ok, ev_give, ev_c, ev_1, ev_2, ev_2o, ev_tC, ev_tCo, CH_t, CH_f, ev_tCh, ev_tB, ev_tAnd, ev_tOr, ev_tNot, ev_tYes, ev_eT, ev_eAnd, ev_eOr, ev_eNot, ev_eIf, ev_eCh, ev_items_nil, ev_items_one, ev_items_star, ev_eTup, ev_eLst, PT_int, ev_part_n, ev_part_s, ev_eSl, ev_args_nil, ev_args_sh, ev_args_ow, CB_ok, CB_ex, ev_call0, ev_eCall, owns, putO, ev_wOf, RN_int, ev_wRange, RND_int, ev_wDown, ev_wEnum, ev_wZip, ev_eLc, ev_eDc, OB_some, bt_nm, bt_tup, bt_nil, bt_cons, ev_nil, ev_seq, ev_asg, NX_some, ev_par2, P1.e, P1.ρ, P1.ω, ev_own_set, ev_aug, IFS_t, IFS_f, ev_if, ev_ret, ev_drop, ev_raise, MK_some, MKo_some, ev_mutK, ev_mut, ev_lstE, ev_put, ev_augI, ev_for, FG_nx, FG_ct, FG_bk, FG_rt, FG_ex, FB_some, for_nil, for_cons, DF_nx, DF_rt, DF_ex, ev_defM, entryE, Bd_some, St1_nx, List.getElem?_cons_succ, List.getElem?_cons_zero, List.set_cons_succ, List.set_cons_zero, List.replicate_succ, List.replicate_zero, List.length_cons, List.length_nil, List.nil_append, List.cons_append, List.take_zero, List.take_succ_cons, List.take_nil, wipeE, limited_k, truth_b, add_int, sub_int, addI_int, neg_int, len_W, len_tup, len_lst, items_tup, items_lst, items_W, seq_tup, seq_lst, tup_tup, tup_lst, rev_tup, rev_lst, idx_t0, idx_t1, idx_t2, idx_t3, idx_l0, idx_l1, idx_l2, idx_l3, sl_tup, sl_lst, sl_W, cmp_lt, cmp_le, cmp_gt, cmp_ge, cmp_isN, cmp_notN, cmp_isB, cmp_notB, eq_int, ne_int, eq_W, ne_W, eq_b, ne_b, isT_def, ty_int_none, ty_int_bool, ty_int_int, ty_int_str, ty_int_list, ty_int_tuple, ty_int_dict, ty_int_W, ty_bool_none, ty_bool_bool, ty_bool_int, ty_bool_str, ty_bool_list, ty_bool_tuple, ty_bool_dict, ty_bool_W, ty_str_none, ty_str_bool, ty_str_int, ty_str_str, ty_str_list, ty_str_tuple, ty_str_dict, ty_str_W, ty_tuple_none, ty_tuple_bool, ty_tuple_int, ty_tuple_str, ty_tuple_list, ty_tuple_tuple, ty_tuple_dict, ty_tuple_W, ty_list_none, ty_list_bool, ty_list_int, ty_list_str, ty_list_list, ty_list_tuple, ty_list_dict, ty_list_W, ty_dict_none, ty_dict_bool, ty_dict_int, ty_dict_str, ty_dict_list, ty_dict_tuple, ty_dict_dict, ty_dict_W, List.any_cons, List.any_nil, Bool.or_false, Bool.false_or, Bool.or_true, Bool.true_or, Bool.not_true, Bool.not_false, Bool.and_true, Bool.true_and, Bool.and_false, Bool.false_and, notNone, cmpD_def, Option.map_some, decide_true, decide_false, int_int, put_l0, put_l1, put_l2, put_l3, ev_call_0, ev_2k, ev_LW, ev_SlO, asStr_W, asList_l, str_nil, beq_self_eq_true, Nat.reduceAdd, Nat.reduceSub, Nat.reduceLeDiff, Int.reduceEq, Int.reduceLE, Int.reduceLT, Int.reduceSub, Int.reduceAdd, Int.reduceNeg, Int.cast_ofNat_Int, Int.natCast_one, Int.natCast_zero])
theorem some_l {β : D} (hβ : Bag β) {xs : List D} (h1 : 1 ≤ xs.length) (h2 : xs.length < 1073741824) : ∃ x β', x ∈ xs ∧ m__law_some [.list xs] [some β] = .ok x [some β'] ∧ Bag β' := by
  obtain ⟨v, β', e, v0, v1, hb⟩ := take_ev hβ (n := xs.length) (by omega) (by omega)
  have hl : v.toNat < xs.length := by omega
  refine ⟨xs[v.toNat], β', List.getElem_mem hl, ?_, hb⟩
  unfold m__law_some b__law_some
  walk_at "ev"
  rw [e]
  walk_at "ev"
  rw [idx_lst v0 hl, List.getElem?_eq_getElem hl]
  walk_at "ev"
theorem some_W {β : D} (hβ : Bag β) {w : Wd} (h1 : 1 ≤ w.length) (h2 : w.length < 1073741824) : ∃ c β', c ∈ w ∧ m__law_some [dW w] [some β] = .ok (dCh c) [some β'] ∧ Bag β' := by
  obtain ⟨v, β', e, v0, v1, hb⟩ := take_ev hβ (n := w.length) (by omega) (by omega)
  have hl : v.toNat < w.length := by omega
  refine ⟨w[v.toNat], β', List.getElem_mem hl, ?_, hb⟩
  unfold m__law_some b__law_some
  walk_at "ev"
  rw [e]
  walk_at "ev"
  rw [idx_W v0 (List.getElem?_eq_getElem hl)]
  walk_at "ev"
theorem mixed_W {β : D} (hβ : Bag β) {w : Wd} (h2 : w.length ≤ 1000) : ∃ (w' : Wd) (β' : D), w'.Perm w ∧ m__law_mixed [dW w] [some β] = .ok (.list (w'.map dCh)) [some β'] ∧ Bag β' := by
  unfold m__law_mixed b__law_mixed
  walk_at "ev"
  have key := for_inv (t := .nm 3) (b := lb__law_mixed_0) dCh
    (fun rest ρ ω => ∃ β ws o, ρ = [none, some (dW w), none, o] ∧ ω = [some β, some (.list (ws.map dCh))] ∧ Bag β ∧ (ws ++ rest).Perm w) (fun c rest ρ ω ⟨β, ws, o, hρ, hω, hb, hp⟩ => by
      subst hρ hω
      have hl := hp.length_eq
      simp only [List.length_append, List.length_cons] at hl
      simp only [lb__law_mixed_0]
      walk_at "ev"
      obtain ⟨v, β', e, v0, v1, hb'⟩ := take_ev hb (n := (ws.map dCh).length + 1) (by omega) (by rw [List.length_map]; omega)
      rw [List.length_map] at v1
      rw [e]
      walk_at "ev"
      rw [insert_lst _ (by rw [List.length_map]; omega) v0 (by omega)]
      walk_at "ev"
      refine ⟨β', ws.take v.toNat ++ c :: ws.drop v.toNat, some (dCh c), rfl, ?_, hb', ?_⟩
      · rw [List.map_append, List.map_cons, List.map_take, List.map_drop]
      · refine List.Perm.trans ?_ hp
        refine List.Perm.trans (List.Perm.append_right _ List.perm_middle) ?_
        rw [List.take_append_drop, List.cons_append]
        exact (List.perm_middle (l₁ := ws) (l₂ := rest) (a := c)).symm) w [none, some (dW w), none, none] [some β, some (.list [])] ⟨β, [], none, rfl, rfl, hβ, by simp⟩
  obtain ⟨ρ', ω', e, β', ws, o, hρ, hω, hb, hp⟩ := St1_ex key
  subst hρ hω
  rw [e]
  walk_at "ev"
  exact ⟨ws, β', by simpa using hp, rfl, hb⟩
/-! ### the law: words -/
theorem law_is_int_ev (i : Int) : m__law_is_int [.int i] [] = .ok (.bool true) [] := by
  unfold m__law_is_int b__law_is_int
  walk_at "ev"
theorem law_order_ev (w : Wd) : m__law_order [dW w] [] = .ok (.tuple [.int w.length, dW w]) [] := by
  unfold m__law_order b__law_order
  walk_at "ev"
theorem law_less_ev (a b : Wd) : m__law_less [dW a, dW b] [] = .ok (.bool (wless a b)) [] := by
  unfold m__law_less b__law_less
  walk_at "ev"
  rw [law_order_ev]
  walk_at "ev"
  rw [law_order_ev]
  walk_at "ev"
  rw [keyLt]
  walk_at "ev"
theorem law_stands_ev (w p : Wd) (hw : w.length ≤ Sm) (hp : p.length ≤ Sm) : m__law_stands [dW w, dW p] [] = .ok (.list ((stn w p).map fun (k : Nat) => PyData.int k)) [] := by
  unfold m__law_stands b__law_stands
  walk_at "ev"
  rw [rg_stn w p hw hp]
  walk_at "ev"
  rw [lcGo_map (fun (k : Nat) => PyData.int k) (fun i => decide ((w.drop i).take p.length = p)) (fun (k : Nat) => PyData.int k)]
  · walk_at "ev"
    rfl
  · intro k hk
    walk_at "ev"
    rw [cut_mid _ (by omega) (by omega), show ((k : Int) + p.length).toNat - (k : Int).toNat = p.length by omega, show (k : Int).toNat = k by omega]
    exact ⟨rfl, fun _ => trivial⟩
theorem sort_chars {w : Wd} (h1 : w ≠ []) (h2 : w.length < 64) : ∃ w' : Wd, w'.Perm w ∧ sortD (.list (w.map dCh)) = some (.list (w'.map dCh)) := by
  have e1 : (w.map dCh).mapM intOf = none := by
    cases w with
    | nil => exact absurd rfl h1
    | cons c w => rw [List.map_cons, List.mapM_cons]; rfl
  have e2 : (w.map dCh).mapM strOf = some (w.map fun c => (⟨[c].toArray⟩ : Str)) := by
    clear h1 h2 e1
    induction w with
    | nil => rfl
    | cons c w ih => rw [List.map_cons, List.mapM_cons, ih]; rfl
  have p : ((w.map fun c => (⟨[c].toArray⟩ : Str)).mergeSort leS).Perm (w.map fun c => (⟨[c].toArray⟩ : Str)) := List.mergeSort_perm _ _
  have e3 := p.map fun (s : Str) => (s.cps.toList.headD 0)
  have e4 : (w.map fun c => (⟨[c].toArray⟩ : Str)).map (fun (s : Str) => (s.cps.toList.headD 0)) = w := by
    rw [List.map_map]
    have : ((fun (s : Str) => (s.cps.toList.headD 0)) ∘ fun c => (⟨[c].toArray⟩ : Str)) = id := by funext c; rfl
    rw [this, List.map_id]
  rw [e4] at e3
  refine ⟨_, e3, ?_⟩
  unfold sortD
  simp only [e1, e2]
  rw [if_pos (by rw [List.length_map]; exact h2), List.map_map]
  congr 2
  apply List.map_congr_left
  intro s hs
  obtain ⟨c, _, rfl⟩ := List.mem_map.mp (p.mem_iff.mp hs)
  rfl
theorem abc : (PyData.str (Str.ofString "abcdmyz")) = dW [97, 98, 99, 100, 109, 121, 122] := congrArg PyData.str (by decide +kernel : Str.ofString "abcdmyz" = ⟨[97, 98, 99, 100, 109, 121, 122].toArray⟩)
theorem letters_ev {β : D} (hβ : Bag β) : ∃ (L : Wd) (β' : D), m__law_letters [] [some β] = .ok (dW L) [some β'] ∧ Bag β' ∧ L ≠ [] ∧ L.length ≤ 7 := by
  unfold m__law_letters b__law_letters
  walk_at "ev"
  rw [abc]
  obtain ⟨w1, β1, p1, e1, b1⟩ := mixed_W hβ (w := [97, 98, 99, 100, 109, 121, 122]) (by decide)
  rw [e1]
  walk_at "ev"
  obtain ⟨x, β2, hx, e2, b2⟩ := some_l b1 (xs := [.int 1, .int 2, .int 2, .int 2, .int 3, .int 3, .int 4]) (by decide) (by decide)
  rw [e2]
  have hk : ∃ k : Nat, x = .int k ∧ 1 ≤ k ∧ k ≤ 4 := by
    simp only [List.mem_cons, List.not_mem_nil, or_false] at hx
    rcases hx with h | h | h | h | h | h | h
    · exact ⟨1, h, by decide, by decide⟩
    · exact ⟨2, h, by decide, by decide⟩
    · exact ⟨2, h, by decide, by decide⟩
    · exact ⟨2, h, by decide, by decide⟩
    · exact ⟨3, h, by decide, by decide⟩
    · exact ⟨3, h, by decide, by decide⟩
    · exact ⟨4, h, by decide, by decide⟩
  obtain ⟨k, rfl, k1, k4⟩ := hk
  have l1 : w1.length = 7 := by have := p1.length_eq; simpa using this
  walk_at "ev"
  rw [cut_map, cut_take _ (by omega), show ((k : Nat) : Int).toNat = k by omega]
  have hl : (w1.take k).length = k := by rw [List.length_take]; omega
  obtain ⟨w2, p2, e3⟩ := sort_chars (w := w1.take k) (by intro h; rw [h] at hl; simp at hl; omega) (by omega)
  rw [e3]
  walk_at "ev"
  have e4 : w2.map dCh = (w2.map fun c => [c]).map dW := by rw [List.map_map]; rfl
  have e5 : (w2.map fun c => [c]).flatten = w2 := by clear e4 e3 p2; induction w2 with
    | nil => rfl
    | cons c w ih => rw [List.map_cons, List.flatten_cons, ih]; rfl
  have l2 := p2.length_eq
  rw [e4, join_W _ (by rw [e5]; omega), e5]
  walk_at "ev"
  exact ⟨w2, β2, rfl, b2, by intro h; rw [h] at l2; simp at l2; omega, by omega⟩
def In (L w : Wd) : Prop := ∀ c ∈ w, c ∈ L
theorem word_ev {β : D} (hβ : Bag β) {L : Wd} (h1 : L ≠ []) (h2 : L.length ≤ 1000) {n : Int} (hn : 0 ≤ n) (hn2 : n ≤ 1000) : ∃ w β', m__law_word [dW L, .int n] [some β] = .ok (dW w) [some β'] ∧ Bag β' ∧ In L w ∧ (w.length : Int) ≤ n := by
  have hL : 1 ≤ L.length := by cases L; exact absurd rfl h1; simp
  unfold m__law_word b__law_word
  walk_at "ev"
  obtain ⟨v, β1, e1, v0, v1, b1⟩ := take_ev hβ (n := n + 1) (by omega) (by omega)
  rw [e1]
  walk_at "ev"
  rw [rgZ (by omega) (by omega)]
  walk_at "ev"
  have key := for_inv (t := .nm 4) (b := lb__law_word_0) (fun (k : Nat) => PyData.int k)
    (fun rest ρ ω => ∃ β w o4 o5, ρ = [none, some (dW L), some (.int n), some (dW w), o4, o5] ∧ ω = [some β] ∧ Bag β ∧ In L w ∧ w.length + rest.length = v.toNat) (fun k rest ρ ω ⟨β, w, o4, o5, hρ, hω, hb, hi, hl⟩ => by
      subst hρ hω
      rw [List.length_cons] at hl
      have fin : ∀ c, c ∈ L → In L (w ++ [c]) ∧ (w ++ [c]).length + rest.length = v.toNat := by
        intro c hc
        refine ⟨?_, by rw [List.length_append, List.length_singleton]; omega⟩
        intro x hx
        rcases List.mem_append.mp hx with hx | hx
        · exact hi x hx
        · simp at hx; subst hx; exact hc
      simp only [lb__law_word_0, dCh]
      walk_at "ev"
      by_cases q : w = []
      · subst q
        walk_at "ev"
        obtain ⟨c, β', hc, e, hb'⟩ := some_W hb hL (by omega)
        rw [e]
        unfold dCh
        walk_at "ev"
        rw [add_W (by rw [LIM_def, List.length_singleton]; omega)]
        walk_at "ev"
        exact ⟨β', [] ++ [c], _, _, rfl, rfl, hb', fin c hc⟩
      · rw [decide_eq_false q]
        walk_at "ev"
        obtain ⟨t, β', e, t0, t1, hb'⟩ := take_ev hb (n := 3) (by omega) (by omega)
        rw [e]
        walk_at "ev"
        by_cases q2 : t = 0
        · rw [decide_eq_true q2]
          walk_at "ev"
          obtain ⟨c, hc⟩ : ∃ c, w.getLast? = some c := ⟨_, List.getLast?_eq_some_getLast q⟩
          rw [idx_W_last hc]
          unfold dCh
          walk_at "ev"
          rw [add_W (by rw [LIM_def, List.length_singleton]; omega)]
          walk_at "ev"
          exact ⟨β', w ++ [c], _, _, rfl, rfl, hb', fin c (hi c (List.mem_of_getLast? hc))⟩
        · rw [decide_eq_false q2]
          walk_at "ev"
          obtain ⟨c, β'', hc, e', hb''⟩ := some_W hb' hL (by omega)
          rw [e']
          unfold dCh
          walk_at "ev"
          rw [add_W (by rw [LIM_def, List.length_singleton]; omega)]
          walk_at "ev"
          exact ⟨β'', w ++ [c], _, _, rfl, rfl, hb'', fin c hc⟩) (List.range v.toNat) [none, some (dW L), some (.int n), some (dW []), none, none] [some β1] ⟨β1, [], none, none, rfl, rfl, b1, (by intro c hc; cases hc), by simp⟩
  obtain ⟨ρ', ω', e, β', w, o4, o5, hρ, hω, hb, hi, hl⟩ := St1_ex key
  subst hρ hω
  rw [e]
  walk_at "ev"
  simp only [List.length_nil] at hl
  exact ⟨w, β', rfl, hb, hi, by omega⟩
theorem pair_ev {β : D} (hβ : Bag β) {L : Wd} (h1 : L ≠ []) (h2 : L.length ≤ 1000) {n : Int} (hn : 0 ≤ n) (hn2 : n ≤ 1000) : ∃ (a b : Wd) (β' : D), m__law_pair [dW L, .int n] [some β] = .ok (dLw (a, b)) [some β'] ∧ Bag β' ∧ In L a ∧ In L b ∧ wless b a = true ∧ (a.length : Int) ≤ n + 1 ∧ (b.length : Int) ≤ n + 1 := by
  unfold m__law_pair b__law_pair
  walk_at "ev"
  obtain ⟨a, β1, ea, b1, ia, la⟩ := word_ev hβ h1 h2 hn hn2
  rw [ea]
  walk_at "ev"
  obtain ⟨b, β2, eb, b2, ib, lb⟩ := word_ev b1 h1 h2 hn hn2
  rw [eb]
  walk_at "ev"
  by_cases q : a = b
  · subst q
    rw [decide_eq_true rfl]
    walk_at "ev"
    obtain ⟨c, L', rfl⟩ : ∃ c L', L = c :: L' := by cases L; exact absurd rfl h1; exact ⟨_, _, rfl⟩
    rw [idx_W (c := c) (by decide) rfl]
    walk_at "ev"
    unfold dCh
    rw [add_W (by rw [LIM_def, List.length_singleton]; omega)]
    walk_at "ev"
    rw [law_less_ev]
    have hw : wless a (a ++ [c]) = true := by
      unfold wless
      simp only [List.length_append, List.length_singleton]
      simp
    rw [hw]
    walk_at "ev"
    refine ⟨a ++ [c], a, β2, rfl, b2, ?_, ia, hw, by rw [List.length_append, List.length_singleton]; omega, by omega⟩
    intro x hx
    rcases List.mem_append.mp hx with hx | hx
    · exact ia x hx
    · simp at hx; subst hx; exact List.mem_cons_self
  · rw [decide_eq_false q]
    walk_at "ev"
    rw [law_less_ev]
    walk_at "ev"
    cases hw : wless b a with
    | true =>
      walk_at "ev"
      exact ⟨a, b, β2, rfl, b2, ia, ib, hw, by omega, by omega⟩
    | false =>
      walk_at "ev"
      refine ⟨b, a, β2, rfl, b2, ib, ia, ?_, by omega, by omega⟩
      rcases wless_total q with h | h
      · exact h
      · rw [h] at hw; cases hw
end K00

set_option Elab.async false
set_option linter.all false
set_option maxRecDepth 100000
set_option maxHeartbeats 1000000
namespace K00
open PySem Wc Pp
local macro_rules | `(tactic| walk_at "ev") => `(tactic| simp only [dLn_0, dLn_1, dLn_2, RB_ok, RB_ex, LF_some, ev_bind, ev_pure, ev_lift, SB_ok, SB_ex, SQ_nx, SQ_rt, SQ_ex, SQ_bk, SQ_ct, VR_ok, ev_var, ev_own, GV_ok, ev_give, ev_c, ev_1, ev_2, ev_2o, ev_tC, ev_tCo, CH_t, CH_f, ev_tCh, ev_tB, ev_tAnd, ev_tOr, ev_tNot, ev_tYes, ev_eT, ev_eAnd, ev_eOr, ev_eNot, ev_eIf, ev_eCh, ev_items_nil, ev_items_one, ev_items_star, ev_eTup, ev_eLst, PT_int, ev_part_n, ev_part_s, ev_eSl, ev_args_nil, ev_args_sh, ev_args_ow, CB_ok, CB_ex, ev_call0, ev_eCall, owns, putO, ev_wOf, RN_int, ev_wRange, RND_int, ev_wDown, ev_wEnum, ev_wZip, ev_eLc, ev_eDc, OB_some, bt_nm, bt_tup, bt_nil, bt_cons, ev_nil, ev_seq, ev_asg, NX_some, ev_par2, P1.e, P1.ρ, P1.ω, ev_own_set, ev_aug, IFS_t, IFS_f, ev_if, ev_ret, ev_drop, ev_raise, MK_some, MKo_some, ev_mutK, ev_mut, ev_lstE, ev_put, ev_augI, ev_for, FG_nx, FG_ct, FG_bk, FG_rt, FG_ex, FB_some, for_nil, for_cons, DF_nx, DF_rt, DF_ex, ev_defM, entryE, Bd_some, St1_nx, List.getElem?_cons_succ, List.getElem?_cons_zero, List.set_cons_succ, List.set_cons_zero, List.replicate_succ, List.replicate_zero, List.length_cons, List.length_nil, List.nil_append, List.cons_append, List.take_zero, List.take_succ_cons, List.take_nil, wipeE, limited_k, truth_b, add_int, sub_int, addI_int, neg_int, len_W, len_tup, len_lst, items_tup, items_lst, items_W, seq_tup, seq_lst, tup_tup, tup_lst, rev_tup, rev_lst, idx_t0, idx_t1, idx_t2, idx_t3, idx_l0, idx_l1, idx_l2, idx_l3, sl_tup, sl_lst, sl_W, cmp_lt, cmp_le, cmp_gt, cmp_ge, cmp_isN, cmp_notN, cmp_isB, cmp_notB, eq_int, ne_int, eq_W, ne_W, eq_b, ne_b, isT_def, ty_int_none, ty_int_bool, ty_int_int, ty_int_str, ty_int_list, ty_int_tuple, ty_int_dict, ty_int_W, ty_bool_none, ty_bool_bool, ty_bool_int, ty_bool_str, ty_bool_list, ty_bool_tuple, ty_bool_dict, ty_bool_W, ty_str_none, ty_str_bool, ty_str_int, ty_str_str, ty_str_list, ty_str_tuple, ty_str_dict, ty_str_W, ty_tuple_none, ty_tuple_bool, ty_tuple_int, ty_tuple_str, ty_tuple_list, ty_tuple_tuple, ty_tuple_dict, ty_tuple_W, ty_list_none, ty_list_bool, ty_list_int, ty_list_str, ty_list_list, ty_list_tuple, ty_list_dict, ty_list_W, ty_dict_none, ty_dict_bool, ty_dict_int, ty_dict_str, ty_dict_list, ty_dict_tuple, ty_dict_dict, ty_dict_W, List.any_cons, List.any_nil, Bool.or_false, Bool.false_or, Bool.or_true, Bool.true_or, Bool.not_true, Bool.not_false, Bool.and_true, Bool.true_and, Bool.and_false, Bool.false_and, notNone, cmpD_def, Option.map_some, decide_true, decide_false, int_int, put_l0, put_l1, put_l2, put_l3, ev_call_0, ev_2k, ev_LW, ev_SlO, asStr_W, asList_l, str_nil, beq_self_eq_true, Nat.reduceAdd, Nat.reduceSub, Nat.reduceLeDiff, Int.reduceEq, Int.reduceLE, Int.reduceLT, Int.reduceSub, Int.reduceAdd, Int.reduceNeg, Int.cast_ofNat_Int, Int.natCast_one, Int.natCast_zero])
/-! ### the law: alike -/
def tw (d : D) : D := .tuple [d, d]
theorem ne_self_plain {d : D} (h : d.plain = true) (h2 : d.depth ≤ 64) : cmpB .ne d d = some false := by
  unfold cmpB
  simp only
  rw [if_pos (by unfold eqOk; simp [h, h2]), SeqAt.eqv_refl_plain d h]
  rfl
theorem plain_all : ∀ {xs : List D}, PyData.plainAll xs = true → ∀ x ∈ xs, x.plain = true
  | [], _, x, hx => by cases hx
  | y :: ys, h, x, hx => by
    have h' : y.plain = true ∧ PyData.plainAll ys = true := by simpa [PyData.plainAll] using h
    rcases List.mem_cons.mp hx with rfl | hx
    · exact h'.1
    · exact plain_all h'.2 x hx
abbrev cAlike : TT := Wc.tC .lt (eVar 3) (e1 lenD (eOwn 0))
theorem zip_self (xs : List D) : zipD xs xs = xs.map tw := by
  have := zipD_map id id xs xs
  rw [List.map_id] at this
  rw [this]
  clear this
  induction xs with
  | nil => rfl
  | cons x xs ih => rw [List.zip_cons_cons, List.map_cons, List.map_cons, ih]; rfl
theorem alike_step (A B : Option D) (x : D) (hx : x.plain = true) (todo : List D) (pre : List D) (o4 o5 : Option D) (hs : pre.length + dszs (x :: todo) ≤ 16777216) :
    ∃ new o4' o5', lb__law_alike_0 [A, B, none, some (.int pre.length), o4, o5] [some (.list (pre ++ (x :: todo).map tw))] = .nx [A, B, none, some (.int (pre.length + 1 : Nat)), o4', o5'] [some (.list ((pre ++ [tw x]) ++ (todo ++ new).map tw))] ∧ (∀ y ∈ new, y.plain = true) ∧ dszs new + 1 = dsz x := by
  have hi : idxD (.list (pre ++ (x :: todo).map tw)) (.int pre.length) = some (tw x) := by
    rw [idx_lst (by omega) (by simp)]
    simp
  have hl : ∀ todo : List D, todo.length ≤ dszs todo := by
    intro todo
    induction todo with
    | nil => simp [dszs]
    | cons y ys ih => have := dsz_pos y; simp [dszs]; omega
  have h1 := hl todo
  simp only [lb__law_alike_0]
  walk_at "ev"
  rw [hi, show tw x = .tuple [x, x] from rfl]
  have en : ((pre.length : Nat) : Int) + 1 = ((pre.length + 1 : Nat) : Int) := by omega
  have nn : ∀ b : Bool, (!(b == b)) = false := by intro b; cases b <;> rfl
  cases x with
  | list xs =>
    walk_at "ev"
    rw [zip_self]
    simp only [dszs, dsz] at hs
    have h2 := hl xs
    rw [extend_lst (by simp only [List.length_append, List.length_cons, List.length_map]; omega)]
    walk_at "ev"
    refine ⟨xs, some (.list xs), some (.list xs), ?_, plain_all (by simpa only [PyData.plain] using hx), by simp [dsz]⟩
    rw [en]
    simp [List.append_assoc]
    rfl
  | tuple xs =>
    walk_at "ev"
    rw [zip_self]
    simp only [dszs, dsz] at hs
    have h2 := hl xs
    rw [extend_lst (by simp only [List.length_append, List.length_cons, List.length_map]; omega)]
    walk_at "ev"
    refine ⟨xs, some (.tuple xs), some (.tuple xs), ?_, plain_all (by simpa only [PyData.plain] using hx), by simp [dsz]⟩
    rw [en]
    simp [List.append_assoc]
    rfl
  | dict kvs => simp only [PyData.plain] at hx; cases hx
  | none =>
    walk_at "ev"
    rw [ne_self_plain (by simp [PyData.plain]) (by simp [PyData.depth])]
    walk_at "ev"
    refine ⟨[], some .none, some .none, ?_, (by intro y hy; cases hy), by simp [dsz, dszs]⟩
    rw [en]; simp [List.append_assoc]; rfl
  | bool b =>
    walk_at "ev"
    refine ⟨[], some (.bool b), some (.bool b), ?_, (by intro y hy; cases hy), by simp [dsz, dszs]⟩
    rw [en]; simp [List.append_assoc]; rfl
  | int b =>
    walk_at "ev"
    refine ⟨[], some (.int b), some (.int b), ?_, (by intro y hy; cases hy), by simp [dsz, dszs]⟩
    rw [en]; simp [List.append_assoc]; rfl
  | str b =>
    walk_at "ev"
    rw [ne_self_plain (by simp [PyData.plain]) (by simp [PyData.depth])]
    walk_at "ev"
    refine ⟨[], some (.str b), some (.str b), ?_, (by intro y hy; cases hy), by simp [dsz, dszs]⟩
    rw [en]; simp [List.append_assoc]; rfl
theorem alike_loop (A B : Option D) : ∀ (n : Nat) (todo pre : List D) (o4 o5 : Option D), dszs todo = n → (∀ y ∈ todo, y.plain = true) → pre.length + dszs todo ≤ 16777216 →
    ∃ ρ' ω', Ends cAlike lb__law_alike_0 [A, B, none, some (.int pre.length), o4, o5] [some (.list (pre ++ todo.map tw))] (.nx ρ' ω') := by
  intro n
  induction n using Nat.strongRecOn with
  | _ n ih =>
    intro todo pre o4 o5 hn hp hs
    cases todo with
    | nil =>
      refine ⟨_, _, Ends.stop (ω' := [some (.list (pre ++ [].map tw))]) ?_⟩
      walk_at "ev"
      simp
    | cons x todo =>
      obtain ⟨new, o4', o5', h1, h2, h3⟩ := alike_step A B x (hp x List.mem_cons_self) todo pre o4 o5 hs
      have h4 : dszs (todo ++ new) < n := by
        rw [dszs_app, ← hn, dszs]; omega
      obtain ⟨ρ', ω', h5⟩ := ih _ h4 (todo ++ new) (pre ++ [tw x]) o4' o5' rfl (fun y hy => by
        rcases List.mem_append.mp hy with hy | hy
        · exact hp y (List.mem_cons_of_mem _ hy)
        · exact h2 y hy) (by
          rw [dszs] at hs
          rw [dszs_app, List.length_append, List.length_singleton]; omega)
      rw [List.length_append, List.length_singleton] at h5
      refine ⟨ρ', ω', Ends.go (ω' := [some (.list (pre ++ (x :: todo).map tw))]) ?_ h1 h5⟩
      walk_at "ev"
      simp
      omega
theorem alike_ev {d : D} (hp : d.plain = true) (hs : dsz d ≤ 16777216) : m__law_alike [d, d] [] = .ok (.bool true) [] := by
  unfold m__law_alike b__law_alike
  walk_at "ev"
  obtain ⟨ρ', ω', e⟩ := alike_loop (some d) (some d) _ [d] [] none none rfl (by intro y hy; simp at hy; subst hy; exact hp) (by simp [dszs]; exact hs)
  have e2 := e.eq
  simp only [List.length_nil, List.nil_append, List.map_cons, List.map_nil, tw, Int.natCast_zero, cAlike] at e2
  rw [e2]
  walk_at "ev"
end K00

set_option Elab.async false
set_option linter.all false
set_option maxRecDepth 100000
set_option maxHeartbeats 1000000
namespace K00
open PySem Wc Pp
local macro_rules | `(tactic| walk_at "ev") => `(tactic| simp only [dLn_0, dLn_1, dLn_2, RB_ok, RB_ex, LF_some, ev_bind, ev_pure, ev_lift, SB_ok, SB_ex, SQ_nx, SQ_rt, SQ_ex, SQ_bk, SQ_ct, VR_ok, ev_var, ev_own, GV_ok, ev_give, ev_c, ev_1, ev_2, ev_2o, ev_tC, ev_tCo, CH_t, CH_f, ev_tCh, ev_tB, ev_tAnd, ev_tOr, ev_tNot, ev_tYes, ev_eT, ev_eAnd, ev_eOr, ev_eNot, ev_eIf, ev_eCh, ev_items_nil, ev_items_one, ev_items_star, ev_eTup, ev_eLst, PT_int, ev_part_n, ev_part_s, ev_eSl, ev_args_nil, ev_args_sh, ev_args_ow, CB_ok, CB_ex, ev_call0, ev_eCall, owns, putO, ev_wOf, RN_int, ev_wRange, RND_int, ev_wDown, ev_wEnum, ev_wZip, ev_eLc, ev_eDc, OB_some, bt_nm, bt_tup, bt_nil, bt_cons, ev_nil, ev_seq, ev_asg, NX_some, ev_par2, P1.e, P1.ρ, P1.ω, ev_own_set, ev_aug, IFS_t, IFS_f, ev_if, ev_ret, ev_drop, ev_raise, MK_some, MKo_some, ev_mutK, ev_mut, ev_lstE, ev_put, ev_augI, ev_for, FG_nx, FG_ct, FG_bk, FG_rt, FG_ex, FB_some, for_nil, for_cons, DF_nx, DF_rt, DF_ex, ev_defM, entryE, Bd_some, St1_nx, List.getElem?_cons_succ, List.getElem?_cons_zero, List.set_cons_succ, List.set_cons_zero, List.replicate_succ, List.replicate_zero, List.length_cons, List.length_nil, List.nil_append, List.cons_append, List.take_zero, List.take_succ_cons, List.take_nil, wipeE, limited_k, truth_b, add_int, sub_int, addI_int, neg_int, len_W, len_tup, len_lst, items_tup, items_lst, items_W, seq_tup, seq_lst, tup_tup, tup_lst, rev_tup, rev_lst, idx_t0, idx_t1, idx_t2, idx_t3, idx_l0, idx_l1, idx_l2, idx_l3, sl_tup, sl_lst, sl_W, cmp_lt, cmp_le, cmp_gt, cmp_ge, cmp_isN, cmp_notN, cmp_isB, cmp_notB, eq_int, ne_int, eq_W, ne_W, eq_b, ne_b, isT_def, ty_int_none, ty_int_bool, ty_int_int, ty_int_str, ty_int_list, ty_int_tuple, ty_int_dict, ty_int_W, ty_bool_none, ty_bool_bool, ty_bool_int, ty_bool_str, ty_bool_list, ty_bool_tuple, ty_bool_dict, ty_bool_W, ty_str_none, ty_str_bool, ty_str_int, ty_str_str, ty_str_list, ty_str_tuple, ty_str_dict, ty_str_W, ty_tuple_none, ty_tuple_bool, ty_tuple_int, ty_tuple_str, ty_tuple_list, ty_tuple_tuple, ty_tuple_dict, ty_tuple_W, ty_list_none, ty_list_bool, ty_list_int, ty_list_str, ty_list_list, ty_list_tuple, ty_list_dict, ty_list_W, ty_dict_none, ty_dict_bool, ty_dict_int, ty_dict_str, ty_dict_list, ty_dict_tuple, ty_dict_dict, ty_dict_W, List.any_cons, List.any_nil, Bool.or_false, Bool.false_or, Bool.or_true, Bool.true_or, Bool.not_true, Bool.not_false, Bool.and_true, Bool.true_and, Bool.and_false, Bool.false_and, notNone, cmpD_def, Option.map_some, decide_true, decide_false, int_int, put_l0, put_l1, put_l2, put_l3, ev_call_0, ev_2k, ev_LW, ev_SlO, asStr_W, asList_l, str_nil, beq_self_eq_true, Nat.reduceAdd, Nat.reduceSub, Nat.reduceLeDiff, Int.reduceEq, Int.reduceLE, Int.reduceLT, Int.reduceSub, Int.reduceAdd, Int.reduceNeg, Int.cast_ofNat_Int, Int.natCast_one, Int.natCast_zero])
variable {laws : List Lw} {ls ls2 : List Line} {l : Line} {nm L w w1 w2 : Wd} {u : Use} {r r2 row : List Use} {M : Nat} {ks ds : List Nat}
/-! ### the law: its own judge -/
theorem gd_dU (u : Use) : Gn 1 (dU u) := gn_tup (gn_cons (gn_int _) (gn_cons (gn_int _) (gn_cons (gn_int _) (gn_cons (gn_int _) gn_nil))))
theorem gd_dR (r : List Use) : Gn 2 (dR r) := gn_tup (gn_map fun u _ => gd_dU u)
theorem gd_dLn (l : Line) : Gn 3 (dLn l) := gn_tup (gn_cons (gn_W _) (gn_cons (gn_W _) (gn_cons (gd_dR _) gn_nil)))
theorem gd_dLw (l : Lw) : Gn 1 (dLw l) := gn_tup (gn_cons (gn_W _) (gn_cons (gn_W _) gn_nil))
theorem gd_dLs (ls : List Line) : Gn 4 (dLs ls) := gn_tup (gn_map fun l _ => gd_dLn l)
theorem gd_dP (ls : List Line) (r : List Use) : Gn 5 (dP ls r) := gn_tup (gn_cons (gn_str _) (gn_cons (gd_dLs ls) (gn_cons ((gd_dR r).mono (by decide)) gn_nil)))
theorem nmem01 {k : Int} (h : k = 0 ∨ k = 1) : cmpB .nmem (.int k) (.tuple [.int 0, .int 1]) = some false := by
  rw [nmem_of (mem_gdt (gd_int _) ((gn_tup (n := 0) (gn_cons (gn_int _) (gn_cons (gn_int _) gn_nil))).gd (by decide)))]
  have : PyData.int k ∈ [PyData.int 0, PyData.int 1] := by rcases h with rfl | rfl <;> simp
  simp [this]
open Classical in
theorem nmem_stn {n : Nat} {w p : Wd} (h : n ∈ stn w p) : cmpB .nmem (.int n) (.list ((stn w p).map fun (k : Nat) => PyData.int k)) = some false := by
  rw [nmem_of (mem_gd (gd_int _) ((gn_lst (n := 0) (gn_map fun x hx => gn_int _)).gd (by decide)))]
  rw [decide_eq_true (List.mem_map_of_mem (f := fun (k : Nat) => PyData.int k) h)]
  rfl
theorem gd_lnil : Gd (.list []) := (gn_lst (n := 0) gn_nil).gd (by decide)
theorem walked_step {k i p y : Int} (o5 o6 o7 o8 : Option D) (R : D) (h : U1 laws (ls.map pr) w (k, i, p, y) w1) (hw : w.length ≤ Sm) (hl : Sml Sm laws) (hs : Sml Sm (ls.map pr)) :
    St1 (lb__law_walked_0 [some (dBk nm L laws), some (dLs ls), some (dW w), some R, some (dU (k, i, p, y)), o5, o6, o7, o8] []) fun ρ ω => ω = [] ∧ ∃ o4 o5 o6 o7 o8, ρ = [some (dBk nm L laws), some (dLs ls), some (dW w1), some R, o4, o5, o6, o7, o8] := by
  cases h with
  | mk a b k i y c h hy =>
  have hsl := side_len hl hs (y := y) h
  have hsl2 := side_len hl hs (y := 1 - y) h
  have hk : 0 ≤ i ∧ (k = 0 ∨ k = 1) := by
    unfold cpl at h
    split at h
    · rename_i h0
      refine ⟨h0, ?_⟩
      split at h
      · rename_i q; exact .inl q
      · split at h
        · rename_i q; exact .inr q
        · cases h
    · cases h
  simp only [lb__law_walked_0, dU]
  walk_at "ev"
  rw [show [PyData.int k, PyData.int i, PyData.int (a.length : Int), PyData.int y] = [k, i, (a.length : Int), y].map PyData.int from rfl, lcGo_map PyData.int (fun _ => false) (fun _ => .int 1) _ fun x hx => by
    walk_at "ev"; rw [law_is_int_ev]; walk_at "ev"; exact ⟨trivial, fun _ => trivial⟩]
  rw [List.filter_eq_nil_iff.mpr (fun _ _ => Bool.false_ne_true), List.map_nil]
  walk_at "ev"
  rw [cmp_ne_self gd_lnil]
  walk_at "ev"
  rw [show [k, i, (a.length : Int), y].map PyData.int = [.int k, .int i, .int (a.length : Int), .int y] from rfl]
  walk_at "ev"
  rw [nmem01 hk.2]
  walk_at "ev"
  rw [nmem01 hy]
  walk_at "ev"
  have h' := h
  unfold cpl at h'
  rw [if_pos hk.1] at h'
  rcases hk.2 with rfl | rfl
  · rw [if_pos rfl] at h'
    have hlt := (List.getElem?_eq_some_iff.mp h').1
    have hb : decide (i < ((laws.map dLw).length : Int)) = true := decide_eq_true (by rw [List.length_map]; omega)
    have E1 : idxD (.tuple (laws.map dLw)) (.int i) = some (dLw c) := by rw [idx_tup hk.1 (by rw [List.length_map]; exact hlt), List.getElem?_map, h']; rfl
    have E2 : idxD (dLw c) (.int y) = some (dW (side c y)) := idx_side hy
    have E3 : idxD (dLw c) (.int (1 - y)) = some (dW (side c (1 - y))) := idx_side (by omega)
    unfold dBk
    walk_at "ev"
    rw [decide_eq_true hk.1]
    walk_at "ev"
    rw [hb]
    walk_at "ev"
    repeat (first | rw [E1] | rw [E2] | rw [E3] | walk_at "ev")
    rw [law_stands_ev _ _ hw hsl]
    walk_at "ev"
    rw [nmem_stn (stn_mem a _ b)]
    walk_at "ev"
    rw [Sm_def] at hw hsl hsl2
    simp only [List.length_append] at hw
    rw [cut_take _ (by omega), show ((a.length : Nat) : Int).toNat = a.length by omega, List.append_assoc, List.take_left' rfl, add_W (by rw [LIM_def]; omega)]
    walk_at "ev"
    rw [cut_drop _ (by omega), show ((a.length : Int) + (side c y).length).toNat = (a ++ side c y).length by simp only [List.length_append]; omega, ← List.append_assoc, List.drop_left' rfl, add_W (by rw [LIM_def]; simp only [List.length_append]; omega)]
    walk_at "ev"
    exact ⟨by trivial, _, _, _, _, _, rfl⟩
  · rw [if_neg (by decide), if_pos rfl, List.getElem?_map] at h'
    cases e : ls[i.toNat]? with
    | none => rw [e] at h'; cases h'
    | some l =>
    rw [e] at h'
    simp only [Option.map_some, Option.some.injEq] at h'
    have hlt := (List.getElem?_eq_some_iff.mp e).1
    have hb : decide (i < ((ls.map dLn).length : Int)) = true := decide_eq_true (by rw [List.length_map]; omega)
    have E1 : idxD (.tuple (ls.map dLn)) (.int i) = some (dLn l) := by rw [idx_tup hk.1 (by rw [List.length_map]; exact hlt), List.getElem?_map, e]; rfl
    have E2 : idxD (dLn l) (.int y) = some (dW (side c y)) := by rw [← h']; rcases hy with rfl | rfl <;> rfl
    have E3 : idxD (dLn l) (.int (1 - y)) = some (dW (side c (1 - y))) := by rw [← h']; rcases hy with rfl | rfl <;> rfl
    unfold dLs
    walk_at "ev"
    rw [decide_eq_true hk.1]
    walk_at "ev"
    rw [hb]
    walk_at "ev"
    repeat (first | rw [E1] | rw [E2] | rw [E3] | walk_at "ev")
    rw [law_stands_ev _ _ hw hsl]
    walk_at "ev"
    rw [nmem_stn (stn_mem a _ b)]
    walk_at "ev"
    rw [Sm_def] at hw hsl hsl2
    simp only [List.length_append] at hw
    rw [cut_take _ (by omega), show ((a.length : Nat) : Int).toNat = a.length by omega, List.append_assoc, List.take_left' rfl, add_W (by rw [LIM_def]; omega)]
    walk_at "ev"
    rw [cut_drop _ (by omega), show ((a.length : Int) + (side c y).length).toNat = (a ++ side c y).length by simp only [List.length_append]; omega, ← List.append_assoc, List.drop_left' rfl, add_W (by rw [LIM_def]; simp only [List.length_append]; omega)]
    walk_at "ev"
    exact ⟨by trivial, _, _, _, _, _, rfl⟩
theorem walked_ev (h : Pp.Wk M laws (ls.map pr) w r w1) (hM : M ≤ Sm) (hl : Sml Sm laws) (hs : Sml Sm (ls.map pr)) : m__law_walked [dBk nm L laws, dLs ls, dW w, dR r] [] = .ok (dW w1) [] := by
  unfold m__law_walked b__law_walked dR
  walk_at "ev"
  have key : ∀ (R : D) (r : List Use) (w : Wd) (o4 o5 o6 o7 o8 : Option D), Pp.Wk M laws (ls.map pr) w r w1 → St1 (sForGo (.nm 4) lb__law_walked_0 (r.map dU) [some (dBk nm L laws), some (dLs ls), some (dW w), some R, o4, o5, o6, o7, o8] []) fun ρ ω => ω = [] ∧ ∃ o4 o5 o6 o7 o8, ρ = [some (dBk nm L laws), some (dLs ls), some (dW w1), some R, o4, o5, o6, o7, o8] := by
    intro R r
    induction r with
    | nil => intro w o4 o5 o6 o7 o8 h; cases h; rw [List.map_nil]; walk_at "ev"; exact ⟨trivial, _, _, _, _, _, rfl⟩
    | cons u r ih =>
      intro w o4 o5 o6 o7 o8 h
      cases h with
      | cons h s t =>
      rw [List.map_cons, for_cons, bt_nm, FB_some]
      simp only [List.set_cons_succ, List.set_cons_zero]
      obtain ⟨ρ', ω', e, hω, p4, p5, p6, p7, p8, hρ⟩ := St1_ex (walked_step (nm := nm) (L := L) o5 o6 o7 o8 R s (by omega) hl hs)
      subst hω hρ
      rw [show dU u = dU (u.1, u.2.1, u.2.2.1, u.2.2.2) from rfl, e, FG_nx]
      exact ih _ _ _ _ _ _ t
  obtain ⟨ρ', ω', e, hω, p4, p5, p6, p7, p8, hρ⟩ := St1_ex (key (.tuple (r.map dU)) r w none none none none none h)
  subst hω hρ
  rw [e]
  walk_at "ev"
theorem law_are_lines_ev (hv : VL M laws ls) (hM : M ≤ Sm) (hl : Sml Sm laws) (hs : Sml Sm (ls.map pr)) : m__law_are_lines [dBk nm L laws, dLs ls] [] = .ok (.bool true) [] := by
  unfold m__law_are_lines b__law_are_lines
  have e : dLs ls = .tuple (ls.map dLn) := rfl
  rw [e]
  walk_at "ev"
  rw [← e]
  have key : ∀ (post pre : List Line) (o2 o3 o4 o5 : Option D), ls = pre ++ post → St1 (sForGo (.tup [.nm 2, .tup [.nm 3, .nm 4, .nm 5]]) lb__law_are_lines_0 (enumFrom pre.length (post.map dLn)) [some (dBk nm L laws), some (dLs ls), o2, o3, o4, o5] []) fun ρ ω => ω = [] := by
    intro post
    induction post with
    | nil => intro pre o2 o3 o4 o5 _; rw [List.map_nil, enumFrom]; walk_at "ev"
    | cons l post ih =>
      intro pre o2 o3 o4 o5 hl'
      rw [List.map_cons, enumFrom]
      have hi : ls[pre.length]? = some l := by rw [hl', List.getElem?_append_right (Nat.le_refl _)]; simp
      obtain ⟨h1, h2⟩ := hv _ _ hi
      have ht : ls.take pre.length = pre := by rw [hl', List.take_left' rfl]
      rw [ht] at h2
      have hs' : Sml Sm (pre.map pr) := fun p hp => hs p (by rw [hl', List.map_append]; exact List.mem_append_left _ hp)
      simp only [lb__law_are_lines_0, dLn]
      walk_at "ev"
      rw [law_less_ev, h1]
      walk_at "ev"
      conv => enter [1]; unfold dLs
      walk_at "ev"
      rw [cut_take _ (by omega), show ((pre.length : Nat) : Int).toNat = pre.length by omega, ← List.map_take, ht]
      have := walked_ev (nm := nm) (L := L) h2 hM hl hs'
      unfold dLs at this
      rw [this]
      walk_at "ev"
      have := ih (pre ++ [l]) (some (.int pre.length)) (some (dW l.1)) (some (dW l.2.1)) (some (dR l.2.2)) (by rw [hl']; simp)
      rw [List.length_append, List.length_singleton] at this
      exact this
  obtain ⟨ρ', ω', e2', hω⟩ := St1_ex (key ls [] none none none none rfl)
  subst hω
  rw [show enumFrom 0 (ls.map dLn) = enumFrom ([] : List Line).length (ls.map dLn) from rfl, e2']
  walk_at "ev"
theorem law_shows_ev (hv : VL M laws ls) (hM : M ≤ Sm) (hl : Sml Sm laws) (hs : Sml Sm (ls.map pr)) (h : Pp.Wk M laws (ls.map pr) w r w1) (w2 : Wd) : m__law_shows [dBk nm L laws, dW w, dW w2, dP ls r] [] = .ok (.bool (decide (w1 = w2))) [] := by
  unfold m__law_shows b__law_shows dP
  walk_at "ev"
  rw [cmp_ne_self (gd_str _)]
  walk_at "ev"
  rw [law_are_lines_ev hv hM hl hs]
  walk_at "ev"
  rw [walked_ev h hM hl hs]
  walk_at "ev"
end K00

set_option Elab.async false
set_option linter.all false
set_option maxRecDepth 100000
set_option maxHeartbeats 1000000
namespace K00
open PySem Wc Pp
local macro_rules | `(tactic| walk_at "ev") => `(tactic| simp only [dLn_0, dLn_1, dLn_2, RB_ok, RB_ex, LF_some, ev_bind, ev_pure, ev_lift, SB_ok, SB_ex, SQ_nx, SQ_rt, SQ_ex, SQ_bk, SQ_ct, VR_ok, ev_var, ev_own, GV_ok, ev_give, ev_c, ev_1, ev_2, ev_2o, ev_tC, ev_tCo, CH_t, CH_f, ev_tCh, ev_tB, ev_tAnd, ev_tOr, ev_tNot, ev_tYes, ev_eT, ev_eAnd, ev_eOr, ev_eNot, ev_eIf, ev_eCh, ev_items_nil, ev_items_one, ev_items_star, ev_eTup, ev_eLst, PT_int, ev_part_n, ev_part_s, ev_eSl, ev_args_nil, ev_args_sh, ev_args_ow, CB_ok, CB_ex, ev_call0, ev_eCall, owns, putO, ev_wOf, RN_int, ev_wRange, RND_int, ev_wDown, ev_wEnum, ev_wZip, ev_eLc, ev_eDc, OB_some, bt_nm, bt_tup, bt_nil, bt_cons, ev_nil, ev_seq, ev_asg, NX_some, ev_par2, P1.e, P1.ρ, P1.ω, ev_own_set, ev_aug, IFS_t, IFS_f, ev_if, ev_ret, ev_drop, ev_raise, MK_some, MKo_some, ev_mutK, ev_mut, ev_lstE, ev_put, ev_augI, ev_for, FG_nx, FG_ct, FG_bk, FG_rt, FG_ex, FB_some, for_nil, for_cons, DF_nx, DF_rt, DF_ex, ev_defM, entryE, Bd_some, St1_nx, List.getElem?_cons_succ, List.getElem?_cons_zero, List.set_cons_succ, List.set_cons_zero, List.replicate_succ, List.replicate_zero, List.length_cons, List.length_nil, List.nil_append, List.cons_append, List.take_zero, List.take_succ_cons, List.take_nil, wipeE, limited_k, truth_b, add_int, sub_int, addI_int, neg_int, len_W, len_tup, len_lst, items_tup, items_lst, items_W, seq_tup, seq_lst, tup_tup, tup_lst, rev_tup, rev_lst, idx_t0, idx_t1, idx_t2, idx_t3, idx_l0, idx_l1, idx_l2, idx_l3, sl_tup, sl_lst, sl_W, cmp_lt, cmp_le, cmp_gt, cmp_ge, cmp_isN, cmp_notN, cmp_isB, cmp_notB, eq_int, ne_int, eq_W, ne_W, eq_b, ne_b, isT_def, ty_int_none, ty_int_bool, ty_int_int, ty_int_str, ty_int_list, ty_int_tuple, ty_int_dict, ty_int_W, ty_bool_none, ty_bool_bool, ty_bool_int, ty_bool_str, ty_bool_list, ty_bool_tuple, ty_bool_dict, ty_bool_W, ty_str_none, ty_str_bool, ty_str_int, ty_str_str, ty_str_list, ty_str_tuple, ty_str_dict, ty_str_W, ty_tuple_none, ty_tuple_bool, ty_tuple_int, ty_tuple_str, ty_tuple_list, ty_tuple_tuple, ty_tuple_dict, ty_tuple_W, ty_list_none, ty_list_bool, ty_list_int, ty_list_str, ty_list_list, ty_list_tuple, ty_list_dict, ty_list_W, ty_dict_none, ty_dict_bool, ty_dict_int, ty_dict_str, ty_dict_list, ty_dict_tuple, ty_dict_dict, ty_dict_W, List.any_cons, List.any_nil, Bool.or_false, Bool.false_or, Bool.or_true, Bool.true_or, Bool.not_true, Bool.not_false, Bool.and_true, Bool.true_and, Bool.and_false, Bool.false_and, notNone, cmpD_def, Option.map_some, decide_true, decide_false, int_int, put_l0, put_l1, put_l2, put_l3, ev_call_0, ev_2k, ev_LW, ev_SlO, asStr_W, asList_l, str_nil, beq_self_eq_true, Nat.reduceAdd, Nat.reduceSub, Nat.reduceLeDiff, Int.reduceEq, Int.reduceLE, Int.reduceLT, Int.reduceSub, Int.reduceAdd, Int.reduceNeg, Int.cast_ofNat_Int, Int.natCast_one, Int.natCast_zero])
variable {laws : List Lw} {ls ls2 : List Line} {l : Line} {nm L w w1 w2 : Wd} {u : Use} {r r2 row : List Use} {M : Nat} {ks ds : List Nat}
/-! ### the law: drawn uses -/
def GU (laws pairs : List Lw) (w : Wd) (most : Int) (us : List Use) : Prop := ∀ u ∈ us, ∃ w1, U1 laws pairs w u w1 ∧ (w1.length : Int) ≤ most
theorem GU.app {pairs : List Lw} {most : Int} {us vs : List Use} (h : GU laws pairs w most us) (g : GU laws pairs w most vs) : GU laws pairs w most (us ++ vs) := fun u hu => by
  rcases List.mem_append.mp hu with hu | hu
  · exact h u hu
  · exact g u hu
theorem stn_len (w p : Wd) : (stn w p).length ≤ w.length + 1 := by
  unfold stn
  refine Nat.le_trans (List.length_filter_le _ _) ?_
  rw [List.length_range]; omega
theorem uses_way {pairs : List Lw} {most k i y : Int} {c : Lw} {P S A B : D} {us : List Use} (o10 : Option D) (hy : y = 0 ∨ y = 1) (hc : cpl laws pairs k i = some c) (hP : idxD P (.int 0) = some (dW c.1) ∧ idxD P (.int 1) = some (dW c.2))
    (hw : w.length ≤ Sm) (hl : Sml Sm laws) (hs : Sml Sm pairs) (hu : us.length + w.length + 1 ≤ 16777216) (hg : GU laws pairs w most us) :
    St1 (lb__law_uses_on_0 [some A, some B, some (dW w), some (.int most), some (.list (us.map dU)), some (.int k), some S, some (.int i), some P, some (.int y), o10] []) fun ρ ω => ω = [] ∧ ∃ us' : List Use, ρ = [some A, some B, some (dW w), some (.int most), some (.list (us'.map dU)), some (.int k), some S, some (.int i), some P, some (.int y), o10] ∧ GU laws pairs w most us' ∧ us'.length ≤ us.length + (w.length + 1) := by
  have h1 : idxD P (.int y) = some (dW (side c y)) := by rcases hy with rfl | rfl; exact hP.1; exact hP.2
  have h2 : idxD P (.int (1 - y)) = some (dW (side c (1 - y))) := by rcases hy with rfl | rfl; exact hP.2; exact hP.1
  have hsl := side_len hl hs (y := y) hc
  simp only [lb__law_uses_on_0]
  walk_at "ev"
  rw [h2]
  walk_at "ev"
  rw [h1]
  walk_at "ev"
  by_cases q : (w.length : Int) + (side c (1 - y)).length - (side c y).length ≤ most
  · rw [decide_eq_true q]
    walk_at "ev"
    rw [h1]
    walk_at "ev"
    rw [law_stands_ev _ _ hw hsl]
    walk_at "ev"
    rw [lcGo_all (fun (k : Nat) => PyData.int k) (fun (p : Nat) => dU (k, i, p, y)) _ fun p hp => by walk_at "ev"; rfl]
    walk_at "ev"
    have h3 := stn_len w (side c y)
    rw [add_lst (by rw [LIM_def, List.length_map, List.length_map]; omega)]
    walk_at "ev"
    refine ⟨trivial, us ++ (stn w (side c y)).map (fun (p : Nat) => ((k, i, (p : Int), y) : Use)), ?_, hg.app ?_, ?_⟩
    · rw [List.map_append, List.map_map]; rfl
    · intro u hu
      obtain ⟨p, hp, rfl⟩ := List.mem_map.mp hu
      obtain ⟨a, b, rfl, rfl⟩ := stn_cut hp
      refine ⟨_, .mk a b k i y c hc hy, ?_⟩
      simp only [List.length_append] at q ⊢
      omega
    · rw [List.length_append, List.length_map]; omega
  · rw [decide_eq_false q]
    walk_at "ev"
    exact ⟨trivial, us, rfl, hg, by omega⟩
theorem uses_mid {pairs : List Lw} {most k : Int} {S A B : D} (hw : w.length ≤ Sm) (hl : Sml Sm laws) (hs : Sml Sm pairs) : ∀ (ps : List D) (cs : List Lw) (n : Nat) (us : List Use) (o7 o8 o9 o10 : Option D),
    All2 (fun P (c : Lw) => idxD P (.int 0) = some (dW c.1) ∧ idxD P (.int 1) = some (dW c.2)) ps cs → (∀ (j : Nat) c, cs[j]? = some c → cpl laws pairs k ((n + j : Nat) : Int) = some c) → us.length + ps.length * (2 * (w.length + 1)) ≤ 16777216 → GU laws pairs w most us →
    St1 (sForGo (.tup [.nm 7, .nm 8]) lb__law_uses_on_1 (enumFrom n ps) [some A, some B, some (dW w), some (.int most), some (.list (us.map dU)), some (.int k), some S, o7, o8, o9, o10] []) fun ρ ω => ω = [] ∧ ∃ (us' : List Use) (o7 o8 o9 o10 : Option D), ρ = [some A, some B, some (dW w), some (.int most), some (.list (us'.map dU)), some (.int k), some S, o7, o8, o9, o10] ∧ GU laws pairs w most us' ∧ us'.length ≤ us.length + ps.length * (2 * (w.length + 1))
  | [], _, n, us, o7, o8, o9, o10, _, _, _, hg => by
    rw [enumFrom]
    walk_at "ev"
    exact ⟨trivial, us, _, _, _, _, rfl, hg, by simp⟩
  | P :: ps, _, n, us, o7, o8, o9, o10, .cons (y := c) (ys := cs) hP t, hc, hu, hg => by
    rw [List.length_cons, Nat.add_mul] at hu
    have hc0 := hc 0 c (by simp)
    rw [Nat.add_zero] at hc0
    rw [enumFrom, for_cons]
    simp only [bt_tup, bt_cons, bt_nm, bt_nil, OB_some, List.set_cons_succ, List.set_cons_zero, FB_some]
    have body : St1 (lb__law_uses_on_1 [some A, some B, some (dW w), some (.int most), some (.list (us.map dU)), some (.int k), some S, some (.int n), some P, o9, o10] []) fun ρ ω => ω = [] ∧ ∃ (us' : List Use) (o9 : Option D), ρ = [some A, some B, some (dW w), some (.int most), some (.list (us'.map dU)), some (.int k), some S, some (.int n), some P, o9, o10] ∧ GU laws pairs w most us' ∧ us'.length ≤ us.length + 2 * (w.length + 1) := by
      unfold lb__law_uses_on_1
      rw [ev_for, ev_wOf, ev_eTup]
      simp only [ev_items_one, ev_items_nil, ev_c, RB_ok, ev_pure]
      rw [limited_k _ (by simp), RB_ok]
      simp only [ev_pure, RB_ok, items_tup, LF_some, SB_ok, for_cons, for_nil, bt_nm, FB_some, List.set_cons_succ, List.set_cons_zero]
      obtain ⟨ρ1, ω1, e1', hω, us1, hρ, hg1, hl1⟩ := St1_ex (uses_way (A := A) (B := B) (S := S) (P := P) (us := us) o10 (.inl rfl) hc0 hP hw hl hs (by omega) hg)
      subst hω hρ
      rw [e1', FG_nx, for_cons, bt_nm, FB_some]
      simp only [List.set_cons_succ, List.set_cons_zero]
      obtain ⟨ρ1, ω1, e1', hω, us2, hρ, hg2, hl2⟩ := St1_ex (uses_way (A := A) (B := B) (S := S) (P := P) (us := us1) o10 (.inr rfl) hc0 hP hw hl hs (by omega) hg1)
      subst hω hρ
      rw [e1', FG_nx, for_nil, St1_nx]
      exact ⟨rfl, us2, _, rfl, hg2, by omega⟩
    obtain ⟨ρ1, ω1, e1', hω, us1, p9, hρ, hg1, hl1⟩ := St1_ex body
    subst hω hρ
    rw [e1', FG_nx]
    obtain ⟨ρ1, ω1, e1', hω, us2, p7, p8, p9, p10, hρ, hg2, hl2⟩ := St1_ex (uses_mid (A := A) (B := B) (S := S) hw hl hs ps cs (n + 1) us1 (some (.int n)) (some P) p9 o10 t (fun j c' hj => by
      have := hc (j + 1) c' (by simpa using hj)
      rwa [show n + 1 + j = n + (j + 1) by omega]) (by omega) hg1)
    subst hω hρ
    rw [e1', St1_nx]
    exact ⟨rfl, us2, _, _, _, _, rfl, hg2, by rw [List.length_cons, Nat.add_mul]; omega⟩
theorem all2_map {τ : Type} {f : τ → D} {g : τ → Lw} {R : D → Lw → Prop} : ∀ {xs : List τ}, (∀ x, R (f x) (g x)) → All2 R (xs.map f) (xs.map g)
  | [], _ => .nil
  | x :: xs, h => .cons (h x) (all2_map h)
theorem uses_on_ev {most : Int} (hw : w.length ≤ Sm) (hl : Sml Sm laws) (hs : Sml Sm (ls.map pr)) (hn : (laws.length + ls.length) * (2 * (w.length + 1)) ≤ 16777216) :
    ∃ us : List Use, m__law_uses_on [dBk nm L laws, dLs ls, dW w, .int most] [] = .ok (.list (us.map dU)) [] ∧ GU laws (ls.map pr) w most us ∧ us.length ≤ (laws.length + ls.length) * (2 * (w.length + 1)) := by
  rw [Nat.add_mul] at hn ⊢
  unfold m__law_uses_on b__law_uses_on
  walk_at "ev"
  unfold dBk dLs
  walk_at "ev"
  obtain ⟨ρ1, ω1, e1', hω, us1, p7, p8, p9, p10, hρ, hg1, hl1⟩ := St1_ex (uses_mid (laws := laws) (pairs := ls.map pr) (w := w) (most := most) (k := 0) (A := .tuple [dW nm, dW L, .tuple (laws.map dLw)]) (B := .tuple (ls.map dLn)) (S := .tuple (laws.map dLw)) hw hl hs (laws.map dLw) laws 0 [] none none none none (by
      have := all2_map (f := dLw) (g := id) (R := fun P (c : Lw) => idxD P (.int 0) = some (dW c.1) ∧ idxD P (.int 1) = some (dW c.2)) (xs := laws) fun c => ⟨rfl, rfl⟩
      rwa [List.map_id] at this) (fun j c hj => by
      unfold cpl; rw [if_pos (by omega), if_pos rfl, Nat.zero_add, show ((j : Nat) : Int).toNat = j by omega]; exact hj) (by rw [List.length_map, List.length_nil]; omega) (by intro u hu; cases hu))
  subst hω hρ
  rw [List.map_nil] at e1'
  rw [List.length_map, List.length_nil] at hl1
  rw [e1', FG_nx]
  walk_at "ev"
  obtain ⟨ρ1, ω1, e2', hω, us2, q7, q8, q9, q10, hρ, hg2, hl2⟩ := St1_ex (uses_mid (laws := laws) (pairs := ls.map pr) (w := w) (most := most) (k := 1) (A := .tuple [dW nm, dW L, .tuple (laws.map dLw)]) (B := .tuple (ls.map dLn)) (S := .tuple (ls.map dLn)) hw hl hs (ls.map dLn) (ls.map pr) 0 us1 p7 p8 p9 p10 (all2_map fun c => ⟨rfl, rfl⟩) (fun j c hj => by
      unfold cpl; rw [if_pos (by omega), if_neg (by decide), if_pos rfl, Nat.zero_add, show ((j : Nat) : Int).toNat = j by omega]; exact hj) (by rw [List.length_map]; omega) hg1)
  subst hω hρ
  rw [List.length_map] at hl2
  rw [e2', FG_nx]
  walk_at "ev"
  exact ⟨us2, rfl, hg2, by omega⟩
end K00

set_option Elab.async false
set_option linter.all false
set_option maxRecDepth 100000
set_option maxHeartbeats 1000000
namespace K00
open PySem Wc Pp
local macro_rules | `(tactic| walk_at "ev") => `(tactic| simp only [dLn_0, dLn_1, dLn_2, RB_ok, RB_ex, LF_some, ev_bind, ev_pure, ev_lift, SB_ok, SB_ex, SQ_nx, SQ_rt, SQ_ex, SQ_bk, SQ_ct, VR_ok, ev_var, ev_own, GV_ok, ev_give, ev_c, ev_1, ev_2, ev_2o, ev_tC, ev_tCo, CH_t, CH_f, ev_tCh, ev_tB, ev_tAnd, ev_tOr, ev_tNot, ev_tYes, ev_eT, ev_eAnd, ev_eOr, ev_eNot, ev_eIf, ev_eCh, ev_items_nil, ev_items_one, ev_items_star, ev_eTup, ev_eLst, PT_int, ev_part_n, ev_part_s, ev_eSl, ev_args_nil, ev_args_sh, ev_args_ow, CB_ok, CB_ex, ev_call0, ev_eCall, owns, putO, ev_wOf, RN_int, ev_wRange, RND_int, ev_wDown, ev_wEnum, ev_wZip, ev_eLc, ev_eDc, OB_some, bt_nm, bt_tup, bt_nil, bt_cons, ev_nil, ev_seq, ev_asg, NX_some, ev_par2, P1.e, P1.ρ, P1.ω, ev_own_set, ev_aug, IFS_t, IFS_f, ev_if, ev_ret, ev_drop, ev_raise, MK_some, MKo_some, ev_mutK, ev_mut, ev_lstE, ev_put, ev_augI, ev_for, FG_nx, FG_ct, FG_bk, FG_rt, FG_ex, FB_some, for_nil, for_cons, DF_nx, DF_rt, DF_ex, ev_defM, entryE, Bd_some, St1_nx, List.getElem?_cons_succ, List.getElem?_cons_zero, List.set_cons_succ, List.set_cons_zero, List.replicate_succ, List.replicate_zero, List.length_cons, List.length_nil, List.nil_append, List.cons_append, List.take_zero, List.take_succ_cons, List.take_nil, wipeE, limited_k, truth_b, add_int, sub_int, addI_int, neg_int, len_W, len_tup, len_lst, items_tup, items_lst, items_W, seq_tup, seq_lst, tup_tup, tup_lst, rev_tup, rev_lst, idx_t0, idx_t1, idx_t2, idx_t3, idx_l0, idx_l1, idx_l2, idx_l3, sl_tup, sl_lst, sl_W, cmp_lt, cmp_le, cmp_gt, cmp_ge, cmp_isN, cmp_notN, cmp_isB, cmp_notB, eq_int, ne_int, eq_W, ne_W, eq_b, ne_b, isT_def, ty_int_none, ty_int_bool, ty_int_int, ty_int_str, ty_int_list, ty_int_tuple, ty_int_dict, ty_int_W, ty_bool_none, ty_bool_bool, ty_bool_int, ty_bool_str, ty_bool_list, ty_bool_tuple, ty_bool_dict, ty_bool_W, ty_str_none, ty_str_bool, ty_str_int, ty_str_str, ty_str_list, ty_str_tuple, ty_str_dict, ty_str_W, ty_tuple_none, ty_tuple_bool, ty_tuple_int, ty_tuple_str, ty_tuple_list, ty_tuple_tuple, ty_tuple_dict, ty_tuple_W, ty_list_none, ty_list_bool, ty_list_int, ty_list_str, ty_list_list, ty_list_tuple, ty_list_dict, ty_list_W, ty_dict_none, ty_dict_bool, ty_dict_int, ty_dict_str, ty_dict_list, ty_dict_tuple, ty_dict_dict, ty_dict_W, List.any_cons, List.any_nil, Bool.or_false, Bool.false_or, Bool.or_true, Bool.true_or, Bool.not_true, Bool.not_false, Bool.and_true, Bool.true_and, Bool.and_false, Bool.false_and, notNone, cmpD_def, Option.map_some, decide_true, decide_false, int_int, put_l0, put_l1, put_l2, put_l3, ev_call_0, ev_2k, ev_LW, ev_SlO, asStr_W, asList_l, str_nil, beq_self_eq_true, Nat.reduceAdd, Nat.reduceSub, Nat.reduceLeDiff, Int.reduceEq, Int.reduceLE, Int.reduceLT, Int.reduceSub, Int.reduceAdd, Int.reduceNeg, Int.cast_ofNat_Int, Int.natCast_one, Int.natCast_zero])
variable {laws : List Lw} {ls ls2 : List Line} {l : Line} {nm L w w1 w2 : Wd} {u : Use} {r r2 row : List Use} {M : Nat} {ks ds : List Nat}
/-! ### the law: drawn papers -/
def InP (L : Wd) (ps : List Lw) : Prop := ∀ p ∈ ps, In L p.1 ∧ In L p.2
theorem In.app {a b : Wd} (h : In L a) (g : In L b) : In L (a ++ b) := fun c hc => by
  rcases List.mem_append.mp hc with hc | hc
  · exact h c hc
  · exact g c hc
theorem In.sub {a b : Wd} (h : In L b) (g : ∀ c ∈ a, c ∈ b) : In L a := fun c hc => h c (g c hc)
theorem cpl_mem {pairs : List Lw} {k i : Int} {c : Lw} (h : cpl laws pairs k i = some c) : c ∈ laws ∨ c ∈ pairs := by
  unfold cpl at h
  split at h
  · split at h
    · exact .inl (List.mem_of_getElem? h)
    · split at h
      · exact .inr (List.mem_of_getElem? h)
      · cases h
  · cases h
theorem U1.inL {pairs : List Lw} (h : U1 laws pairs w u w1) (h1 : InP L laws) (h2 : InP L pairs) (hw : In L w) : In L w1 := by
  cases h with
  | mk a b k i y c hc hy =>
    have hm : In L c.1 ∧ In L c.2 := by
      rcases cpl_mem hc with hm | hm
      · exact h1 c hm
      · exact h2 c hm
    have hs : ∀ z, In L (side c z) := fun z => by unfold side; split; exact hm.1; exact hm.2
    exact ((hw.sub fun c hc => by simp [hc]).app (hs _)).app (hw.sub fun c hc => by simp [hc])
theorem Wk_inL {pairs : List Lw} (h : Pp.Wk M laws pairs w r w1) (h1 : InP L laws) (h2 : InP L pairs) (hw : In L w) : In L w1 := by
  induction h with
  | nil _ => exact hw
  | cons _ s _ ih => exact ih (U1.inL s h1 h2 hw)
theorem walk_ev {β : D} (hβ : Bag β) {many most : Int} (hM : M ≤ 1000) (hl : Sml 1000 laws) (hs : Sml 1000 (ls.map pr)) (hn1 : laws.length ≤ 100) (hn2 : ls.length ≤ 100) (hw : w.length ≤ M) (hm : most ≤ M) (h0 : 0 ≤ many) (h1 : many ≤ 1000) :
    ∃ (row : List Use) (w1 : Wd) (β' : D), m__law_walk [dBk nm L laws, dLs ls, dW w, .int many, .int most] [some β] = .ok (.tuple [dR row, dW w1]) [some β'] ∧ Bag β' ∧ Pp.Wk M laws (ls.map pr) w row w1 ∧ (row.length : Int) ≤ many := by
  have big : ∀ {ps : List Lw}, Sml 1000 ps → Sml Sm ps := fun h p hp => by have := h p hp; rw [Sm_def]; omega
  unfold m__law_walk b__law_walk
  walk_at "ev"
  rw [rgZ (by omega) (by omega)]
  walk_at "ev"
  have key := for_inv (t := .nm 7) (b := lb__law_walk_0) (fun (k : Nat) => PyData.int k)
    (fun rest ρ ω => ∃ β row w1 o7 o8 o9, ρ = [none, some (dBk nm L laws), some (dLs ls), some (dW w1), some (.int many), some (.int most), some (dR row), o7, o8, o9] ∧ ω = [some β] ∧ Bag β ∧ Pp.Wk M laws (ls.map pr) w row w1 ∧ row.length + rest.length ≤ many.toNat) (fun k rest ρ ω ⟨β, row, w1, o7, o8, o9, hρ, hω, hb, hwk, hlen⟩ => by
      subst hρ hω
      rw [List.length_cons] at hlen
      have hw1 := hwk.len2
      simp only [lb__law_walk_0]
      walk_at "ev"
      have hb1 : (laws.length + ls.length) * (2 * (w1.length + 1)) ≤ 200 * 2002 := Nat.mul_le_mul (by omega) (by omega)
      obtain ⟨us, e, hg, hlu⟩ := uses_on_ev (nm := nm) (L := L) (most := most) (w := w1) (show w1.length ≤ Sm by rw [Sm_def]; omega) (big hl) (big hs) (by omega)
      rw [e]
      walk_at "ev"
      by_cases q : us = []
      · subst q
        rw [List.map_nil, cmp_ne_self gd_lnil]
        walk_at "ev"
        exact ⟨β, row, w1, _, _, _, rfl, rfl, hb, hwk, by omega⟩
      · have hn : us.map dU ≠ [] := by intro h; exact q (List.map_eq_nil_iff.mp h)
        rw [cmp_ne_no ((gn_lst (gn_map fun u _ => gd_dU u)).gd (by decide)) gd_lnil (by intro h; injection h with h; exact hn h)]
        walk_at "ev"
        have hpos : 1 ≤ us.length := by cases us; exact absurd rfl q; simp
        obtain ⟨x, β', hx, e', hb'⟩ := some_l hb (xs := us.map dU) (by rw [List.length_map]; exact hpos) (by rw [List.length_map]; omega)
        obtain ⟨u, hu, rfl⟩ := List.mem_map.mp hx
        obtain ⟨w2, hu1, hl2⟩ := hg u hu
        rw [e']
        have hwl : w2.length ≤ M := by omega
        have one : Pp.Wk M laws (ls.map pr) w1 [u] w2 := .one hw1 hu1 hwl
        unfold dR
        walk_at "ev"
        rw [add_tup (by rw [LIM_def, List.length_map, List.length_singleton]; omega)]
        walk_at "ev"
        have := walked_ev (nm := nm) (L := L) one (by rw [Sm_def]; omega) (big hl) (big hs)
        unfold dR at this
        rw [List.map_cons, List.map_nil] at this
        rw [this]
        walk_at "ev"
        rw [show row.map dU ++ [dU u] = (row ++ [u]).map dU by rw [List.map_append]; rfl]
        exact ⟨β', row ++ [u], w2, _, _, _, rfl, rfl, hb', hwk.app one, by rw [List.length_append, List.length_singleton]; omega⟩) (List.range many.toNat) [none, some (dBk nm L laws), some (dLs ls), some (dW w), some (.int many), some (.int most), some (dR []), none, none, none] [some β] ⟨β, [], w, none, none, none, rfl, rfl, hβ, .nil hw, by simp⟩
  obtain ⟨ρ', ω', e, β', row, w1, o7, o8, o9, hρ, hω, hb, hwk, hlen⟩ := St1_ex key
  subst hρ hω
  have e0 : dR [] = .tuple [] := rfl
  rw [e0] at e
  rw [e]
  walk_at "ev"
  exact ⟨row, w1, β', rfl, hb, hwk, by simp only [List.length_nil] at hlen; omega⟩
/-- what drawn lines are -/
structure DL (L : Wd) (laws : List Lw) (ls : List Line) (n : Nat) : Prop where
  vl : VL 14 laws ls
  sm : Sml 14 (ls.map pr)
  inL : InP L (ls.map pr)
  len : ls.length ≤ n
  rows : ∀ l ∈ ls, l.2.2.length ≤ 4
theorem DL.snoc {n : Nat} (h : DL L laws ls n) (hl : wless l.2.1 l.1 = true) (hw : Pp.Wk 14 laws (ls.map pr) l.1 l.2.2 l.2.1) (i1 : In L l.1) (i2 : In L l.2.1) (hr : l.2.2.length ≤ 4) : DL L laws (ls ++ [l]) (n + 1) := by
  refine ⟨h.vl.snoc hl hw, ?_, ?_, by rw [List.length_append, List.length_singleton]; have := h.len; omega, ?_⟩
  · intro p hp
    rw [List.map_append] at hp
    rcases List.mem_append.mp hp with hp | hp
    · exact h.sm p hp
    · simp at hp; subst hp; exact ⟨hw.len, hw.len2⟩
  · intro p hp
    rw [List.map_append] at hp
    rcases List.mem_append.mp hp with hp | hp
    · exact h.inL p hp
    · simp at hp; subst hp; exact ⟨i1, i2⟩
  · intro l' hl'
    rcases List.mem_append.mp hl' with hl' | hl'
    · exact h.rows l' hl'
    · simp at hl'; subst hl'; exact hr
theorem DL.mono {n m : Nat} (h : DL L laws ls n) (hm : n ≤ m) : DL L laws ls m := ⟨h.vl, h.sm, h.inL, by have := h.len; omega, h.rows⟩
theorem back_len (r : List Use) : (back r).length = r.length := by unfold back; rw [List.length_map, List.length_reverse]
theorem Sml.mono {n m : Nat} {ps : List Lw} (h : Sml n ps) (hm : n ≤ m) : Sml m ps := fun p hp => by have := h p hp; omega
theorem lines_ev {β : D} (hβ : Bag β) {many : Int} (h1 : L ≠ []) (h2 : L.length ≤ 1000) (hl : Sml 1000 laws) (hi : InP L laws) (hn1 : laws.length ≤ 100) (h0 : 0 ≤ many) (hm : many ≤ 90) :
    ∃ (ls : List Line) (β' : D), m__law_lines [dBk nm L laws, .int many] [some β] = .ok (dLs ls) [some β'] ∧ Bag β' ∧ DL L laws ls many.toNat := by
  unfold m__law_lines b__law_lines
  walk_at "ev"
  rw [rgZ (by omega) (by omega)]
  walk_at "ev"
  have key := for_inv (t := .nm 4) (b := lb__law_lines_0) (fun (k : Nat) => PyData.int k)
    (fun rest ρ ω => ∃ β ls o4 o5 o6 o7 o8 o9 o10 o11 n, ρ = [none, some (dBk nm L laws), some (.int many), some (dLs ls), o4, o5, o6, o7, o8, o9, o10, o11] ∧ ω = [some β] ∧ Bag β ∧ DL L laws ls n ∧ n + rest.length = many.toNat) (fun k rest ρ ω ⟨β, ls, o4, o5, o6, o7, o8, o9, o10, o11, n, hρ, hω, hb, hd, hlen⟩ => by
      subst hρ hω
      rw [List.length_cons] at hlen
      have hln := hd.len
      simp only [lb__law_lines_0]
      walk_at "ev"
      conv => enter [1]; unfold dBk
      walk_at "ev"
      obtain ⟨one, β1, ea, b1, ia, la⟩ := word_ev hb h1 h2 (n := 6) (by decide) (by decide)
      rw [ea]
      walk_at "ev"
      obtain ⟨v, β2, ev, v0, v1, b2⟩ := take_ev b1 (n := 4) (by decide) (by decide)
      rw [ev]
      walk_at "ev"
      obtain ⟨row, other, β3, ew, b3, hwk, hrl⟩ := walk_ev (nm := nm) (L := L) (ls := ls) (w := one) b2 (M := 14) (many := 1 + v) (most := 14) (by decide) hl (hd.sm.mono (by decide)) hn1 (by omega) (by omega) (by decide) (by omega) (by omega)
      unfold dBk at ew
      rw [ew]
      walk_at "ev"
      rw [law_less_ev]
      have io := Wk_inL hwk hi hd.inL ia
      have hrow4 : row.length ≤ 4 := by omega
      cases q : wless other one with
      | true =>
        walk_at "ev"
        conv => enter [1]; unfold dLs
        rw [add_tup (by rw [LIM_def, List.length_map, List.length_singleton]; omega)]
        walk_at "ev"
        rw [law_less_ev, wless_asymm q]
        walk_at "ev"
        rw [show ls.map dLn ++ [.tuple [dW one, dW other, dR row]] = (ls ++ [(one, other, row)]).map dLn by rw [List.map_append]; rfl]
        exact ⟨β3, ls ++ [(one, other, row)], _, _, _, _, _, _, _, _, n + 1, rfl, rfl, b3, hd.snoc q hwk ia io hrow4, by omega⟩
      | false =>
        walk_at "ev"
        rw [law_less_ev]
        cases q2 : wless one other with
        | true =>
          walk_at "ev"
          conv => enter [1]; unfold dR
          walk_at "ev"
          rw [← List.map_reverse, lcGo_all dU (fun u => dU (rvU u)) row.reverse fun u hu => by unfold dU; walk_at "ev"; rfl]
          walk_at "ev"
          conv => enter [1]; unfold dLs
          rw [add_tup (by rw [LIM_def, List.length_map, List.length_singleton]; omega)]
          walk_at "ev"
          rw [show ls.map dLn ++ [.tuple [dW other, dW one, .tuple (row.reverse.map fun u => dU (rvU u))]] = (ls ++ [(other, one, back row)]).map dLn by rw [List.map_append]; unfold back; simp only [List.map_cons, List.map_nil, dLn, dR, List.map_map]; rfl]
          exact ⟨β3, ls ++ [(other, one, back row)], _, _, _, _, _, _, _, _, n + 1, rfl, rfl, b3, hd.snoc q2 hwk.rv io ia (by rw [back_len]; exact hrow4), by omega⟩
        | false =>
          walk_at "ev"
          exact ⟨β3, ls, _, _, _, _, _, _, _, _, n + 1, rfl, rfl, b3, hd.mono (by omega), by omega⟩) (List.range many.toNat) [none, some (dBk nm L laws), some (.int many), some (dLs []), none, none, none, none, none, none, none, none] [some β] ⟨β, [], none, none, none, none, none, none, none, none, 0, rfl, rfl, hβ, ⟨.nil, by intro p hp; simp at hp, by intro p hp; simp at hp, by simp, by intro p hp; simp at hp⟩, by simp⟩
  obtain ⟨ρ', ω', e, β', ls, o4, o5, o6, o7, o8, o9, o10, o11, n, hρ, hω, hb, hd, hlen⟩ := St1_ex key
  subst hρ hω
  have e0 : dLs [] = .tuple [] := rfl
  rw [e0] at e
  rw [e]
  walk_at "ev"
  exact ⟨ls, β', rfl, hb, hd.mono (by simp only [List.length_nil] at hlen; omega)⟩
theorem paper_ev {β : D} (hβ : Bag β) {most : Int} (hM : M ≤ 1000) (h14 : 14 ≤ M) (h1 : L ≠ []) (h2 : L.length ≤ 1000) (hl : Sml 1000 laws) (hi : InP L laws) (hn1 : laws.length ≤ 100) (hw : w.length ≤ M) (hm : most ≤ M) (hin : In L w) :
    ∃ (ls : List Line) (row : List Use) (w1 : Wd) (β' : D), m__law_paper [dBk nm L laws, dW w, .int most] [some β] = .ok (.tuple [dP ls row, dW w1]) [some β'] ∧ Bag β' ∧ DL L laws ls 3 ∧ Pp.Wk M laws (ls.map pr) w row w1 ∧ row.length ≤ 5 ∧ In L w1 := by
  unfold m__law_paper b__law_paper
  walk_at "ev"
  obtain ⟨v, β2, ev, v0, v1, b2⟩ := take_ev hβ (n := 4) (by decide) (by decide)
  rw [ev]
  walk_at "ev"
  obtain ⟨ls, β3, el, b3, hd⟩ := lines_ev (nm := nm) b2 (many := v) h1 h2 hl hi hn1 v0 (by omega)
  rw [el]
  walk_at "ev"
  obtain ⟨v2, β4, ev2, v20, v21, b4⟩ := take_ev b3 (n := 6) (by decide) (by decide)
  rw [ev2]
  walk_at "ev"
  have hln := hd.len
  obtain ⟨row, other, β5, ew, b5, hwk, hrl⟩ := walk_ev (nm := nm) (L := L) (ls := ls) (w := w) b4 (M := M) (many := v2) (most := most) hM hl (hd.sm.mono (by decide)) hn1 (by omega) hw hm v20 (by omega)
  rw [ew]
  walk_at "ev"
  exact ⟨ls, row, other, β5, rfl, b5, hd.mono (by omega), hwk, by omega, Wk_inL hwk hi hd.inL hin⟩
end K00

set_option Elab.async false
set_option linter.all false
set_option maxRecDepth 100000
set_option maxHeartbeats 1000000
namespace K00
open PySem Wc Pp
local macro_rules | `(tactic| walk_at "ev") => `(tactic| simp only [dLn_0, dLn_1, dLn_2, RB_ok, RB_ex, LF_some, ev_bind, ev_pure, ev_lift, SB_ok, SB_ex, SQ_nx, SQ_rt, SQ_ex, SQ_bk, SQ_ct, VR_ok, ev_var, ev_own, GV_ok, ev_give, ev_c, ev_1, ev_2, ev_2o, ev_tC, ev_tCo, CH_t, CH_f, ev_tCh, ev_tB, ev_tAnd, ev_tOr, ev_tNot, ev_tYes, ev_eT, ev_eAnd, ev_eOr, ev_eNot, ev_eIf, ev_eCh, ev_items_nil, ev_items_one, ev_items_star, ev_eTup, ev_eLst, PT_int, ev_part_n, ev_part_s, ev_eSl, ev_args_nil, ev_args_sh, ev_args_ow, CB_ok, CB_ex, ev_call0, ev_eCall, owns, putO, ev_wOf, RN_int, ev_wRange, RND_int, ev_wDown, ev_wEnum, ev_wZip, ev_eLc, ev_eDc, OB_some, bt_nm, bt_tup, bt_nil, bt_cons, ev_nil, ev_seq, ev_asg, NX_some, ev_par2, P1.e, P1.ρ, P1.ω, ev_own_set, ev_aug, IFS_t, IFS_f, ev_if, ev_ret, ev_drop, ev_raise, MK_some, MKo_some, ev_mutK, ev_mut, ev_lstE, ev_put, ev_augI, ev_for, FG_nx, FG_ct, FG_bk, FG_rt, FG_ex, FB_some, for_nil, for_cons, DF_nx, DF_rt, DF_ex, ev_defM, entryE, Bd_some, St1_nx, List.getElem?_cons_succ, List.getElem?_cons_zero, List.set_cons_succ, List.set_cons_zero, List.replicate_succ, List.replicate_zero, List.length_cons, List.length_nil, List.nil_append, List.cons_append, List.take_zero, List.take_succ_cons, List.take_nil, wipeE, limited_k, truth_b, add_int, sub_int, addI_int, neg_int, len_W, len_tup, len_lst, items_tup, items_lst, items_W, seq_tup, seq_lst, tup_tup, tup_lst, rev_tup, rev_lst, idx_t0, idx_t1, idx_t2, idx_t3, idx_l0, idx_l1, idx_l2, idx_l3, sl_tup, sl_lst, sl_W, cmp_lt, cmp_le, cmp_gt, cmp_ge, cmp_isN, cmp_notN, cmp_isB, cmp_notB, eq_int, ne_int, eq_W, ne_W, eq_b, ne_b, isT_def, ty_int_none, ty_int_bool, ty_int_int, ty_int_str, ty_int_list, ty_int_tuple, ty_int_dict, ty_int_W, ty_bool_none, ty_bool_bool, ty_bool_int, ty_bool_str, ty_bool_list, ty_bool_tuple, ty_bool_dict, ty_bool_W, ty_str_none, ty_str_bool, ty_str_int, ty_str_str, ty_str_list, ty_str_tuple, ty_str_dict, ty_str_W, ty_tuple_none, ty_tuple_bool, ty_tuple_int, ty_tuple_str, ty_tuple_list, ty_tuple_tuple, ty_tuple_dict, ty_tuple_W, ty_list_none, ty_list_bool, ty_list_int, ty_list_str, ty_list_list, ty_list_tuple, ty_list_dict, ty_list_W, ty_dict_none, ty_dict_bool, ty_dict_int, ty_dict_str, ty_dict_list, ty_dict_tuple, ty_dict_dict, ty_dict_W, List.any_cons, List.any_nil, Bool.or_false, Bool.false_or, Bool.or_true, Bool.true_or, Bool.not_true, Bool.not_false, Bool.and_true, Bool.true_and, Bool.and_false, Bool.false_and, notNone, cmpD_def, Option.map_some, decide_true, decide_false, int_int, put_l0, put_l1, put_l2, put_l3, ev_call_0, ev_2k, ev_LW, ev_SlO, asStr_W, asList_l, str_nil, beq_self_eq_true, Nat.reduceAdd, Nat.reduceSub, Nat.reduceLeDiff, Int.reduceEq, Int.reduceLE, Int.reduceLT, Int.reduceSub, Int.reduceAdd, Int.reduceNeg, Int.cast_ofNat_Int, Int.natCast_one, Int.natCast_zero])
variable {laws : List Lw} {ls ls2 : List Line} {l : Line} {nm L w w1 w2 : Wd} {u : Use} {r r2 row : List Use} {M : Nat} {ks ds : List Nat}
theorem dLw_inj {p q : Lw} (h : dLw p = dLw q) : p = q := by
  unfold dLw at h
  injection h with h
  injection h with h1 h2
  injection h2 with h2 _
  exact Prod.ext (dW_inj.mp h1) (dW_inj.mp h2)
open Classical in
theorem nmem_lw (p : Lw) (laws : List Lw) : cmpB .nmem (dLw p) (.list (laws.map dLw)) = some (!decide (p ∈ laws)) := by
  rw [nmem_of (mem_gd ((gd_dLw p).gd (by decide)) ((gn_lst (gn_map fun q _ => gd_dLw q)).gd (by decide)))]
  congr 2
  rw [decide_eq_decide]
  constructor
  · intro h
    obtain ⟨q, hq, e⟩ := List.mem_map.mp h
    exact dLw_inj e ▸ hq
  · exact List.mem_map_of_mem
/-- what a drawn book is -/
structure DB (L : Wd) (laws : List Lw) (n : Nat) : Prop where
  inL : InP L laws
  sm : Sml 12 laws
  len : laws.length ≤ n
  hd : ∀ p, laws.head? = some p → wless p.2 p.1 = true
theorem DB.snoc {n : Nat} {p : Lw} (h : DB L laws n) (i : In L p.1 ∧ In L p.2) (s : p.1.length ≤ 12 ∧ p.2.length ≤ 12) (hw : laws = [] → wless p.2 p.1 = true) : DB L (laws ++ [p]) (n + 1) := by
  refine ⟨?_, ?_, by rw [List.length_append, List.length_singleton]; have := h.len; omega, ?_⟩
  · intro q hq
    rcases List.mem_append.mp hq with hq | hq
    · exact h.inL q hq
    · simp at hq; subst hq; exact i
  · intro q hq
    rcases List.mem_append.mp hq with hq | hq
    · exact h.sm q hq
    · simp at hq; subst hq; exact s
  · intro q hq
    cases laws with
    | nil => simp at hq; subst hq; exact hw rfl
    | cons a r => exact h.hd q (by simpa using hq)
theorem DB.mono {n m : Nat} (h : DB L laws n) (hm : n ≤ m) : DB L laws m := ⟨h.inL, h.sm, by have := h.len; omega, h.hd⟩
theorem wild : (PyData.str (Str.ofString "wild")) = dW [119, 105, 108, 100] := congrArg PyData.str (by decide +kernel : Str.ofString "wild" = ⟨[119, 105, 108, 100].toArray⟩)
def wildW : Wd := [119, 105, 108, 100]
open Classical in
theorem wild_book_ev {β : D} (hβ : Bag β) (h1 : L ≠ []) (h2 : L.length ≤ 1000) : ∃ (laws : List Lw) (β' : D), m__law_wild_book [dW L] [some β] = .ok (dBk wildW L laws) [some β'] ∧ Bag β' ∧ DB L laws 5 ∧ laws ≠ [] := by
  unfold m__law_wild_book b__law_wild_book
  walk_at "ev"
  obtain ⟨v, β2, ev, v0, v1, b2⟩ := take_ev hβ (n := 4) (by decide) (by decide)
  rw [ev]
  walk_at "ev"
  rw [rgZ (by omega) (by omega)]
  walk_at "ev"
  have key := for_inv (t := .nm 3) (b := lb__law_wild_book_0) (fun (k : Nat) => PyData.int k)
    (fun rest ρ ω => ∃ β laws o3 o4 n, ρ = [none, some (dW L), some (.list (laws.map dLw)), o3, o4, none, none] ∧ ω = [some β] ∧ Bag β ∧ DB L laws n ∧ n + rest.length = (1 + v).toNat ∧ (laws = [] → n = 0)) (fun k rest ρ ω ⟨β, laws, o3, o4, n, hρ, hω, hb, hd, hlen, hz⟩ => by
      subst hρ hω
      rw [List.length_cons] at hlen
      have hln := hd.len
      simp only [lb__law_wild_book_0]
      walk_at "ev"
      obtain ⟨x, β1, hx, ex, b1⟩ := some_l hb (xs := [.int 2, .int 3, .int 4]) (by decide) (by decide)
      have hk : ∃ k : Int, x = .int k ∧ 0 ≤ k ∧ k ≤ 4 := by
        simp only [List.mem_cons, List.not_mem_nil, or_false] at hx
        rcases hx with h | h | h
        · exact ⟨2, h, by decide, by decide⟩
        · exact ⟨3, h, by decide, by decide⟩
        · exact ⟨4, h, by decide, by decide⟩
      obtain ⟨kk, rfl, k0, k4⟩ := hk
      rw [ex]
      walk_at "ev"
      obtain ⟨a, b, β3, ep, b3, ia, ib, hw, la, lb⟩ := pair_ev b1 h1 h2 (n := kk) k0 (by omega)
      rw [ep]
      walk_at "ev"
      rw [nmem_lw]
      by_cases q : (a, b) ∈ laws
      · rw [decide_eq_true q]
        walk_at "ev"
        rw [add_lst (by rw [LIM_def, List.length_map, List.length_nil]; omega)]
        walk_at "ev"
        rw [List.append_nil]
        exact ⟨β3, laws, _, _, n + 1, rfl, rfl, b3, hd.mono (by omega), by omega, fun h => by rw [h] at q; cases q⟩
      · rw [decide_eq_false q]
        walk_at "ev"
        rw [add_lst (by rw [LIM_def, List.length_map, List.length_singleton]; omega)]
        walk_at "ev"
        rw [show laws.map dLw ++ [dLw (a, b)] = (laws ++ [(a, b)]).map dLw by rw [List.map_append]; rfl]
        exact ⟨β3, laws ++ [(a, b)], _, _, n + 1, rfl, rfl, b3, hd.snoc ⟨ia, ib⟩ ⟨show a.length ≤ 12 by omega, show b.length ≤ 12 by omega⟩ fun _ => hw, by omega, fun h => by simp at h⟩) (List.range (1 + v).toNat) [none, some (dW L), some (.list []), none, none, none, none] [some β2] ⟨β2, [], none, none, 0, rfl, rfl, b2, ⟨(by intro p hp; cases hp), (by intro p hp; cases hp), by simp, (by intro p hp; cases hp)⟩, by simp, fun _ => rfl⟩
  obtain ⟨ρ', ω', e, β3, laws, o3, o4, n, hρ, hω, b3, hd, hlen, hz⟩ := St1_ex key
  subst hρ hω
  simp only [List.length_nil] at hlen
  have hne : laws ≠ [] := fun h => by have := hz h; omega
  have hln := hd.len
  rw [e]
  walk_at "ev"
  obtain ⟨t, β4, et, t0, t1, b4⟩ := take_ev b3 (n := 3) (by decide) (by decide)
  rw [et]
  walk_at "ev"
  by_cases q : t = 0
  · rw [decide_eq_true q]
    walk_at "ev"
    by_cases q2 : 1 < (L.length : Int)
    · rw [decide_eq_true q2]
      walk_at "ev"
      obtain ⟨c, hc⟩ : ∃ c, L[(0 : Int).toNat]? = some c := ⟨_, List.getElem?_eq_getElem (show (0 : Int).toNat < L.length by omega)⟩
      rw [idx_W (by decide) hc]
      walk_at "ev"
      obtain ⟨d, hd'⟩ : ∃ d, L.getLast? = some d := ⟨_, List.getLast?_eq_some_getLast h1⟩
      rw [idx_W_last hd']
      unfold dCh
      walk_at "ev"
      rw [add_W (by rw [LIM_def]; simp)]
      walk_at "ev"
      rw [add_W (by rw [LIM_def]; simp)]
      walk_at "ev"
      rw [add_W (by rw [LIM_def]; simp)]
      walk_at "ev"
      rw [add_W (by rw [LIM_def]; simp)]
      walk_at "ev"
      have hp : ∀ (x y z : Nat), PyData.tuple [dW [x, y, x], dW [y, x, y]] = dLw ([x, y, x], [y, x, y]) := fun _ _ _ => rfl
      rw [hp d c 0, nmem_lw]
      have hcL : c ∈ L := List.mem_of_getElem? hc
      have hdL : d ∈ L := List.mem_of_getLast? hd'
      have hin : In L [d, c, d] ∧ In L [c, d, c] := ⟨by intro x hx; simp at hx; rcases hx with h | h | h <;> (subst h; assumption), by intro x hx; simp at hx; rcases hx with h | h | h <;> (subst h; assumption)⟩
      by_cases q3 : (([d, c, d], [c, d, c]) : Lw) ∈ laws
      · rw [decide_eq_true q3]
        walk_at "ev"
        rw [add_lst (by rw [LIM_def, List.length_map, List.length_nil]; omega)]
        walk_at "ev"
        rw [List.append_nil, wild]
        exact ⟨laws, β4, rfl, b4, hd.mono (by omega), hne⟩
      · rw [decide_eq_false q3]
        walk_at "ev"
        rw [add_lst (by rw [LIM_def, List.length_map, List.length_singleton]; omega)]
        walk_at "ev"
        rw [show laws.map dLw ++ [dLw ([d, c, d], [c, d, c])] = (laws ++ [([d, c, d], [c, d, c])]).map dLw by rw [List.map_append]; rfl, wild]
        exact ⟨laws ++ [([d, c, d], [c, d, c])], β4, rfl, b4, (hd.snoc (p := ([d, c, d], [c, d, c])) hin ⟨show 3 ≤ 12 by decide, show 3 ≤ 12 by decide⟩ fun h => absurd h hne).mono (by omega), by simp⟩
    · rw [decide_eq_false q2]
      walk_at "ev"
      rw [wild]
      exact ⟨laws, β4, rfl, b4, hd.mono (by omega), hne⟩
  · rw [decide_eq_false q]
    walk_at "ev"
    rw [wild]
    exact ⟨laws, β4, rfl, b4, hd.mono (by omega), hne⟩
theorem law_back_ev (r : List Use) : m__law_back [dR r] [] = .ok (dR (back r)) [] := by
  unfold m__law_back b__law_back dR
  walk_at "ev"
  rw [← List.map_reverse, lcGo_all dU (fun u => dU (rvU u)) r.reverse fun u hu => by unfold dU; walk_at "ev"; rfl]
  walk_at "ev"
  unfold back
  rw [List.map_map]
  rfl
theorem law_further_ev (r : List Use) {n : Int} (h0 : 0 ≤ n) (h1 : n ≤ 1000000) (h : ∀ u ∈ r, u.1 = 0 ∨ u.1 = 1) : m__law_further [dR r, .int n] [] = .ok (dR (r.map (fuU n))) [] := by
  unfold m__law_further b__law_further dR
  walk_at "ev"
  rw [lcGo_all dU (fun u => dU (fuU n u)) r fun u hu => ?_]
  · walk_at "ev"
    rw [List.map_map]
    rfl
  · unfold dU
    walk_at "ev"
    rw [mul_int (.inl (small64_of h0 (by omega)))]
    walk_at "ev"
    unfold fuU reU
    simp only
    rcases h u hu with e | e
    · rw [if_neg (by omega), e, Int.mul_zero, Int.add_zero]
    · rw [if_pos e, e, Int.mul_one]
end K00

set_option Elab.async false
set_option linter.all false
set_option maxRecDepth 100000
set_option maxHeartbeats 1000000
namespace K00
open PySem Wc Pp
local macro_rules | `(tactic| walk_at "ev") => `(tactic| simp only [dLn_0, dLn_1, dLn_2, RB_ok, RB_ex, LF_some, ev_bind, ev_pure, ev_lift, SB_ok, SB_ex, SQ_nx, SQ_rt, SQ_ex, SQ_bk, SQ_ct, VR_ok, ev_var, ev_own, GV_ok, ev_give, ev_c, ev_1, ev_2, ev_2o, ev_tC, ev_tCo, CH_t, CH_f, ev_tCh, ev_tB, ev_tAnd, ev_tOr, ev_tNot, ev_tYes, ev_eT, ev_eAnd, ev_eOr, ev_eNot, ev_eIf, ev_eCh, ev_items_nil, ev_items_one, ev_items_star, ev_eTup, ev_eLst, PT_int, ev_part_n, ev_part_s, ev_eSl, ev_args_nil, ev_args_sh, ev_args_ow, CB_ok, CB_ex, ev_call0, ev_eCall, owns, putO, ev_wOf, RN_int, ev_wRange, RND_int, ev_wDown, ev_wEnum, ev_wZip, ev_eLc, ev_eDc, OB_some, bt_nm, bt_tup, bt_nil, bt_cons, ev_nil, ev_seq, ev_asg, NX_some, ev_par2, P1.e, P1.ρ, P1.ω, ev_own_set, ev_aug, IFS_t, IFS_f, ev_if, ev_ret, ev_drop, ev_raise, MK_some, MKo_some, ev_mutK, ev_mut, ev_lstE, ev_put, ev_augI, ev_for, FG_nx, FG_ct, FG_bk, FG_rt, FG_ex, FB_some, for_nil, for_cons, DF_nx, DF_rt, DF_ex, ev_defM, entryE, Bd_some, St1_nx, List.getElem?_cons_succ, List.getElem?_cons_zero, List.set_cons_succ, List.set_cons_zero, List.replicate_succ, List.replicate_zero, List.length_cons, List.length_nil, List.nil_append, List.cons_append, List.take_zero, List.take_succ_cons, List.take_nil, wipeE, limited_k, truth_b, add_int, sub_int, addI_int, neg_int, len_W, len_tup, len_lst, items_tup, items_lst, items_W, seq_tup, seq_lst, tup_tup, tup_lst, rev_tup, rev_lst, idx_t0, idx_t1, idx_t2, idx_t3, idx_l0, idx_l1, idx_l2, idx_l3, sl_tup, sl_lst, sl_W, cmp_lt, cmp_le, cmp_gt, cmp_ge, cmp_isN, cmp_notN, cmp_isB, cmp_notB, eq_int, ne_int, eq_W, ne_W, eq_b, ne_b, isT_def, ty_int_none, ty_int_bool, ty_int_int, ty_int_str, ty_int_list, ty_int_tuple, ty_int_dict, ty_int_W, ty_bool_none, ty_bool_bool, ty_bool_int, ty_bool_str, ty_bool_list, ty_bool_tuple, ty_bool_dict, ty_bool_W, ty_str_none, ty_str_bool, ty_str_int, ty_str_str, ty_str_list, ty_str_tuple, ty_str_dict, ty_str_W, ty_tuple_none, ty_tuple_bool, ty_tuple_int, ty_tuple_str, ty_tuple_list, ty_tuple_tuple, ty_tuple_dict, ty_tuple_W, ty_list_none, ty_list_bool, ty_list_int, ty_list_str, ty_list_list, ty_list_tuple, ty_list_dict, ty_list_W, ty_dict_none, ty_dict_bool, ty_dict_int, ty_dict_str, ty_dict_list, ty_dict_tuple, ty_dict_dict, ty_dict_W, List.any_cons, List.any_nil, Bool.or_false, Bool.false_or, Bool.or_true, Bool.true_or, Bool.not_true, Bool.not_false, Bool.and_true, Bool.true_and, Bool.and_false, Bool.false_and, notNone, cmpD_def, Option.map_some, decide_true, decide_false, int_int, put_l0, put_l1, put_l2, put_l3, ev_call_0, ev_2k, ev_LW, ev_SlO, asStr_W, asList_l, str_nil, beq_self_eq_true, Nat.reduceAdd, Nat.reduceSub, Nat.reduceLeDiff, Int.reduceEq, Int.reduceLE, Int.reduceLT, Int.reduceSub, Int.reduceAdd, Int.reduceNeg, Int.cast_ofNat_Int, Int.natCast_one, Int.natCast_zero])
variable {laws : List Lw} {ls ls2 : List Line} {l : Line} {nm L w w1 w2 : Wd} {u : Use} {r r2 row : List Use} {M : Nat} {ks ds : List Nat}
/-! ### the law: made lean -/
theorem adA_cons (ds : List Nat) (u : Use) (r : List Use) : adA ds (ixs (u :: r)) = adA (if u.1 = 1 then adD ds u.2.1.toNat else ds) (ixs r) := by
  unfold ixs adA
  by_cases h : u.1 = 1
  · rw [List.filter_cons_of_pos (by simp [h]), List.map_cons, List.foldl_cons, if_pos h]
  · rw [List.filter_cons_of_neg (by simp [h]), if_neg h]
theorem lean_loop (a b o2 o3 o4 o5 o6 : Option D) (w1 : Option D) : ∀ (r : List Use) (ds : List Nat) (o7 o8 o9 o10 : Option D), (∀ i ∈ ixs r, 0 ≤ i) → ds.length + r.length < 16777216 →
    St1 (sForGo (.tup [.nm 7, .nm 8, .nm 9, .nm 10]) lb__law_lean_0 (r.map dU) [a, b, o2, o3, o4, o5, o6, o7, o8, o9, o10] [some (.dict (eDs ds)), w1]) fun ρ ω => ω = [some (.dict (eDs (adA ds (ixs r)))), w1] ∧ ∃ o7 o8 o9 o10, ρ = [a, b, o2, o3, o4, o5, o6, o7, o8, o9, o10]
  | [], ds, o7, o8, o9, o10, _, _ => by rw [List.map_nil]; walk_at "ev"; exact ⟨rfl, _, _, _, _, rfl⟩
  | u :: r, ds, o7, o8, o9, o10, h, hl => by
    rw [List.length_cons] at hl
    rw [List.map_cons, for_cons, adA_cons]
    unfold dU
    simp only [bt_tup, bt_cons, bt_nm, bt_nil, OB_some, List.set_cons_succ, List.set_cons_zero, FB_some, lb__law_lean_0]
    have hr : ∀ i ∈ ixs r, 0 ≤ i := fun i hi => h i (by
      obtain ⟨v, hv, h1, h2⟩ := ixs_mem.mp hi
      exact ixs_mem.mpr ⟨v, List.mem_cons_of_mem _ hv, h1, h2⟩)
    by_cases q : u.1 = 1
    · rw [if_pos q]
      walk_at "ev"
      rw [decide_eq_true q]
      walk_at "ev"
      rw [put_ds ds (h _ (ixs_mem.mpr ⟨u, List.mem_cons_self, q, rfl⟩)) (by omega)]
      walk_at "ev"
      have := len_adD ds u.2.1.toNat
      exact lean_loop a b o2 o3 o4 o5 o6 w1 r (adD ds u.2.1.toNat) _ _ _ _ hr (by omega)
    · rw [if_neg q]
      walk_at "ev"
      rw [decide_eq_false q]
      walk_at "ev"
      exact lean_loop a b o2 o3 o4 o5 o6 w1 r ds _ _ _ _ hr (by omega)
theorem find_ks {i : Int} (h0 : 0 ≤ i) (hm : i.toNat ∈ ks) : findD (.list (ks.map fun (k : Nat) => PyData.int k)) (.int i) = some (.int (nix ks i)) := by
  have hp : ∀ ks : List Nat, (PyData.list (ks.map fun (k : Nat) => PyData.int k)).plain = true := fun ks => pur_plain _ (gn_lst (n := 0) (gn_map fun k _ => gn_int _)).1
  have hd : ∀ ks : List Nat, (PyData.list (ks.map fun (k : Nat) => PyData.int k)).depth ≤ 64 := fun ks => Nat.le_trans (gn_lst (n := 0) (gn_map fun k _ => gn_int _)).2 (by decide)
  have hc : ∀ ks : List Nat, PyData.canLay0 (.list (ks.map fun (k : Nat) => PyData.int k)) = true := by
    intro ks
    simp only [PyData.canLay0]
    induction ks with
    | nil => rfl
    | cons k ks ih => rw [List.map_cons]; simp [PyData.canLayAll0, PyData.canLay0, ih]
  unfold findD
  simp only
  rw [if_pos]
  · have : ∀ ks : List Nat, i.toNat ∈ ks → (ks.map fun (k : Nat) => PyData.int k).findIdx? (fun z => PyData.eqv z (.int i)) = some (ks.idxOf i.toNat) := by
      intro ks
      induction ks with
      | nil => intro h; cases h
      | cons k ks ih =>
        intro h
        rw [List.map_cons, List.findIdx?_cons, eqv_ints, List.idxOf_cons]
        by_cases q : (k : Int) = i
        · have e : k = i.toNat := by omega
          rw [decide_eq_true q, e]
          simp
        · have e : (k == i.toNat) = false := by simp; omega
          rw [decide_eq_false q, e]
          have hm : i.toNat ∈ ks := by rcases List.mem_cons.mp h with e | e; omega; exact e
          rw [ih hm]
          simp
    rw [this ks hm]
    rfl
  · simp only [SeqAt.shaped, hc, hp, Bool.and_eq_true, decide_eq_true_eq]
    exact ⟨⟨⟨⟨trivial, hd ks⟩, by simp [PyData.canLay0], by simp [PyData.depth]⟩, trivial⟩, by simp [PyData.plain]⟩
theorem re_row (h : ∀ u ∈ r, u.1 = 1 → 0 ≤ u.2.1 ∧ u.2.1.toNat ∈ ks) (a b c d e : Option D) (o2 o7 o8 o9 o10 : Option D) (ω : Om) : lcGo (.tup [.nm 7, .nm 2, .nm 9, .nm 10]) tYes (eTup [.one (eVar 7), .one (eIf (tC .eq (eVar 7) (eC (.int 1))) (e2k asList findD (eVar 3) (eVar 2)) (eVar 2)), .one (eVar 9), .one (eVar 10)])
    [a, b, o2, some (.list (ks.map fun (k : Nat) => PyData.int k)), c, d, e, o7, o8, o9, o10] (r.map dU) ω = .ok ((r.map (reU (nix ks))).map dU) ω := by
  rw [lcGo_all dU (fun u => dU (reU (nix ks) u)) r fun u hu => ?_]
  · rw [List.map_map]; rfl
  · unfold dU
    walk_at "ev"
    by_cases q : u.1 = 1
    · rw [show decide (u.1 = 1) = true from decide_eq_true q]
      obtain ⟨h0, hm⟩ := h u hu q
      walk_at "ev"
      rw [find_ks h0 hm]
      walk_at "ev"
      unfold reU
      simp only
      rw [if_pos q]
    · rw [show decide (u.1 = 1) = false from decide_eq_false q]
      walk_at "ev"
      unfold reU
      simp only
      rw [if_neg q]
/-- the rows told anew -/
def reR (ks : List Nat) (r : List Use) : List Use := r.map (reU (nix ks))
theorem told_loop (a c d : Option D) (w0 : Option D) : ∀ (rs done : List (List Use)) (o2 o5 o6 o7 o8 o9 o10 : Option D), (∀ r ∈ rs, ∀ u ∈ r, u.1 = 1 → 0 ≤ u.2.1 ∧ u.2.1.toNat ∈ ks) → done.length + rs.length < 16777216 →
    St1 (sForGo (.nm 5) lb__law_lean_3 (rs.map dR) [a, c, o2, some (.list (ks.map fun (k : Nat) => PyData.int k)), d, o5, o6, o7, o8, o9, o10] [w0, some (.list (done.map fun r => dR (reR ks r)))]) fun ρ ω => ω = [w0, some (.list ((done ++ rs).map fun r => dR (reR ks r)))] ∧ ∃ o5, ρ = [a, c, o2, some (.list (ks.map fun (k : Nat) => PyData.int k)), d, o5, o6, o7, o8, o9, o10]
  | [], done, o2, o5, o6, o7, o8, o9, o10, _, _ => by rw [List.map_nil, List.append_nil]; walk_at "ev"; exact ⟨by trivial, _, rfl⟩
  | r :: rs, done, o2, o5, o6, o7, o8, o9, o10, h, hl => by
    rw [List.length_cons] at hl
    rw [List.map_cons]
    simp only [lb__law_lean_3]
    walk_at "ev"
    conv => enter [1]; unfold dR
    walk_at "ev"
    rw [re_row (h r List.mem_cons_self)]
    walk_at "ev"
    rw [append_lst _ (by rw [List.length_map]; omega)]
    walk_at "ev"
    have := told_loop a c d w0 rs (done ++ [r]) o2 (some (dR r)) o6 o7 o8 o9 o10 (fun r hr => h r (List.mem_cons_of_mem _ hr)) (by rw [List.length_append, List.length_singleton]; omega)
    rw [List.map_append, List.append_assoc] at this
    exact this
theorem law_lean_ev (hv : VL M laws ls) (hw : Pp.Wk M laws (ls.map pr) w row w1) (hr : RL ls row) (hn : ∀ ds : List Nat, ds.Nodup → (∀ i ∈ ds, Nd ls row i) → ds.length < 64) (K : Kept ls row ks) :
    m__law_lean [dP ls row] [] = .ok (dP (lnLs ls ks) (row.map (reU (nix ks)))) [] := by
  obtain ⟨hr1, hr2, hr3⟩ := hr
  rw [Sm_def] at hr1 hr2
  have hrow := ixs_ok hw
  rw [List.length_map] at hrow
  have hk : ∀ k ∈ ks, k < ls.length := fun k h => nd_lt hv hw ((K.mem k).mp h)
  have key : ∀ (n : Nat) (ds : List Nat) (o2 o7 o8 o9 o10 : Option D), n ≤ ls.length → Dn ls row n ds →
      St1 (sForGo (.nm 2) lb__law_lean_2 (intsBy ((n : Int) - 1) (-1) n) [some (dP ls row), none, o2, none, none, none, none, o7, o8, o9, o10] [some (.dict (eDs ds)), none]) fun ρ ω => ∃ ds' o2 o7 o8 o9 o10, Dn ls row 0 ds' ∧ ω = [some (.dict (eDs ds')), none] ∧ ρ = [some (dP ls row), none, o2, none, none, none, none, o7, o8, o9, o10] := by
    intro n
    induction n with
    | zero => intro ds o2 o7 o8 o9 o10 _ h; rw [intsBy]; walk_at "ev"; exact ⟨ds, _, _, _, _, _, h, rfl, rfl⟩
    | succ n ih =>
      intro ds o2 o7 o8 o9 o10 hn' h
      rw [intsBy_down1, for_cons, bt_nm, FB_some]
      simp only [List.set_cons_succ, List.set_cons_zero]
      have hl : ls[n]? = some ls[n] := List.getElem?_eq_getElem (by omega)
      by_cases q : n ∈ ds
      · obtain ⟨h1, h2⟩ := hv _ _ hl
        have hi := ixs_ok h2
        rw [List.length_map, List.length_take] at hi
        have h3 := hr3 _ (List.getElem_mem (show n < ls.length by omega))
        rw [Sm_def] at h3
        have h4 : ds.length ≤ ls.length := nodup_len h.nd fun k hk => nd_lt hv hw (h.of k hk)
        have body : lb__law_lean_2 [some (dP ls row), none, some (.int n), none, none, none, none, o7, o8, o9, o10] [some (.dict (eDs ds)), none] = sForGo (.tup [.nm 7, .nm 8, .nm 9, .nm 10]) lb__law_lean_0 (ls[n].2.2.map dU) [some (dP ls row), none, some (.int n), none, none, none, none, o7, o8, o9, o10] [some (.dict (eDs ds)), none] := by
          unfold lb__law_lean_2
          walk_at "ev"
          rw [mem_ds, decide_eq_true q]
          conv => enter [1]; unfold dP dLs
          walk_at "ev"
          rw [idx_tup (by omega) (by rw [List.length_map]; omega), List.getElem?_map, show ((n : Nat) : Int).toNat = n by omega, hl]
          walk_at "ev"
          simp only [dR]
          walk_at "ev"
          rfl
        obtain ⟨ρ', ω', e, hω, p7, p8, p9, p10, hρ⟩ := St1_ex (lean_loop (some (dP ls row)) none (some (.int n)) none none none none none ls[n].2.2 ds o7 o8 o9 o10 (fun i hi' => (hi i hi').1) (by omega))
        subst hω hρ
        rw [body, e, FG_nx]
        exact ih _ _ _ _ _ _ (by omega) (h.take q hl fun i hi' => ⟨(hi i hi').1, by have := (hi i hi').2; omega⟩)
      · have body : lb__law_lean_2 [some (dP ls row), none, some (.int n), none, none, none, none, o7, o8, o9, o10] [some (.dict (eDs ds)), none] = .nx [some (dP ls row), none, some (.int n), none, none, none, none, o7, o8, o9, o10] [some (.dict (eDs ds)), none] := by
          unfold lb__law_lean_2
          walk_at "ev"
          rw [mem_ds, decide_eq_false q]
          walk_at "ev"
        rw [body, FG_nx]
        exact ih _ _ _ _ _ _ (by omega) (h.skip q)
  unfold m__law_lean b__law_lean
  walk_at "ev"
  conv => enter [1]; unfold dP dR
  walk_at "ev"
  have hlen := ixs_len (r := row)
  obtain ⟨ρ', ω', e, hω, p7, p8, p9, p10, hρ⟩ := St1_ex (lean_loop (some (dP ls row)) none none none none none none none row [] none none none none (fun i hi' => (hrow i hi').1) (by rw [List.length_nil]; omega))
  subst hω hρ
  have e0 : eDs [] = [] := rfl
  rw [e0] at e
  unfold dP dR at e
  rw [e]
  walk_at "ev"
  conv => enter [1]; unfold dLs
  walk_at "ev"
  rw [List.length_map, downN_raw (by omega)]
  walk_at "ev"
  obtain ⟨ρ', ω', e2', ds', p2, q7, q8, q9, q10, hd, hω, hρ⟩ := St1_ex (key ls.length _ none p7 p8 p9 p10 (Nat.le_refl _) (Dn.start hrow))
  subst hω hρ
  unfold dP dLs dR at e2'
  rw [e2']
  walk_at "ev"
  obtain ⟨ks', h1, h2, h3⟩ := sort_ds hd.nd (hn _ hd.nd hd.of)
  have K' : Kept ls row ks' := ⟨h2, fun i => (h3 i).trans (hd.done i)⟩
  cases K.unique K'
  rw [h1]
  walk_at "ev"
  have hrow' : ∀ u ∈ row, u.1 = 1 → 0 ≤ u.2.1 ∧ u.2.1.toNat ∈ ks := fun u hu h1 => ⟨(hw.ix u hu h1).1, (K.mem _).mpr (.base hu h1 (hw.ix u hu h1).1)⟩
  have hline : ∀ k ∈ ks, ∀ l, ls[k]? = some l → ∀ u ∈ l.2.2, u.1 = 1 → 0 ≤ u.2.1 ∧ u.2.1.toNat ∈ ks := fun k hk' l hl u hu q => by
    obtain ⟨h1, h2⟩ := hv _ _ hl
    exact ⟨(h2.ix u hu q).1, (K.mem _).mpr (.step ((K.mem k).mp hk') hl hu q (h2.ix u hu q).1)⟩
  have hkl : ks.length ≤ ls.length := nodup_len (asc_nodup K.asc) hk
  rw [lcGo_all (fun (k : Nat) => PyData.int k) (fun k => match ls[k]? with | some l => dR l.2.2 | none => .none) ks fun k hk' => ?_]
  · walk_at "ev"
    have hmap : ∀ js : List Nat, (∀ k ∈ js, k < ls.length) → (js.map fun k => match ls[k]? with | some l => dR l.2.2 | none => .none) = ((js.filterMap fun k => ls[k]?).map fun l => l.2.2).map dR := by
      intro js
      induction js with
      | nil => intro _; rfl
      | cons j js ih =>
        intro h
        have hj := h j List.mem_cons_self
        rw [List.map_cons, ih fun k hk => h k (List.mem_cons_of_mem _ hk), List.filterMap_cons_some (List.getElem?_eq_getElem hj), List.map_cons, List.map_cons, List.getElem?_eq_getElem hj]
    rw [hmap ks hk]
    have hfl : ((ks.filterMap fun k => ls[k]?).map fun l => l.2.2).length = ks.length := by rw [List.length_map, filt_len hk]
    generalize hrows : ((ks.filterMap fun k => ls[k]?).map fun l => l.2.2) = rows at hfl ⊢
    rw [add_lst (by rw [LIM_def, List.length_singleton, List.length_map]; omega), show ([PyData.tuple (row.map dU)] ++ rows.map dR : List D) = (row :: rows).map dR from rfl]
    walk_at "ev"
    obtain ⟨ρ', ω', e3', hω, p5, hρ⟩ := St1_ex (told_loop (ks := ks) (some (dP ls row)) none none (some (.dict (eDs ds'))) (row :: rows) [] p2 none none q7 q8 q9 q10 (fun r hr => by
      rcases List.mem_cons.mp hr with rfl | hr
      · exact hrow'
      · rw [← hrows] at hr
        obtain ⟨l, hl, rfl⟩ := List.mem_map.mp hr
        obtain ⟨k, hk', hl'⟩ := List.mem_filterMap.mp hl
        exact hline k hk' l hl') (by rw [List.length_nil, List.length_cons]; omega))
    subst hω hρ
    rw [List.nil_append] at e3'
    rw [show ([] : List (List Use)).map (fun r => dR (reR ks r)) = [] from rfl] at e3'
    unfold dP dLs at e3'
    rw [show dR row = .tuple (row.map dU) from rfl] at e3'
    rw [e3']
    walk_at "ev"
    rw [List.map_cons (l := rows), cut_drop _ (by decide), show (1 : Int).toNat = 1 by decide]
    simp only [List.drop_succ_cons, List.drop_zero]
    rw [zipD_map (fun (k : Nat) => PyData.int k) (fun r => dR (reR ks r)) ks rows]
    rw [lcGo_all (fun p : Nat × List Use => .tuple [.int (p.1 : Int), dR (reR ks p.2)]) (fun p => match ls[p.1]? with | some l => .tuple [dW l.1, dW l.2.1, dR (reR ks p.2)] | none => .none) (ks.zip rows) fun p hp => ?_]
    · walk_at "ev"
      have hz : ∀ js : List Nat, (∀ k ∈ js, k < ls.length) → ((js.zip ((js.filterMap fun k => ls[k]?).map fun l => l.2.2)).map fun p => match ls[p.1]? with | some l => PyData.tuple [dW l.1, dW l.2.1, dR (reR ks p.2)] | none => .none) = ((js.filterMap fun k => ls[k]?).map (lnL ks)).map dLn := by
        intro js
        induction js with
        | nil => intro _; rfl
        | cons j js ih =>
          intro h
          have hj := h j List.mem_cons_self
          have hg := List.getElem?_eq_getElem hj
          rw [List.filterMap_cons_some hg, List.map_cons, List.zip_cons_cons, List.map_cons, ih fun k hk => h k (List.mem_cons_of_mem _ hk), List.map_cons, List.map_cons]
          simp only [hg]
          rfl
      rw [← hrows, hz ks hk]
      rfl
    · have hk' : p.1 ∈ ks := (List.of_mem_zip hp).1
      have hl := List.getElem?_eq_getElem (hk _ hk')
      have hkl : p.1 < ls.length := hk _ hk'
      have E : idxD (.tuple (ls.map dLn)) (.int (p.1 : Int)) = some (dLn ls[p.1]) := by
        rw [idx_tup (by omega) (by rw [List.length_map]; have := hk _ hk'; omega), List.getElem?_map, show ((p.1 : Nat) : Int).toNat = p.1 by omega, hl]; rfl
      rw [hl]
      repeat (first | rw [E] | walk_at "ev")
  · have hl := List.getElem?_eq_getElem (hk k hk')
    have hkl : k < ls.length := hk k hk'
    have E : idxD (.tuple (ls.map dLn)) (.int k) = some (dLn ls[k]) := by
      rw [idx_tup (by omega) (by rw [List.length_map]; have := hk k hk'; omega), List.getElem?_map, show ((k : Nat) : Int).toNat = k by omega, hl]; rfl
    rw [hl]
    repeat (first | rw [E] | walk_at "ev")
end K00

set_option Elab.async false
set_option linter.all false
set_option maxRecDepth 100000
set_option maxHeartbeats 4000000
namespace K00
open PySem Wc Pp
variable {laws : List Lw} {ls ls2 : List Line} {l : Line} {nm L w w1 w2 : Wd} {u : Use} {r r2 row : List Use} {M : Nat} {ks ds : List Nat}
theorem dP_0 : idxD (dP ls r) (.int 0) = some (.str "alike") := rfl
theorem dP_1 : idxD (dP ls r) (.int 1) = some (dLs ls) := rfl
theorem dP_2 : idxD (dP ls r) (.int 2) = some (dR r) := rfl
theorem dBk_1 : idxD (dBk nm L laws) (.int 1) = some (dW L) := rfl
theorem dBk_2 : idxD (dBk nm L laws) (.int 2) = some (.tuple (laws.map dLw)) := rfl
theorem len_dLs : lenD (dLs ls) = some (.int ls.length) := by unfold dLs; rw [len_tup, List.length_map]
theorem len_dR : lenD (dR r) = some (.int r.length) := by unfold dR; rw [len_tup, List.length_map]
theorem items_dLs : itemsD (dLs ls) = some (ls.map dLn) := rfl
theorem items_dR : itemsD (dR r) = some (r.map dU) := rfl
theorem add_dLs (h : ls.length + ls2.length ≤ 16777216) : opD .add (dLs ls) (dLs ls2) = some (dLs (ls ++ ls2)) := by
  unfold dLs; rw [add_tup (by rw [LIM_def, List.length_map, List.length_map]; exact h), List.map_append]
theorem add_dR (h : r.length + r2.length ≤ 16777216) : opD .add (dR r) (dR r2) = some (dR (r ++ r2)) := by
  unfold dR; rw [add_tup (by rw [LIM_def, List.length_map, List.length_map]; exact h), List.map_append]
local macro_rules | `(tactic| walk_at "ev") => `(tactic| simp only [dLn_0, dLn_1, dLn_2, RB_ok, RB_ex, LF_some, ev_bind, ev_pure, ev_lift, SB_ok, SB_ex, SQ_nx, SQ_rt, SQ_ex, SQ_bk, SQ_ct, VR_ok, ev_var, ev_own, GV_ok, ev_give, ev_c, ev_1, ev_2, ev_2o, ev_tC, ev_tCo, CH_t, CH_f, ev_tCh, ev_tB, ev_tAnd, ev_tOr, ev_tNot, ev_tYes, ev_eT, ev_eAnd, ev_eOr, ev_eNot, ev_eIf, ev_eCh, ev_items_nil, ev_items_one, ev_items_star, ev_eTup, ev_eLst, PT_int, ev_part_n, ev_part_s, ev_eSl, ev_args_nil, ev_args_sh, ev_args_ow, CB_ok, CB_ex, ev_call0, ev_eCall, owns, putO, ev_wOf, RN_int, ev_wRange, RND_int, ev_wDown, ev_wEnum, ev_wZip, ev_eLc, ev_eDc, OB_some, bt_nm, bt_tup, bt_nil, bt_cons, ev_nil, ev_seq, ev_asg, NX_some, ev_par2, P1.e, P1.ρ, P1.ω, ev_own_set, ev_aug, IFS_t, IFS_f, ev_if, ev_ret, ev_drop, ev_raise, MK_some, MKo_some, ev_mutK, ev_mut, ev_lstE, ev_put, ev_augI, ev_for, FG_nx, FG_ct, FG_bk, FG_rt, FG_ex, FB_some, for_nil, for_cons, DF_nx, DF_rt, DF_ex, ev_defM, entryE, Bd_some, St1_nx, List.getElem?_cons_succ, List.getElem?_cons_zero, List.set_cons_succ, List.set_cons_zero, List.replicate_succ, List.replicate_zero, List.length_cons, List.length_nil, List.nil_append, List.cons_append, List.take_zero, List.take_succ_cons, List.take_nil, wipeE, limited_k, truth_b, add_int, sub_int, addI_int, neg_int, len_W, len_tup, len_lst, items_tup, items_lst, items_W, seq_tup, seq_lst, tup_tup, tup_lst, rev_tup, rev_lst, idx_t0, idx_t1, idx_t2, idx_t3, idx_l0, idx_l1, idx_l2, idx_l3, sl_tup, sl_lst, sl_W, cmp_lt, cmp_le, cmp_gt, cmp_ge, cmp_isN, cmp_notN, cmp_isB, cmp_notB, eq_int, ne_int, eq_W, ne_W, eq_b, ne_b, isT_def, ty_int_none, ty_int_bool, ty_int_int, ty_int_str, ty_int_list, ty_int_tuple, ty_int_dict, ty_int_W, ty_bool_none, ty_bool_bool, ty_bool_int, ty_bool_str, ty_bool_list, ty_bool_tuple, ty_bool_dict, ty_bool_W, ty_str_none, ty_str_bool, ty_str_int, ty_str_str, ty_str_list, ty_str_tuple, ty_str_dict, ty_str_W, ty_tuple_none, ty_tuple_bool, ty_tuple_int, ty_tuple_str, ty_tuple_list, ty_tuple_tuple, ty_tuple_dict, ty_tuple_W, ty_list_none, ty_list_bool, ty_list_int, ty_list_str, ty_list_list, ty_list_tuple, ty_list_dict, ty_list_W, ty_dict_none, ty_dict_bool, ty_dict_int, ty_dict_str, ty_dict_list, ty_dict_tuple, ty_dict_dict, ty_dict_W, List.any_cons, List.any_nil, Bool.or_false, Bool.false_or, Bool.or_true, Bool.true_or, Bool.not_true, Bool.not_false, Bool.and_true, Bool.true_and, Bool.and_false, Bool.false_and, notNone, cmpD_def, Option.map_some, decide_true, decide_false, int_int, put_l0, put_l1, put_l2, put_l3, ev_call_0, ev_2k, ev_LW, ev_SlO, asStr_W, asList_l, str_nil, beq_self_eq_true, Nat.reduceAdd, Nat.reduceSub, Nat.reduceLeDiff, Int.reduceEq, Int.reduceLE, Int.reduceLT, Int.reduceSub, Int.reduceAdd, Int.reduceNeg, Int.cast_ofNat_Int, Int.natCast_one, Int.natCast_zero, dP_0, dP_1, dP_2, dBk_1, dBk_2, len_dLs, len_dR, items_dLs, items_dR])
/-! sizes -/
theorem dsz_U (u : Use) : dsz (dU u) = 5 := by unfold dU; simp [dsz, dszs]
theorem dszs_R (r : List Use) : dszs (r.map dU) = 5 * r.length := by
  induction r with
  | nil => rfl
  | cons u r ih => rw [List.map_cons, dszs, ih, dsz_U, List.length_cons]; omega
theorem dsz_R (r : List Use) : dsz (dR r) = 5 * r.length + 1 := by unfold dR; rw [dsz, dszs_R]
theorem dsz_W (w : Wd) : dsz (dW w) = 1 := by unfold dW; simp [dsz]
theorem dsz_Ln (l : Line) : dsz (dLn l) = 5 * l.2.2.length + 4 := by
  unfold dLn; simp only [dsz, dszs, dsz_W, dsz_R]; omega
theorem dsz_P {n : Nat} (h : ∀ l ∈ ls, l.2.2.length ≤ n) : dsz (dP ls r) ≤ ls.length * (5 * n + 4) + 5 * r.length + 4 := by
  have h1 : dszs (ls.map dLn) ≤ ls.length * (5 * n + 4) := dszs_map fun l hl => by rw [dsz_Ln]; have := h l hl; omega
  unfold dP dLs
  simp only [dsz, dszs, dsz_R]
  omega
theorem plain_P (ls : List Line) (r : List Use) : (dP ls r).plain = true := pur_plain _ (gd_dP ls r).1
/-- what is judged -/
structure Jd (L : Wd) (laws : List Lw) (M : Nat) (ls : List Line) (a b : Wd) (r : List Use) : Prop where
  vl : VL M laws ls
  gl : GL L ls
  wk : Pp.Wk M laws (ls.map pr) a r b
abbrev Tri := Wd × Wd × List Line × List Use
def dJ (t : Tri) : D := .tuple [dW t.1, dW t.2.1, dP t.2.2.1 t.2.2.2]
theorem judge_loop (hM : M ≤ 1000) (hl : Sml Sm laws) (h1 : L ≠ []) : ∀ (ts : List Tri) (ρ : Wc.Env) (ω : Om), (ρ.length = 25 ∧ ρ[1]? = some (some (dBk nm L laws)) ∧ ∀ t ∈ ts, Jd L laws M t.2.2.1 t.1 t.2.1 t.2.2.2) →
    St1 (sForGo (.tup [.nm 18, .nm 19, .nm 20]) lb__law_papers_right_0 (ts.map dJ) ρ ω) fun ρ' ω' => ω' = ω ∧ ρ'.length = 25 ∧ ∀ i, i < 18 → ρ'[i]? = ρ[i]?
  | [], ρ, ω, h => by rw [List.map_nil, for_nil]; exact ⟨rfl, h.1, fun _ _ => rfl⟩
  | t :: ts, ρ, ω, ⟨hlen, hb, hj⟩ => by
    obtain ⟨jv, jg, jw⟩ := hj t List.mem_cons_self
    have hg : ∀ (d : D) (i j : Nat), (ρ.set i (some d))[j]? = if i = j ∧ j < 25 then some (some d) else ρ[j]? := by
      intro d i j
      rw [List.getElem?_set]
      by_cases q : i = j
      · subst q; simp [hlen]; split <;> simp_all
      · simp [q]
    rw [List.map_cons, for_cons, show dJ t = .tuple [dW t.1, dW t.2.1, dP t.2.2.1 t.2.2.2] from rfl]
    simp only [bt_tup, bt_cons, bt_nm, bt_nil, OB_some, FB_some]
    have g1 : ∀ (x y z : Option D), (((ρ.set 18 x).set 19 y).set 20 z)[1]? = some (some (dBk nm L laws)) := fun x y z => by
      rw [List.getElem?_set_ne (by decide), List.getElem?_set_ne (by decide), List.getElem?_set_ne (by decide), hb]
    have g18 : ∀ (x y z : Option D), (((ρ.set 18 x).set 19 y).set 20 z)[18]? = some x := fun x y z => by
      rw [List.getElem?_set_ne (by decide), List.getElem?_set_ne (by decide), List.getElem?_set_self (by omega)]
    have g19 : ∀ (x y z : Option D), (((ρ.set 18 x).set 19 y).set 20 z)[19]? = some y := fun x y z => by
      rw [List.getElem?_set_ne (by decide), List.getElem?_set_self (by rw [List.length_set]; omega)]
    have g20 : ∀ (x y z : Option D), (((ρ.set 18 x).set 19 y).set 20 z)[20]? = some z := fun x y z => by
      rw [List.getElem?_set_self (by rw [List.length_set, List.length_set]; omega)]
    have body : lb__law_papers_right_0 (((ρ.set 18 (some (dW t.1))).set 19 (some (dW t.2.1))).set 20 (some (dP t.2.2.1 t.2.2.2))) ω = .nx (((ρ.set 18 (some (dW t.1))).set 19 (some (dW t.2.1))).set 20 (some (dP t.2.2.1 t.2.2.2))) ω := by
      have k1 := g1 (some (dW t.1)) (some (dW t.2.1)) (some (dP t.2.2.1 t.2.2.2))
      have k18 := g18 (some (dW t.1)) (some (dW t.2.1)) (some (dP t.2.2.1 t.2.2.2))
      have k19 := g19 (some (dW t.1)) (some (dW t.2.1)) (some (dP t.2.2.1 t.2.2.2))
      have k20 := g20 (some (dW t.1)) (some (dW t.2.1)) (some (dP t.2.2.1 t.2.2.2))
      generalize ((ρ.set 18 (some (dW t.1))).set 19 (some (dW t.2.1))).set 20 (some (dP t.2.2.1 t.2.2.2)) = ρ2 at k1 k18 k19 k20
      have hMS : M ≤ Sm := by rw [Sm_def]; omega
      have hw2 := jw.len2
      obtain ⟨c, hc⟩ : ∃ c, L[(0 : Int).toNat]? = some c := ⟨_, List.getElem?_eq_getElem (show (0 : Int).toNat < L.length by cases L; exact absurd rfl h1; simp)⟩
      unfold lb__law_papers_right_0
      simp only [ev_seq, ev_if, ev_tOr, ev_tNot, ev_tB, ev_tC, ev_eCall, ev_args_sh, ev_args_nil, ev_var, k1, k18, k19, k20, VR_ok, RB_ok, ev_pure, owns, ev_call0]
      rw [law_shows_ev jv hMS hl jg.sml jw]
      simp only [ev_seq, ev_if, ev_tOr, ev_tNot, ev_tB, ev_tC, ev_eCall, ev_args_sh, ev_args_nil, ev_var, k1, k18, k19, k20, VR_ok, RB_ok, ev_pure, owns, ev_call0, CB_ok, putO, truth_b, LF_some, decide_true, Bool.not_true, CH_f]
      rw [shows_alike_ev jv hMS hl jg jw]
      simp only [CB_ok, putO, RB_ok, ev_c, cmp_notB, decide_true, LF_some, beq_self_eq_true, Bool.not_true, SB_ok, IFS_f, ev_nil, SQ_nx, ev_if, ev_tOr, ev_tC, ev_eCall, ev_args_sh, ev_args_nil, ev_var, k1, k18, k19, k20, VR_ok, ev_2, ev_pure, owns, ev_call0, dP_1]
      rw [lines_fault_ev jv hMS hl jg]
      simp only [CB_ok, putO, RB_ok, ev_c, cmp_notN, notNone, LF_some, CH_f, ev_tB, ev_eCall, ev_args_sh, ev_args_nil, ev_var, k1, k18, k19, k20, VR_ok, ev_2, ev_pure, owns, ev_call0, dBk_1]
      rw [idx_W (by decide) hc]
      simp only [LF_some, RB_ok]
      unfold dCh
      rw [add_W (by rw [LIM_def, List.length_singleton]; omega)]
      simp only [LF_some, RB_ok, ev_pure, ev_call0, ev_args_sh, ev_args_nil, ev_var, k20, VR_ok]
      rw [shows_alike_ev jv hMS hl jg jw, decide_eq_false (by intro h; have := congrArg List.length h; simp at this)]
      simp only [CB_ok, putO, RB_ok, truth_b, LF_some, SB_ok, IFS_f, ev_nil]
    rw [body, FG_nx]
    have := judge_loop hM hl h1 ts _ ω ⟨by simp only [List.length_set]; exact hlen, g1 (some (dW t.1)) (some (dW t.2.1)) (some (dP t.2.2.1 t.2.2.2)), fun t ht => hj t (List.mem_cons_of_mem _ ht)⟩
    obtain ⟨ρ', ω', e, h1', h2', h3'⟩ := St1_ex this
    rw [e, St1_nx]
    refine ⟨h1', h2', fun i hi => ?_⟩
    rw [h3' i hi, List.getElem?_set_ne (by omega), List.getElem?_set_ne (by omega), List.getElem?_set_ne (by omega)]
end K00

set_option Elab.async false
set_option linter.all false
set_option maxRecDepth 100000
set_option maxHeartbeats 4000000
namespace K00
open PySem Wc Pp
local macro_rules | `(tactic| walk_at "ev") => `(tactic| simp only [dLn_0, dLn_1, dLn_2, RB_ok, RB_ex, LF_some, ev_bind, ev_pure, ev_lift, SB_ok, SB_ex, SQ_nx, SQ_rt, SQ_ex, SQ_bk, SQ_ct, VR_ok, ev_var, ev_own, GV_ok, ev_give, ev_c, ev_1, ev_2, ev_2o, ev_tC, ev_tCo, CH_t, CH_f, ev_tCh, ev_tB, ev_tAnd, ev_tOr, ev_tNot, ev_tYes, ev_eT, ev_eAnd, ev_eOr, ev_eNot, ev_eIf, ev_eCh, ev_items_nil, ev_items_one, ev_items_star, ev_eTup, ev_eLst, PT_int, ev_part_n, ev_part_s, ev_eSl, ev_args_nil, ev_args_sh, ev_args_ow, CB_ok, CB_ex, ev_call0, ev_eCall, owns, putO, ev_wOf, RN_int, ev_wRange, RND_int, ev_wDown, ev_wEnum, ev_wZip, ev_eLc, ev_eDc, OB_some, bt_nm, bt_tup, bt_nil, bt_cons, ev_nil, ev_seq, ev_asg, NX_some, ev_par2, P1.e, P1.ρ, P1.ω, ev_own_set, ev_aug, IFS_t, IFS_f, ev_if, ev_ret, ev_drop, ev_raise, MK_some, MKo_some, ev_mutK, ev_mut, ev_lstE, ev_put, ev_augI, ev_for, FG_nx, FG_ct, FG_bk, FG_rt, FG_ex, FB_some, for_nil, for_cons, DF_nx, DF_rt, DF_ex, ev_defM, entryE, Bd_some, St1_nx, List.getElem?_cons_succ, List.getElem?_cons_zero, List.set_cons_succ, List.set_cons_zero, List.replicate_succ, List.replicate_zero, List.length_cons, List.length_nil, List.nil_append, List.cons_append, List.take_zero, List.take_succ_cons, List.take_nil, wipeE, limited_k, truth_b, add_int, sub_int, addI_int, neg_int, len_W, len_tup, len_lst, items_tup, items_lst, items_W, seq_tup, seq_lst, tup_tup, tup_lst, rev_tup, rev_lst, idx_t0, idx_t1, idx_t2, idx_t3, idx_l0, idx_l1, idx_l2, idx_l3, sl_tup, sl_lst, sl_W, cmp_lt, cmp_le, cmp_gt, cmp_ge, cmp_isN, cmp_notN, cmp_isB, cmp_notB, eq_int, ne_int, eq_W, ne_W, eq_b, ne_b, isT_def, ty_int_none, ty_int_bool, ty_int_int, ty_int_str, ty_int_list, ty_int_tuple, ty_int_dict, ty_int_W, ty_bool_none, ty_bool_bool, ty_bool_int, ty_bool_str, ty_bool_list, ty_bool_tuple, ty_bool_dict, ty_bool_W, ty_str_none, ty_str_bool, ty_str_int, ty_str_str, ty_str_list, ty_str_tuple, ty_str_dict, ty_str_W, ty_tuple_none, ty_tuple_bool, ty_tuple_int, ty_tuple_str, ty_tuple_list, ty_tuple_tuple, ty_tuple_dict, ty_tuple_W, ty_list_none, ty_list_bool, ty_list_int, ty_list_str, ty_list_list, ty_list_tuple, ty_list_dict, ty_list_W, ty_dict_none, ty_dict_bool, ty_dict_int, ty_dict_str, ty_dict_list, ty_dict_tuple, ty_dict_dict, ty_dict_W, List.any_cons, List.any_nil, Bool.or_false, Bool.false_or, Bool.or_true, Bool.true_or, Bool.not_true, Bool.not_false, Bool.and_true, Bool.true_and, Bool.and_false, Bool.false_and, notNone, cmpD_def, Option.map_some, decide_true, decide_false, int_int, put_l0, put_l1, put_l2, put_l3, ev_call_0, ev_2k, ev_LW, ev_SlO, asStr_W, asList_l, str_nil, beq_self_eq_true, Nat.reduceAdd, Nat.reduceSub, Nat.reduceLeDiff, Int.reduceEq, Int.reduceLE, Int.reduceLT, Int.reduceSub, Int.reduceAdd, Int.reduceNeg, Int.cast_ofNat_Int, Int.natCast_one, Int.natCast_zero, dP_0, dP_1, dP_2, dBk_1, dBk_2, len_dLs, len_dR, items_dLs, items_dR])
variable {laws : List Lw} {ls ls2 : List Line} {l : Line} {nm L w w1 w2 : Wd} {u : Use} {r r2 row : List Use} {M : Nat} {ks ds : List Nat}
theorem Wk_kinds {pairs : List Lw} (h : Pp.Wk M laws pairs w r w1) : ∀ u ∈ r, u.1 = 0 ∨ u.1 = 1 := by
  induction h with
  | nil _ => intro u hu; cases hu
  | cons _ s _ ih =>
    intro u hu
    rcases List.mem_cons.mp hu with rfl | hu
    · cases s with
      | mk a b k i y c hc hy =>
        unfold cpl at hc
        simp only
        split at hc
        · split at hc
          · rename_i q; exact .inl q
          · split at hc
            · rename_i q; exact .inr q
            · cases hc
        · cases hc
    · exact ih u hu
theorem DL.gl {n : Nat} (h : DL L laws ls n) : GL L ls := fun l hl => by
  have hm : pr l ∈ ls.map pr := List.mem_map_of_mem hl
  have h1 := h.sm _ hm
  have h2 := h.inL _ hm
  exact ⟨⟨Nat.le_trans h1.1 (by decide), h2.1⟩, ⟨Nat.le_trans h1.2 (by decide), h2.2⟩⟩
theorem gl_app (h : GL L ls) (g : GL L ls2) : GL L (ls ++ ls2) := fun l hl => by
  rcases List.mem_append.mp hl with hl | hl
  · exact h l hl
  · exact g l hl
theorem gl_fu (n : Int) (h : GL L ls) : GL L (ls.map (fuL n)) := fun l hl => by
  obtain ⟨l', hl', rfl⟩ := List.mem_map.mp hl
  exact h l' hl'
theorem gl_ln (h : GL L ls) : GL L (lnLs ls ks) := fun l hl => by
  unfold lnLs at hl
  obtain ⟨l', hl', rfl⟩ := List.mem_map.mp hl
  obtain ⟨k, _, hk⟩ := List.mem_filterMap.mp hl'
  exact h l' (List.mem_of_getElem? hk)
theorem rows_ln {n : Nat} (h : ∀ l ∈ ls, l.2.2.length ≤ n) : ∀ l ∈ lnLs ls ks, l.2.2.length ≤ n := fun l hl => by
  unfold lnLs at hl
  obtain ⟨l', hl', rfl⟩ := List.mem_map.mp hl
  obtain ⟨k, _, hk⟩ := List.mem_filterMap.mp hl'
  unfold lnL
  simp only
  rw [List.length_map]
  exact h l' (List.mem_of_getElem? hk)
theorem dsz_pair (a b : D) : dsz (.list [a, b]) = dsz a + dsz b + 1 := by simp [dsz, dszs]
theorem dsz_three (a b c : D) : dsz (.list [a, b, c]) = dsz a + (dsz b + dsz c) + 1 := by simp [dsz, dszs]
theorem plain_pair {a b : D} (h : a.plain = true) (g : b.plain = true) : (PyData.list [a, b]).plain = true := by simp [PyData.plain, PyData.plainAll, h, g]
theorem plain_three {a b c : D} (h : a.plain = true) (g : b.plain = true) (i : c.plain = true) : (PyData.list [a, b, c]).plain = true := by simp [PyData.plain, PyData.plainAll, h, g, i]
theorem papers_right_ev {β : D} (hβ : Bag β) (h1 : L ≠ []) (h2 : L.length ≤ 1000) (hd : DB L laws 5) (hw : w.length ≤ 8) (hin : In L w) : ∃ β', m__law_papers_right [dBk nm L laws, dW w] [some β] = .ok (.bool true) [some β'] ∧ Bag β' := by
  have hl1 : Sml 1000 laws := hd.sm.mono (by decide)
  have hlS : Sml Sm laws := hd.sm.mono (by decide)
  have hlen := hd.len
  unfold m__law_papers_right b__law_papers_right
  walk_at "ev"
  obtain ⟨ls1, row1, w1, β1, e1', b1, d1, k1, r1, i1⟩ := paper_ev (nm := nm) (w := w) hβ (M := 24) (most := 24) (by decide) (by decide) h1 h2 hl1 hd.inL (by omega) (by omega) (by decide) hin
  rw [e1']
  walk_at "ev"
  have hw1 := k1.len2
  obtain ⟨ls2, row2, w2, β2, e2', b2, d2, k2, r2, i2⟩ := paper_ev (nm := nm) (w := w1) b1 (M := 30) (most := 30) (by decide) (by decide) h1 h2 hl1 hd.inL (by omega) (by omega) (by decide) i1
  rw [e2']
  walk_at "ev"
  have hln1 := d1.len
  have hln2 := d2.len
  rw [lcGo_all dLn (fun l => dLn (fuL ls1.length l)) ls2 fun l hl => by
    unfold dLn
    walk_at "ev"
    obtain ⟨j, hj⟩ := List.getElem?_of_mem hl
    rw [law_further_ev _ (by omega) (by omega) (Wk_kinds (d2.vl j l hj).2)]
    walk_at "ev"
    rfl]
  walk_at "ev"
  rw [show PyData.tuple (ls2.map fun l => dLn (fuL ls1.length l)) = dLs (ls2.map (fuL ls1.length)) by unfold dLs; rw [List.map_map]; rfl, add_dLs (by rw [List.length_map]; omega)]
  walk_at "ev"
  rw [law_further_ev _ (by omega) (by omega) (Wk_kinds k2)]
  walk_at "ev"
  rw [add_dR (by rw [List.length_map]; omega)]
  walk_at "ev"
  have hsm1 := Sm_def
  rw [turned_paper_ev]
  walk_at "ev"
  rw [joined_papers_ev _ _ _ _ (by omega) (by omega), if_neg (by omega), if_neg (by omega)]
  walk_at "ev"
  rw [law_back_ev]
  walk_at "ev"
  rw [show PyData.tuple [.str "alike", dLs ls1, dR (back row1)] = dP ls1 (back row1) from rfl, show PyData.tuple [.str "alike", dLs (ls1 ++ ls2.map (fuL ls1.length)), dR (row1 ++ row2.map (fuU ls1.length))] = joined ls1 row1 ls2 row2 from rfl]
  generalize hjl : ls1 ++ ls2.map (fuL ls1.length) = jl
  generalize hjr : row1 ++ row2.map (fuU ls1.length) = jr
  have hj : joined ls1 row1 ls2 row2 = dP jl jr := by unfold joined; rw [hjl, hjr]
  rw [hj]
  have jlen : jl.length ≤ 6 := by rw [← hjl, List.length_append, List.length_map]; omega
  have jrlen : jr.length ≤ 10 := by rw [← hjr, List.length_append, List.length_map]; omega
  have jrows : ∀ l ∈ jl, l.2.2.length ≤ 4 := by
    intro l hl
    rw [← hjl] at hl
    rcases List.mem_append.mp hl with hl | hl
    · exact d1.rows l hl
    · obtain ⟨l', hl', rfl⟩ := List.mem_map.mp hl
      unfold fuL; simp only; rw [List.length_map]; exact d2.rows l' hl'
  have jvl : VL 30 laws jl := by rw [← hjl]; exact (d1.vl.join d2.vl).mono (by decide)
  have jgl : GL L jl := by rw [← hjl]; exact gl_app d1.gl (gl_fu _ d2.gl)
  have jwk : Pp.Wk 30 laws (jl.map pr) w jr w2 := by
    rw [← hjl, ← hjr, List.map_append, map_pr_fu]
    refine ((k1.mono (by decide)).more).app ?_
    have := k2.fu (pre := ls1.map pr)
    rw [List.length_map] at this
    exact this
  have s1 := dsz_P (r := back row1) d1.rows
  have s2 := dsz_P (r := jr) jrows
  rw [back_len] at s1
  have s1' : dsz (dP ls1 (back row1)) ≤ 1000 := by have : ls1.length * (5 * 4 + 4) ≤ 3 * 24 := Nat.mul_le_mul (by omega) (by omega); omega
  have s2' : dsz (dP jl jr) ≤ 1000 := by have : jl.length * (5 * 4 + 4) ≤ 6 * 24 := Nat.mul_le_mul (by omega) (by omega); omega
  rw [alike_ev (plain_pair (plain_P _ _) (plain_P _ _)) (by rw [dsz_pair]; omega)]
  walk_at "ev"
  obtain ⟨ah, β3, e3', b3, i3, l3⟩ := word_ev b2 h1 h2 (n := 4) (by decide) (by decide)
  rw [e3']
  walk_at "ev"
  obtain ⟨be, β4, e4', b4, i4, l4⟩ := word_ev b3 h1 h2 (n := 4) (by decide) (by decide)
  rw [e4']
  walk_at "ev"
  rw [lcGo_all dU (fun u => dU (shU ah.length u)) row1 fun u hu => by unfold dU; walk_at "ev"; rfl]
  walk_at "ev"
  rw [show PyData.tuple (row1.map fun u => dU (shU ah.length u)) = dR (row1.map (shU ah.length)) by unfold dR; rw [List.map_map]; rfl]
  rw [placed_paper_ev]
  walk_at "ev"
  have hRL : RL jl jr := ⟨by omega, by omega, fun l hl => by have := jrows l hl; omega⟩
  have hnd : ∀ ds : List Nat, ds.Nodup → (∀ i ∈ ds, Nd jl jr i) → ds.length < 64 := fun ds hn hi => by
    have := nodup_len hn fun k hk => nd_lt jvl jwk (hi k hk)
    omega
  obtain ⟨ks, K, _⟩ := needed_lines_ev jvl jwk hRL hnd
  rw [lean_paper_ev jvl jwk hRL hnd K]
  walk_at "ev"
  have lvl := lean_VL jvl jwk K
  have lwk := lean_walk jvl jwk K
  have lK := lean_kept jvl jwk K
  have llen := lean_len jvl jwk K
  have lall := lean_all lvl lwk
  have hkl : (lnLs jl ks).length = ks.length := lnLs_len fun k hk => nd_lt jvl jwk ((K.mem k).mp hk)
  have lrows := rows_ln (ks := ks) jrows
  have lRL : RL (lnLs jl ks) (jr.map (reU (nix ks))) := ⟨by omega, by rw [List.length_map]; omega, fun l hl => by have := lrows l hl; omega⟩
  have lnd : ∀ ds : List Nat, ds.Nodup → (∀ i ∈ ds, Nd (lnLs jl ks) (jr.map (reU (nix ks))) i) → ds.length < 64 := fun ds hn hi => by
    have := nodup_len hn fun k hk => nd_lt lvl lwk (hi k hk)
    omega
  rw [lean_paper_ev lvl lwk lRL lnd lK, ← hkl, lall.1, lall.2]
  walk_at "ev"
  rw [law_lean_ev jvl jwk hRL hnd K]
  walk_at "ev"
  rw [law_lean_ev jvl jwk hRL hnd K]
  walk_at "ev"
  rw [show PyData.tuple [.str "alike", dLs ls1, dR (row1.map (shU ah.length))] = dP ls1 (row1.map (shU ah.length)) from rfl]
  generalize hll : lnLs jl ks = ll at *
  generalize hlr : jr.map (reU (nix ks)) = lr at *
  have hlrl : lr.length ≤ 10 := by rw [← hlr, List.length_map]; exact jrlen
  have s3 := dsz_P (r := row1.map (shU ah.length)) d1.rows
  have s4 := dsz_P (r := lr) lrows
  rw [List.length_map] at s3
  have s3' : dsz (dP ls1 (row1.map (shU ah.length))) ≤ 1000 := by have : ls1.length * (5 * 4 + 4) ≤ 3 * 24 := Nat.mul_le_mul (by omega) (by omega); omega
  have s4' : dsz (dP ll lr) ≤ 1000 := by have : ll.length * (5 * 4 + 4) ≤ 6 * 24 := Nat.mul_le_mul (by omega) (by omega); omega
  rw [alike_ev (plain_three (plain_P _ _) (plain_P _ _) (plain_P _ _)) (by rw [dsz_three]; omega)]
  walk_at "ev"
  rw [turned_paper_ev]
  walk_at "ev"
  rw [add_W (by rw [LIM_def]; omega)]
  walk_at "ev"
  rw [add_W (by rw [LIM_def, List.length_append]; omega)]
  walk_at "ev"
  rw [add_W (by rw [LIM_def]; omega)]
  walk_at "ev"
  rw [add_W (by rw [LIM_def, List.length_append]; omega)]
  walk_at "ev"
  rw [append_lst _ (by simp)]
  rw [show ([PyData.tuple [dW w1, dW w, dP ls1 (back row1)], PyData.tuple [dW w, dW w2, dP jl jr], PyData.tuple [dW w, dW w2, dP ll lr], PyData.tuple [dW w2, dW w, dP ll (back lr)]] ++ [PyData.tuple [dW (ah ++ w ++ be), dW (ah ++ w1 ++ be), dP ls1 (row1.map (shU ah.length))]]) = ([(w1, w, ls1, back row1), (w, w2, jl, jr), (w, w2, ll, lr), (w2, w, ll, back lr), (ah ++ w ++ be, ah ++ w1 ++ be, ls1, row1.map (shU ah.length))] : List Tri).map dJ from rfl]
  have lgl : GL L ll := by rw [← hll]; exact gl_ln jgl
  have jds : ∀ t ∈ ([(w1, w, ls1, back row1), (w, w2, jl, jr), (w, w2, ll, lr), (w2, w, ll, back lr), (ah ++ w ++ be, ah ++ w1 ++ be, ls1, row1.map (shU ah.length))] : List Tri), Jd L laws 60 t.2.2.1 t.1 t.2.1 t.2.2.2 := by
    intro t ht
    simp only [List.mem_cons, List.not_mem_nil, or_false] at ht
    rcases ht with rfl | rfl | rfl | rfl | rfl
    · exact ⟨d1.vl.mono (by decide), d1.gl, k1.rv.mono (by decide)⟩
    · exact ⟨jvl.mono (by decide), jgl, jwk.mono (by decide)⟩
    · exact ⟨lvl.mono (by decide), lgl, lwk.mono (by decide)⟩
    · exact ⟨lvl.mono (by decide), lgl, lwk.rv.mono (by decide)⟩
    · exact ⟨d1.vl.mono (by decide), d1.gl, (k1.placed ah be).mono (by omega)⟩
  generalize ([(w1, w, ls1, back row1), (w, w2, jl, jr), (w, w2, ll, lr), (w2, w, ll, back lr), (ah ++ w ++ be, ah ++ w1 ++ be, ls1, row1.map (shU ah.length))] : List Tri) = ts at jds
  walk_at "ev"
  obtain ⟨ρ', ω', e5', hω, _, h3'⟩ := St1_ex (judge_loop (nm := nm) (M := 60) (by decide) hlS h1 ts [none, some (dBk nm L laws), some (dW w), some (.int ls1.length), some (dLs jl), some (dP jl jr), some (dR (row1.map (shU ah.length))), none, some (dP ls1 row1), some (dW w1), some (dP ls2 row2), some (dW w2), some (dP ls1 (back row1)), some (dP jl jr), some (dW ah), some (dW be), some (dP ls1 (row1.map (shU ah.length))), some (dP ll lr), none, none, none, none, none, none, none] [some β4, none] ⟨rfl, rfl, jds⟩)
  subst hω
  rw [e5']
  have k12 := h3' 12 (by decide)
  have k8 := h3' 8 (by decide)
  have k17 := h3' 17 (by decide)
  have k13 := h3' 13 (by decide)
  simp only [List.getElem?_cons_succ, List.getElem?_cons_zero] at k12 k8 k17 k13
  simp only [SQ_nx, ev_ret, ev_eAnd, ev_2, ev_eCall, ev_args_sh, ev_args_nil, ev_var, k12, k8, VR_ok, RB_ok, ev_pure, owns, ev_call0]
  rw [turned_paper_ev, back_back]
  simp only [CB_ok, putO, RB_ok, cmpD_def, ev_var, k8, VR_ok]
  rw [cmp_eq_self ((gd_dP _ _).gd (by decide))]
  simp only [Option.map_some, LF_some, RB_ok, truth_b, CH_t, ev_1, ev_2, ev_var, k17, k13, VR_ok, ev_c, dP_1, len_dLs, cmpD_def, cmp_le]
  rw [decide_eq_true (by omega)]
  exact ⟨β4, rfl, b4⟩
theorem gd_nil_tup : Gd (.tuple []) := (gn_tup (n := 0) gn_nil).gd (by decide)
theorem steps_right_ev {β : D} (hβ : Bag β) (h1 : L ≠ []) (h2 : L.length ≤ 1000) (hd : DB L laws 5) (hw : w.length ≤ 8) (hin : In L w) : ∃ β', m__law_steps_right [dBk nm L laws, dW w] [some β] = .ok (.bool true) [some β'] ∧ Bag β' := by
  have hl1 : Sml 1000 laws := hd.sm.mono (by decide)
  have hlS : Sml Sm laws := hd.sm.mono (by decide)
  have hlen := hd.len
  unfold m__law_steps_right b__law_steps_right
  walk_at "ev"
  obtain ⟨v, β1, e1', v0, v1, b1⟩ := take_ev hβ (n := 8) (by decide) (by decide)
  rw [e1']
  walk_at "ev"
  rw [show PyData.tuple [] = dLs [] from rfl]
  obtain ⟨row, w1, β2, e2', b2, hwk, hrl⟩ := walk_ev (nm := nm) (L := L) (ls := []) (w := w) b1 (M := 24) (many := v) (most := 24) (by decide) hl1 (by intro p hp; simp at hp) (by omega) (by decide) (by omega) (by decide) v0 (by omega)
  rw [e2']
  walk_at "ev"
  rw [lcGo_all dU (fun u => .tuple [.int u.2.1, .int u.2.2.1, .int u.2.2.2]) row fun u hu => by
    unfold dU; walk_at "ev"; rw [cut_drop _ (by decide)]; rfl]
  walk_at "ev"
  have hk : ∀ u ∈ row, u.1 = 0 := by
    intro u hu
    rcases Wk_kinds hwk u hu with q | q
    · exact q
    · have := (hwk.ix u hu q).2; simp at this
  rw [step_paper_ev row hk]
  walk_at "ev"
  rw [show PyData.tuple [.str "alike", .tuple [], dR row] = dP [] row from rfl]
  have s1 := dsz_P (ls := []) (r := row) (n := 0) (by intro l hl; cases hl)
  rw [alike_ev (plain_P _ _) (by rw [List.length_nil] at s1; omega)]
  walk_at "ev"
  rw [step_paper_ev row hk]
  walk_at "ev"
  rw [shows_alike_ev (M := 24) .nil (by rw [Sm_def]; decide) hlS (by intro l hl; cases hl) hwk, decide_eq_true rfl]
  walk_at "ev"
  exact ⟨β2, rfl, b2⟩
end K00

set_option Elab.async false
set_option linter.all false
set_option maxRecDepth 100000
set_option maxHeartbeats 4000000
namespace K00
open PySem Wc Pp
variable {laws : List Lw} {ls ls2 : List Line} {l : Line} {nm L w w1 w2 : Wd} {u : Use} {r r2 row : List Use} {M : Nat} {ks ds : List Nat}
def CM (l : CameT) (r : Res D) : Res D := match r with
  | .ok d ω => .ok d ω
  | .ex x ω => match cameD l x with
    | some d => .ok d ω
    | none => .bad
  | .bad => .bad
theorem CM_ok (l : CameT) (d : D) (ω : Om) : CM l (.ok d ω) = .ok d ω := rfl
theorem ev_cm (l : CameT) (f : EE) (ρ : Wc.Env) (ω : Om) : eCame l f ρ ω = CM l (f ρ ω) := by
  unfold eCame CM; rfl
theorem CM_many (x : Str) (n : Int) (ω : Om) : CM l__law_came (.ex (tooMany x n) ω) = .ok (.list [.str "many", .str x, .int n]) ω := by
  have h : cameD l__law_came (tooMany x n) = some (.list [.str "many", .str x, .int n]) := by
    unfold cameD tooMany
    rfl
  unfold CM
  simp only [h]
theorem mul_tup (x : D) {j : Int} (h0 : 2 ≤ j) (h1 : j ≤ 1000) : opD .mul (.tuple [x]) (.int j) = some (.tuple (List.replicate j.toNat x)) := by
  unfold opD
  simp only
  rw [if_pos]
  · congr 2
    generalize j.toNat = n
    induction n with
    | zero => rfl
    | succ n ih => rw [List.replicate_succ, List.replicate_succ, List.flatten_cons, ih]; rfl
  · simp only [Bool.and_eq_true, decide_eq_true_eq]
    exact ⟨⟨⟨by simp, h0⟩, h1⟩, by simp⟩
theorem mul_two (x y : D) {j : Int} (h0 : 2 ≤ j) (h1 : j ≤ 1000) : opD .mul (.tuple [x, y]) (.int j) = some (.tuple (List.replicate j.toNat [x, y]).flatten) := by
  unfold opD
  simp only
  rw [if_pos]
  simp only [Bool.and_eq_true, decide_eq_true_eq]
  exact ⟨⟨⟨by simp, h0⟩, h1⟩, by simp⟩
theorem dLs_rep (n : Nat) (l : Line) : PyData.tuple (List.replicate n (dLn l)) = dLs (List.replicate n l) := by
  unfold dLs; rw [List.map_replicate]
def row2 : List Use := [(1, 0, 0, 0), (1, 0, 0, 1)]
def lim (p : Lw) : Line := (p.1, p.2, [(0, 0, 0, 0)])
def long (n : Nat) : List Use := (List.replicate n row2).flatten
theorem long_len (n : Nat) : (long n).length = n * 2 := by
  unfold long
  induction n with
  | zero => rfl
  | succ n ih => rw [List.replicate_succ, List.flatten_cons, List.length_append, ih]; simp [row2]; omega
theorem dR_long (n : Nat) : PyData.tuple (List.replicate n [dU (1, 0, 0, 0), dU (1, 0, 0, 1)]).flatten = dR (long n) := by
  unfold dR long
  congr 1
  induction n with
  | zero => rfl
  | succ n ih => rw [List.replicate_succ, List.replicate_succ, List.flatten_cons, List.flatten_cons, List.map_append, ih]; rfl
theorem lim_use {pairs : List Lw} {p : Lw} {laws : List Lw} (k : Int) (h : cpl laws pairs k 0 = some p) (hm : p.1.length ≤ M ∧ p.2.length ≤ M) : Pp.Wk M laws pairs p.1 [(k, 0, 0, 0)] p.2 ∧ Pp.Wk M laws pairs p.2 [(k, 0, 0, 1)] p.1 := by
  have h1 := U1.mk (laws := laws) (pairs := pairs) [] [] k 0 0 p h (.inl rfl)
  have h2 := U1.mk (laws := laws) (pairs := pairs) [] [] k 0 1 p h (.inr rfl)
  simp only [List.nil_append, List.append_nil, List.length_nil] at h1 h2
  exact ⟨.one hm.1 h1 hm.2, .one hm.2 h2 hm.1⟩
theorem lim_VL {p : Lw} {rest : List Lw} (hw : wless p.2 p.1 = true) (hm : p.1.length ≤ M ∧ p.2.length ≤ M) (n : Nat) : VL M (p :: rest) (List.replicate n (lim p)) := by
  intro i l hi
  have : l = lim p := by
    have := List.mem_of_getElem? hi
    exact List.eq_of_mem_replicate this
  subst this
  exact ⟨hw, (lim_use 0 (by unfold cpl; simp) hm).1⟩
theorem lim_row {p : Lw} {laws : List Lw} (hm : p.1.length ≤ M ∧ p.2.length ≤ M) (n : Nat) : Pp.Wk M laws ((List.replicate (n + 1) (lim p)).map pr) p.1 row2 p.1 := by
  obtain ⟨h1, h2⟩ := lim_use (M := M) (laws := laws) (pairs := (List.replicate (n + 1) (lim p)).map pr) (p := p) 1 (by unfold cpl; simp [List.replicate_succ, pr, lim]) hm
  exact h1.app h2
theorem lim_kept (p : Lw) (n : Nat) : Pp.Kept (List.replicate n (lim p)) row2 [0] := by
  refine ⟨by simp, fun i => ?_⟩
  rw [List.mem_singleton]
  constructor
  · rintro rfl
    exact Nd.base (u := (1, 0, 0, 0)) (by simp [row2]) rfl (by decide)
  · intro h
    induction h with
    | base hu hk h0 =>
      simp only [row2, List.mem_cons, List.not_mem_nil, or_false] at hu
      rcases hu with rfl | rfl <;> rfl
    | @step j l u _ hl hu hk h0 _ =>
      have : l = lim p := List.eq_of_mem_replicate (List.mem_of_getElem? hl)
      subst this
      simp only [lim, List.mem_cons, List.not_mem_nil, or_false] at hu
      subst hu
      cases hk
theorem lim_ln (p : Lw) (n : Nat) : lnLs (List.replicate (n + 1) (lim p)) [0] = [lim p] := by
  unfold lnLs
  simp [List.replicate_succ, lnL, lim, reU]
theorem gd_many (x : Str) (n : Int) : Gd (.list [.str "many", .str x, .int n]) := (gn_lst (n := 0) (gn_cons (gn_str _) (gn_cons (gn_str _) (gn_cons (gn_int _) gn_nil)))).gd (by decide)
theorem isT_P (ls : List Line) (r : List Use) : isT [.tuple] (dP ls r) = some (.bool true) := rfl
theorem ty_P (ls : List Line) (r : List Use) : isTy .tuple (dP ls r) = true := rfl
local macro_rules | `(tactic| walk_at "ev") => `(tactic| simp only [dLn_0, dLn_1, dLn_2, RB_ok, RB_ex, LF_some, ev_bind, ev_pure, ev_lift, SB_ok, SB_ex, SQ_nx, SQ_rt, SQ_ex, SQ_bk, SQ_ct, VR_ok, ev_var, ev_own, GV_ok, ev_give, ev_c, ev_1, ev_2, ev_2o, ev_tC, ev_tCo, CH_t, CH_f, ev_tCh, ev_tB, ev_tAnd, ev_tOr, ev_tNot, ev_tYes, ev_eT, ev_eAnd, ev_eOr, ev_eNot, ev_eIf, ev_eCh, ev_items_nil, ev_items_one, ev_items_star, ev_eTup, ev_eLst, PT_int, ev_part_n, ev_part_s, ev_eSl, ev_args_nil, ev_args_sh, ev_args_ow, CB_ok, CB_ex, ev_call0, ev_eCall, owns, putO, ev_wOf, RN_int, ev_wRange, RND_int, ev_wDown, ev_wEnum, ev_wZip, ev_eLc, ev_eDc, OB_some, bt_nm, bt_tup, bt_nil, bt_cons, ev_nil, ev_seq, ev_asg, NX_some, ev_par2, P1.e, P1.ρ, P1.ω, ev_own_set, ev_aug, IFS_t, IFS_f, ev_if, ev_ret, ev_drop, ev_raise, MK_some, MKo_some, ev_mutK, ev_mut, ev_lstE, ev_put, ev_augI, ev_for, FG_nx, FG_ct, FG_bk, FG_rt, FG_ex, FB_some, for_nil, for_cons, DF_nx, DF_rt, DF_ex, ev_defM, entryE, Bd_some, St1_nx, List.getElem?_cons_succ, List.getElem?_cons_zero, List.set_cons_succ, List.set_cons_zero, List.replicate_succ, List.replicate_zero, List.length_cons, List.length_nil, List.nil_append, List.cons_append, List.take_zero, List.take_succ_cons, List.take_nil, wipeE, limited_k, truth_b, add_int, sub_int, addI_int, neg_int, len_W, len_tup, len_lst, items_tup, items_lst, items_W, seq_tup, seq_lst, tup_tup, tup_lst, rev_tup, rev_lst, idx_t0, idx_t1, idx_t2, idx_t3, idx_l0, idx_l1, idx_l2, idx_l3, sl_tup, sl_lst, sl_W, cmp_lt, cmp_le, cmp_gt, cmp_ge, cmp_isN, cmp_notN, cmp_isB, cmp_notB, eq_int, ne_int, eq_W, ne_W, eq_b, ne_b, isT_def, ty_int_none, ty_int_bool, ty_int_int, ty_int_str, ty_int_list, ty_int_tuple, ty_int_dict, ty_int_W, ty_bool_none, ty_bool_bool, ty_bool_int, ty_bool_str, ty_bool_list, ty_bool_tuple, ty_bool_dict, ty_bool_W, ty_str_none, ty_str_bool, ty_str_int, ty_str_str, ty_str_list, ty_str_tuple, ty_str_dict, ty_str_W, ty_tuple_none, ty_tuple_bool, ty_tuple_int, ty_tuple_str, ty_tuple_list, ty_tuple_tuple, ty_tuple_dict, ty_tuple_W, ty_list_none, ty_list_bool, ty_list_int, ty_list_str, ty_list_list, ty_list_tuple, ty_list_dict, ty_list_W, ty_dict_none, ty_dict_bool, ty_dict_int, ty_dict_str, ty_dict_list, ty_dict_tuple, ty_dict_dict, ty_dict_W, List.any_cons, List.any_nil, Bool.or_false, Bool.false_or, Bool.or_true, Bool.true_or, Bool.not_true, Bool.not_false, Bool.and_true, Bool.true_and, Bool.and_false, Bool.false_and, notNone, cmpD_def, Option.map_some, decide_true, decide_false, int_int, put_l0, put_l1, put_l2, put_l3, ev_call_0, ev_2k, ev_LW, ev_SlO, asStr_W, asList_l, str_nil, beq_self_eq_true, Nat.reduceAdd, Nat.reduceSub, Nat.reduceLeDiff, Int.reduceEq, Int.reduceLE, Int.reduceLT, Int.reduceSub, Int.reduceAdd, Int.reduceNeg, Int.cast_ofNat_Int, Int.natCast_one, Int.natCast_zero, ty_P, dP_0, dP_1, dP_2, dBk_1, dBk_2, len_dLs, len_dR, items_dLs, items_dR, ev_cm, CM_ok, CM_many])
theorem limits_right_ev {β : D} (hβ : Bag β) (hd : DB L laws 5) (hne : laws ≠ []) : ∃ β', m__law_limits_right [dBk nm L laws] [some β] = .ok (.bool true) [some β'] := by
  have hsm := Sm_def
  obtain ⟨p, rest, rfl⟩ : ∃ p rest, laws = p :: rest := by cases laws; exact absurd rfl hne; exact ⟨_, _, rfl⟩
  have hw : wless p.2 p.1 = true := hd.hd p rfl
  have hm : p.1.length ≤ 12 ∧ p.2.length ≤ 12 := hd.sm p List.mem_cons_self
  unfold m__law_limits_right b__law_limits_right
  walk_at "ev"
  rw [List.map_cons]
  walk_at "ev"
  rw [show dLw p = .tuple [dW p.1, dW p.2] from rfl]
  walk_at "ev"
  obtain ⟨v, β1, e1', v0, v1, b1⟩ := take_ev hβ (n := 51) (by decide) (by decide)
  rw [e1']
  walk_at "ev"
  rw [show PyData.tuple [dW p.1, dW p.2, .tuple [.tuple [.int 0, .int 0, .int 0, .int 0]]] = dLn (lim p) from rfl, show PyData.tuple [.tuple [.int 1, .int 0, .int 0, .int 0], .tuple [.int 1, .int 0, .int 0, .int 1]] = dR row2 from rfl]
  rw [mul_tup _ (by omega) (by omega), dLs_rep]
  walk_at "ev"
  rw [mul_tup _ (by omega) (by omega), dLs_rep]
  walk_at "ev"
  have hP : ∀ ls r, PyData.tuple [.str "alike", dLs ls, dR r] = dP ls r := fun _ _ => rfl
  rw [hP, hP]
  have hr2 : row2.length = 2 := rfl
  have hJ : ∀ a b c d, joined a b c d = dP (a ++ c.map (fuL a.length)) (b ++ d.map (fuU a.length)) := fun _ _ _ _ => rfl
  rw [joined_papers_ev _ _ _ _ (by rw [List.length_replicate, List.length_replicate]; omega) (by omega), if_neg (by rw [List.length_replicate, List.length_replicate]; omega), if_neg (by omega), hJ]
  walk_at "ev"
  rw [show (((List.replicate (150 + v).toNat (lim p) ++ (List.replicate (200 : Int).toNat (lim p)).map (fuL (List.replicate (150 + v).toNat (lim p)).length)).length : Nat) : Int) = 150 + v + 200 by rw [List.length_append, List.length_map, List.length_replicate, List.length_replicate]; omega]
  rw [decide_eq_true (show (150 + v + 200 = 150 + v + 200) from rfl)]
  walk_at "ev"
  rw [show (((row2 ++ row2.map (fuU (List.replicate (150 + v).toNat (lim p)).length)).length : Nat) : Int) = 4 by rw [List.length_append, List.length_map, hr2]; rfl]
  walk_at "ev"
  rw [mul_tup _ (by omega) (by omega), dLs_rep]
  walk_at "ev"
  rw [show PyData.tuple [.str "alike", dLs (List.replicate (401 - (150 + v)).toNat (lim p)), .tuple []] = dP (List.replicate (401 - (150 + v)).toNat (lim p)) [] from rfl]
  rw [joined_papers_ev _ _ _ _ (by rw [List.length_replicate, List.length_replicate]; omega) (by rw [List.length_nil]; omega), if_pos (by rw [List.length_replicate, List.length_replicate]; omega)]
  walk_at "ev"
  rw [cmp_ne_self (gd_many _ _)]
  walk_at "ev"
  rw [show dR row2 = .tuple [dU (1, 0, 0, 0), dU (1, 0, 0, 1)] from rfl, mul_two _ _ (by decide) (by decide), dR_long]
  walk_at "ev"
  have hll : (long (500 : Int).toNat).length = 1000 := by rw [long_len]; rfl
  have e5 : PyData.tuple [.str "alike", .tuple [dLn (lim p)], dR (long (500 : Int).toNat)] = dP [lim p] (long (500 : Int).toNat) := rfl
  rw [e5]
  rw [joined_papers_ev _ _ _ _ (by rw [List.length_singleton]; omega) (by omega), if_neg (by rw [List.length_singleton]; omega), if_neg (by omega), hJ]
  walk_at "ev"
  rw [show (((long (500 : Int).toNat ++ (long (500 : Int).toNat).map (fuU 1)).length : Nat) : Int) = 2000 by rw [List.length_append, List.length_map, hll]; rfl]
  walk_at "ev"
  rw [mul_two _ _ (by decide) (by decide), dR_long]
  walk_at "ev"
  rw [show PyData.tuple [dU (1, 0, 0, 0), dU (1, 0, 0, 1)] = dR row2 from rfl, add_dR (by omega)]
  walk_at "ev"
  have e6 : PyData.tuple [.str "alike", .tuple [dLn (lim p)], dR (long (500 : Int).toNat ++ row2)] = dP [lim p] (long (500 : Int).toNat ++ row2) := rfl
  have hl6 : (long (500 : Int).toNat ++ row2).length = 1002 := by rw [List.length_append, hll, hr2]
  rw [e6]
  rw [joined_papers_ev _ _ _ _ (by rw [List.length_singleton]; omega) (by omega), if_neg (by rw [List.length_singleton]; omega), if_pos (by omega)]
  walk_at "ev"
  rw [cmp_ne_self (gd_many _ _)]
  walk_at "ev"
  rw [mul_tup _ (by decide) (by decide), dLs_rep]
  walk_at "ev"
  rw [show dR row2 = .tuple [dU (1, 0, 0, 0), dU (1, 0, 0, 1)] from rfl, mul_two _ _ (by decide) (by decide), dR_long]
  walk_at "ev"
  rw [show PyData.tuple [dU (1, 0, 0, 0), dU (1, 0, 0, 1)] = dR row2 from rfl, add_dR (by omega)]
  walk_at "ev"
  rw [show PyData.tuple [.str "alike", dLs (List.replicate (400 : Int).toNat (lim p)), dR (long (500 : Int).toNat ++ row2)] = dP (List.replicate (400 : Int).toNat (lim p)) (long (500 : Int).toNat ++ row2) from rfl]
  rw [joined_papers_ev _ _ _ _ (by rw [List.length_singleton, List.length_replicate]; omega) (by omega), if_pos (by rw [List.length_singleton, List.length_replicate]; omega)]
  walk_at "ev"
  rw [cmp_ne_self (gd_many _ _)]
  walk_at "ev"
  rw [mul_tup _ (by decide) (by decide), dLs_rep]
  walk_at "ev"
  rw [show PyData.tuple [.str "alike", dLs (List.replicate (400 : Int).toNat (lim p)), dR row2] = dP (List.replicate (400 : Int).toNat (lim p)) row2 from rfl]
  have h400 : (400 : Int).toNat = 399 + 1 := rfl
  rw [h400, lean_paper_ev (lim_VL (M := 12) (rest := rest) hw hm (399 + 1)) (lim_row hm 399) ⟨by rw [List.length_replicate]; omega, by omega, fun l hl => by have := List.eq_of_mem_replicate hl; subst this; show 1 ≤ _; omega⟩ (fun ds hn hi => by
    have := nodup_len (n := 1) hn fun k hk => by
      have := ((lim_kept p 400).mem k).mpr (hi k hk)
      simp at this; omega
    omega) (lim_kept p 400), lim_ln]
  walk_at "ev"
  rw [show dLs [lim p] = .tuple [dLn (lim p)] from rfl, cmp_eq_self ((gn_tup (gn_cons (gd_dLn _) gn_nil)).gd (by decide))]
  walk_at "ev"
  exact ⟨β1, rfl⟩
end K00

set_option Elab.async false
set_option linter.all false
set_option maxRecDepth 100000
set_option maxHeartbeats 4000000
namespace K00
open PySem Wc Pp
local macro_rules | `(tactic| walk_at "ev") => `(tactic| simp only [dLn_0, dLn_1, dLn_2, RB_ok, RB_ex, LF_some, ev_bind, ev_pure, ev_lift, SB_ok, SB_ex, SQ_nx, SQ_rt, SQ_ex, SQ_bk, SQ_ct, VR_ok, ev_var, ev_own, GV_ok, ev_give, ev_c, ev_1, ev_2, ev_2o, ev_tC, ev_tCo, CH_t, CH_f, ev_tCh, ev_tB, ev_tAnd, ev_tOr, ev_tNot, ev_tYes, ev_eT, ev_eAnd, ev_eOr, ev_eNot, ev_eIf, ev_eCh, ev_items_nil, ev_items_one, ev_items_star, ev_eTup, ev_eLst, PT_int, ev_part_n, ev_part_s, ev_eSl, ev_args_nil, ev_args_sh, ev_args_ow, CB_ok, CB_ex, ev_call0, ev_eCall, owns, putO, ev_wOf, RN_int, ev_wRange, RND_int, ev_wDown, ev_wEnum, ev_wZip, ev_eLc, ev_eDc, OB_some, bt_nm, bt_tup, bt_nil, bt_cons, ev_nil, ev_seq, ev_asg, NX_some, ev_par2, P1.e, P1.ρ, P1.ω, ev_own_set, ev_aug, IFS_t, IFS_f, ev_if, ev_ret, ev_drop, ev_raise, MK_some, MKo_some, ev_mutK, ev_mut, ev_lstE, ev_put, ev_augI, ev_for, FG_nx, FG_ct, FG_bk, FG_rt, FG_ex, FB_some, for_nil, for_cons, DF_nx, DF_rt, DF_ex, ev_defM, entryE, Bd_some, St1_nx, List.getElem?_cons_succ, List.getElem?_cons_zero, List.set_cons_succ, List.set_cons_zero, List.replicate_succ, List.replicate_zero, List.length_cons, List.length_nil, List.nil_append, List.cons_append, List.take_zero, List.take_succ_cons, List.take_nil, wipeE, limited_k, truth_b, add_int, sub_int, addI_int, neg_int, len_W, len_tup, len_lst, items_tup, items_lst, items_W, seq_tup, seq_lst, tup_tup, tup_lst, rev_tup, rev_lst, idx_t0, idx_t1, idx_t2, idx_t3, idx_l0, idx_l1, idx_l2, idx_l3, sl_tup, sl_lst, sl_W, cmp_lt, cmp_le, cmp_gt, cmp_ge, cmp_isN, cmp_notN, cmp_isB, cmp_notB, eq_int, ne_int, eq_W, ne_W, eq_b, ne_b, isT_def, ty_int_none, ty_int_bool, ty_int_int, ty_int_str, ty_int_list, ty_int_tuple, ty_int_dict, ty_int_W, ty_bool_none, ty_bool_bool, ty_bool_int, ty_bool_str, ty_bool_list, ty_bool_tuple, ty_bool_dict, ty_bool_W, ty_str_none, ty_str_bool, ty_str_int, ty_str_str, ty_str_list, ty_str_tuple, ty_str_dict, ty_str_W, ty_tuple_none, ty_tuple_bool, ty_tuple_int, ty_tuple_str, ty_tuple_list, ty_tuple_tuple, ty_tuple_dict, ty_tuple_W, ty_list_none, ty_list_bool, ty_list_int, ty_list_str, ty_list_list, ty_list_tuple, ty_list_dict, ty_list_W, ty_dict_none, ty_dict_bool, ty_dict_int, ty_dict_str, ty_dict_list, ty_dict_tuple, ty_dict_dict, ty_dict_W, List.any_cons, List.any_nil, Bool.or_false, Bool.false_or, Bool.or_true, Bool.true_or, Bool.not_true, Bool.not_false, Bool.and_true, Bool.true_and, Bool.and_false, Bool.false_and, notNone, cmpD_def, Option.map_some, decide_true, decide_false, int_int, put_l0, put_l1, put_l2, put_l3, ev_call_0, ev_2k, ev_LW, ev_SlO, asStr_W, asList_l, str_nil, beq_self_eq_true, Nat.reduceAdd, Nat.reduceSub, Nat.reduceLeDiff, Int.reduceEq, Int.reduceLE, Int.reduceLT, Int.reduceSub, Int.reduceAdd, Int.reduceNeg, Int.cast_ofNat_Int, Int.natCast_one, Int.natCast_zero, dP_0, dP_1, dP_2, dBk_1, dBk_2])
theorem bag_ok (ns : List Int) : Bag (bagD ns) := by
  refine ⟨0, 1234567891, 0, (ns.take 63).map fun i => (i.natAbs : Int), ?_, ?_⟩
  · unfold bagD
    rw [List.map_map]
    rfl
  · rw [List.length_map, List.length_take]; omega
theorem law_plain (ns : List Int) : ∃ ω', b_law (List.replicate 5 none) (some (bagD ns) :: List.replicate 0 none) = .rt (.bool true) ω' := by
  have hb0 := bag_ok ns
  generalize bagD ns = β at hb0
  unfold b_law
  walk_at "ev"
  rw [rgZ (by decide) (by decide)]
  walk_at "ev"
  have key := for_inv (t := .nm 2) (b := lb_law_0) (fun (k : Nat) => PyData.int k)
    (fun rest ρ ω => ∃ β o2 o3 o4, ρ = [none, none, o2, o3, o4] ∧ ω = [some β] ∧ Bag β ∧ (rest.length ≤ 3 → ∃ L laws, o3 = some (dBk wildW L laws) ∧ DB L laws 5 ∧ laws ≠ [])) (fun k rest ρ ω ⟨β, o2, o3, o4, hρ, hω, hb, _⟩ => by
      subst hρ hω
      simp only [lb_law_0]
      walk_at "ev"
      obtain ⟨L, β1, e1', b1, n1, l1⟩ := letters_ev hb
      rw [e1']
      walk_at "ev"
      obtain ⟨laws, β2, e2', b2, d2, n2⟩ := wild_book_ev b1 n1 (by omega)
      rw [e2']
      walk_at "ev"
      obtain ⟨w, β3, e3', b3, i3, l3⟩ := word_ev b2 n1 (by omega) (n := 8) (by decide) (by decide)
      rw [e3']
      walk_at "ev"
      obtain ⟨β4, e4', b4⟩ := papers_right_ev (nm := wildW) b3 n1 (by omega) d2 (by omega) i3
      rw [e4']
      walk_at "ev"
      obtain ⟨β5, e5', b5⟩ := steps_right_ev (nm := wildW) b4 n1 (by omega) d2 (by omega) i3
      rw [e5']
      walk_at "ev"
      exact ⟨β5, _, _, _, rfl, rfl, b5, fun _ => ⟨L, laws, rfl, d2, n2⟩⟩) (List.range (4 : Int).toNat) [none, none, none, none, none] [some β] ⟨β, none, none, none, rfl, rfl, hb0, fun h => by simp at h⟩
  obtain ⟨ρ', ω', e, β', o2, o3, o4, hρ, hω, hb, h3⟩ := St1_ex key
  subst hρ hω
  obtain ⟨L, laws, rfl, d, n⟩ := h3 (by simp)
  rw [e]
  walk_at "ev"
  obtain ⟨β6, e6⟩ := limits_right_ev (nm := wildW) (L := L) hb d n
  rw [e6]
  walk_at "ev"
  exact ⟨_, rfl⟩
end K00

set_option Elab.async false
set_option linter.all false
set_option maxRecDepth 100000
set_option maxHeartbeats 4000000
namespace K00
open PySem PySem.Spec PyProof.Rows L2 Wc
noncomputable section
def topS (i : Nat) : Stmt := PySem.Challenge.pw_wordclaims_k00_whole_papers_turned_joine.main.body.getD i (.Pass ⟨0, 0, 0, 0⟩)
/-- what stands in the module -/
structure Md (P : Program) (w : World) (base : Heap) (tb : List (Addr × Str)) (K : PySem.W.Frag) (mg : Str → Option Value) : Prop where
  xt : XTab K mg xT
  x_TooMany : ExcM P w K mg base (Str.ofString "TooMany") (["what", "limit"].map Str.ofString)
  k_Breaks : ∃ D, mg (Str.ofString "Breaks") = some (.ref D)
  k_NoName : ∃ D, mg (Str.ofString "NoName") = some (.ref D)
  k_Nothing : ∃ D, mg (Str.ofString "Nothing") = some (.ref D)
  k_Refused : ∃ D, mg (Str.ofString "Refused") = some (.ref D)
  k_TooMany : ∃ D, mg (Str.ofString "TooMany") = some (.ref D)
  xf_Refused : ∀ C, mg (Str.ofString "Refused") = some (.ref C) → XfC K C ∧ ∀ f ∈ ["why"].map Str.ofString, PySem.W.findIn K (.ref C) f = some none
  xf_NoName : ∀ C, mg (Str.ofString "NoName") = some (.ref C) → XfC K C ∧ ∀ f ∈ ["name"].map Str.ofString, PySem.W.findIn K (.ref C) f = some none
  xf_Breaks : ∀ C, mg (Str.ofString "Breaks") = some (.ref C) → XfC K C ∧ ∀ f ∈ ["index"].map Str.ofString, PySem.W.findIn K (.ref C) f = some none
  xf_TooMany : ∀ C, mg (Str.ofString "TooMany") = some (.ref C) → XfC K C ∧ ∀ f ∈ ["what", "limit"].map Str.ofString, PySem.W.findIn K (.ref C) f = some none
  ct__law_came : ∀ a ∈ l__law_came.map (·.1), ∀ b ∈ l__law_came.map (·.1), ∀ A B, mg (Str.ofString a) = some (.ref A) → mg (Str.ofString b) = some (.ref B) → PySem.W.exmOne K (.ref A) (.ref B) = some (a == b)
  fn__law_came : ∃ f fd, mg "_law_came" = some (.ref f) ∧ L2.Fun K "_law_came" "_law_came" (topS 62) f fd ∧ Binds K fd ["deed"] []
  fn__law_bag : ∃ f fd, mg "_law_bag" = some (.ref f) ∧ L2.Fun K "_law_bag" "_law_bag" (topS 56) f fd ∧ Binds K fd ["script"] []
  b_abs : mg "abs" = none
  b_all : mg "all" = none
  b_bool : mg "bool" = none
  b_enumerate : mg "enumerate" = none
  b_int : mg "int" = none
  b_isinstance : mg "isinstance" = none
  b_len : mg "len" = none
  b_list : mg "list" = none
  b_range : mg "range" = none
  b_sorted : mg "sorted" = none
  b_str : mg "str" = none
  b_tuple : mg "tuple" = none
  b_zip : mg "zip" = none
  c_ALIKE : ∃ t, mg "ALIKE" = some (.str "alike" t)
  c_FOUR : ∃ t, mg "FOUR" = some (.int 4 t)
  c_LAWS : ∃ t, mg "LAWS" = some (.int 2 t)
  c_LAW_complete : ∃ t, mg "LAW_complete" = some (.int 0 t)
  c_LAW_lines : ∃ t, mg "LAW_lines" = some (.int 0 t)
  c_LETTERS : ∃ t, mg "LETTERS" = some (.int 1 t)
  c_LINE_complete : ∃ t, mg "LINE_complete" = some (.int 1 t)
  c_LINE_lines : ∃ t, mg "LINE_lines" = some (.int 1 t)
  c_MOST_LINES : ∃ t, mg "MOST_LINES" = some (.int 400 t)
  c_MOST_USES : ∃ t, mg "MOST_USES" = some (.int 2000 t)
  c_MOST_WORD : ∃ t, mg "MOST_WORD" = some (.int 200 t)
  c_THREE_alike : ∃ t, mg "THREE_alike" = some (.int 3 t)
  c_THREE_lines : ∃ t, mg "THREE_lines" = some (.int 3 t)
  fn_is_integer : ∃ f fd, mg "is_integer" = some (.ref f) ∧ L2.Fun K "is_integer" "is_integer" (topS 8) f fd ∧ Binds K fd ["thing"] []
  fn_is_within : ∃ f fd, mg "is_within" = some (.ref f) ∧ L2.Fun K "is_within" "is_within" (topS 9) f fd ∧ Binds K fd ["thing", "least", "most"] []
  fn_is_string : ∃ f fd, mg "is_string" = some (.ref f) ∧ L2.Fun K "is_string" "is_string" (topS 10) f fd ∧ Binds K fd ["thing"] []
  fn_is_tuple_of : ∃ f fd, mg "is_tuple_of" = some (.ref f) ∧ L2.Fun K "is_tuple_of" "is_tuple_of" (topS 11) f fd ∧ Binds K fd ["thing", "many"] []
  fn_is_word : ∃ f fd, mg "is_word" = some (.ref f) ∧ L2.Fun K "is_word" "is_word" (topS 13) f fd ∧ Binds K fd ["letters", "thing", "most"] []
  fn_key : ∃ f fd, mg "key" = some (.ref f) ∧ L2.Fun K "key" "key" (topS 14) f fd ∧ Binds K fd ["word"] []
  fn_is_less : ∃ f fd, mg "is_less" = some (.ref f) ∧ L2.Fun K "is_less" "is_less" (topS 15) f fd ∧ Binds K fd ["one", "other"] []
  fn_places_of : ∃ f fd, mg "places_of" = some (.ref f) ∧ L2.Fun K "places_of" "places_of" (topS 16) f fd ∧ Binds K fd ["word", "part"] []
  fn_with_part : ∃ f fd, mg "with_part" = some (.ref f) ∧ L2.Fun K "with_part" "with_part" (topS 17) f fd ∧ Binds K fd ["word", "place", "long", "part"] []
  fn_back_uses : ∃ f fd, mg "back_uses" = some (.ref f) ∧ L2.Fun K "back_uses" "back_uses" (topS 23) f fd ∧ Binds K fd ["uses"] []
  fn_couple_used : ∃ f fd, mg "couple_used" = some (.ref f) ∧ L2.Fun K "couple_used" "couple_used" (topS 30) f fd ∧ Binds K fd ["book", "lines", "use"] []
  fn_after_line_use : ∃ f fd, mg "after_line_use" = some (.ref f) ∧ L2.Fun K "after_line_use" "after_line_use" (topS 31) f fd ∧ Binds K fd ["book", "lines", "word", "use"] []
  fn_after_row : ∃ f fd, mg "after_row" = some (.ref f) ∧ L2.Fun K "after_row" "after_row" (topS 32) f fd ∧ Binds K fd ["book", "lines", "word", "row"] []
  fn_does_lead : ∃ f fd, mg "does_lead" = some (.ref f) ∧ L2.Fun K "does_lead" "does_lead" (topS 33) f fd ∧ Binds K fd ["book", "lines", "one", "other", "row"] []
  fn_line_fault : ∃ f fd, mg "line_fault" = some (.ref f) ∧ L2.Fun K "line_fault" "line_fault" (topS 34) f fd ∧ Binds K fd ["book", "lines", "line"] []
  fn_lines_fault : ∃ f fd, mg "lines_fault" = some (.ref f) ∧ L2.Fun K "lines_fault" "lines_fault" (topS 35) f fd ∧ Binds K fd ["book", "thing"] []
  fn_are_lines : ∃ f fd, mg "are_lines" = some (.ref f) ∧ L2.Fun K "are_lines" "are_lines" (topS 36) f fd ∧ Binds K fd ["book", "thing"] []
  fn_shows_alike : ∃ f fd, mg "shows_alike" = some (.ref f) ∧ L2.Fun K "shows_alike" "shows_alike" (topS 40) f fd ∧ Binds K fd ["book", "one", "other", "thing"] []
  fn_roomy : ∃ f fd, mg "roomy" = some (.ref f) ∧ L2.Fun K "roomy" "roomy" (topS 44) f fd ∧ Binds K fd ["lines", "row"] []
  fn_turned_paper : ∃ f fd, mg "turned_paper" = some (.ref f) ∧ L2.Fun K "turned_paper" "turned_paper" (topS 45) f fd ∧ Binds K fd ["paper"] []
  fn_further : ∃ f fd, mg "further" = some (.ref f) ∧ L2.Fun K "further" "further" (topS 46) f fd ∧ Binds K fd ["row", "many"] []
  fn_lines_further : ∃ f fd, mg "lines_further" = some (.ref f) ∧ L2.Fun K "lines_further" "lines_further" (topS 47) f fd ∧ Binds K fd ["lines", "many"] []
  fn_joined_papers : ∃ f fd, mg "joined_papers" = some (.ref f) ∧ L2.Fun K "joined_papers" "joined_papers" (topS 48) f fd ∧ Binds K fd ["first", "second"] []
  fn_placed_paper : ∃ f fd, mg "placed_paper" = some (.ref f) ∧ L2.Fun K "placed_paper" "placed_paper" (topS 49) f fd ∧ Binds K fd ["paper", "ahead"] []
  fn_lines_in : ∃ f fd, mg "lines_in" = some (.ref f) ∧ L2.Fun K "lines_in" "lines_in" (topS 50) f fd ∧ Binds K fd ["row"] []
  fn_needed_lines : ∃ f fd, mg "needed_lines" = some (.ref f) ∧ L2.Fun K "needed_lines" "needed_lines" (topS 51) f fd ∧ Binds K fd ["lines", "row"] []
  fn_renumbered : ∃ f fd, mg "renumbered" = some (.ref f) ∧ L2.Fun K "renumbered" "renumbered" (topS 52) f fd ∧ Binds K fd ["row", "numbers"] []
  fn_lean_paper : ∃ f fd, mg "lean_paper" = some (.ref f) ∧ L2.Fun K "lean_paper" "lean_paper" (topS 53) f fd ∧ Binds K fd ["paper"] []
  fn_step_paper : ∃ f fd, mg "step_paper" = some (.ref f) ∧ L2.Fun K "step_paper" "step_paper" (topS 54) f fd ∧ Binds K fd ["steps"] []
  fn__law_take : ∃ f fd, mg "_law_take" = some (.ref f) ∧ L2.Fun K "_law_take" "_law_take" (topS 57) f fd ∧ Binds K fd ["bag", "many"] []
  fn__law_some : ∃ f fd, mg "_law_some" = some (.ref f) ∧ L2.Fun K "_law_some" "_law_some" (topS 58) f fd ∧ Binds K fd ["bag", "things"] []
  fn__law_mixed : ∃ f fd, mg "_law_mixed" = some (.ref f) ∧ L2.Fun K "_law_mixed" "_law_mixed" (topS 59) f fd ∧ Binds K fd ["bag", "things"] []
  fn__law_alike : ∃ f fd, mg "_law_alike" = some (.ref f) ∧ L2.Fun K "_law_alike" "_law_alike" (topS 60) f fd ∧ Binds K fd ["found", "due"] []
  fn__law_is_int : ∃ f fd, mg "_law_is_int" = some (.ref f) ∧ L2.Fun K "_law_is_int" "_law_is_int" (topS 61) f fd ∧ Binds K fd ["thing"] []
  fn__law_order : ∃ f fd, mg "_law_order" = some (.ref f) ∧ L2.Fun K "_law_order" "_law_order" (topS 63) f fd ∧ Binds K fd ["word"] []
  fn__law_less : ∃ f fd, mg "_law_less" = some (.ref f) ∧ L2.Fun K "_law_less" "_law_less" (topS 64) f fd ∧ Binds K fd ["one", "other"] []
  fn__law_letters : ∃ f fd, mg "_law_letters" = some (.ref f) ∧ L2.Fun K "_law_letters" "_law_letters" (topS 65) f fd ∧ Binds K fd ["bag"] []
  fn__law_word : ∃ f fd, mg "_law_word" = some (.ref f) ∧ L2.Fun K "_law_word" "_law_word" (topS 66) f fd ∧ Binds K fd ["bag", "letters", "most"] []
  fn__law_pair : ∃ f fd, mg "_law_pair" = some (.ref f) ∧ L2.Fun K "_law_pair" "_law_pair" (topS 67) f fd ∧ Binds K fd ["bag", "letters", "most"] []
  fn__law_stands : ∃ f fd, mg "_law_stands" = some (.ref f) ∧ L2.Fun K "_law_stands" "_law_stands" (topS 68) f fd ∧ Binds K fd ["word", "part"] []
  fn__law_walked : ∃ f fd, mg "_law_walked" = some (.ref f) ∧ L2.Fun K "_law_walked" "_law_walked" (topS 69) f fd ∧ Binds K fd ["book", "lines", "word", "row"] []
  fn__law_are_lines : ∃ f fd, mg "_law_are_lines" = some (.ref f) ∧ L2.Fun K "_law_are_lines" "_law_are_lines" (topS 70) f fd ∧ Binds K fd ["book", "lines"] []
  fn__law_shows : ∃ f fd, mg "_law_shows" = some (.ref f) ∧ L2.Fun K "_law_shows" "_law_shows" (topS 71) f fd ∧ Binds K fd ["book", "one", "other", "paper"] []
  fn__law_uses_on : ∃ f fd, mg "_law_uses_on" = some (.ref f) ∧ L2.Fun K "_law_uses_on" "_law_uses_on" (topS 72) f fd ∧ Binds K fd ["book", "lines", "word", "most"] []
  fn__law_walk : ∃ f fd, mg "_law_walk" = some (.ref f) ∧ L2.Fun K "_law_walk" "_law_walk" (topS 73) f fd ∧ Binds K fd ["bag", "book", "lines", "word", "many", "most"] []
  fn__law_lines : ∃ f fd, mg "_law_lines" = some (.ref f) ∧ L2.Fun K "_law_lines" "_law_lines" (topS 74) f fd ∧ Binds K fd ["bag", "book", "many"] []
  fn__law_paper : ∃ f fd, mg "_law_paper" = some (.ref f) ∧ L2.Fun K "_law_paper" "_law_paper" (topS 75) f fd ∧ Binds K fd ["bag", "book", "word", "most"] []
  fn__law_lean : ∃ f fd, mg "_law_lean" = some (.ref f) ∧ L2.Fun K "_law_lean" "_law_lean" (topS 76) f fd ∧ Binds K fd ["paper"] []
  fn__law_wild_book : ∃ f fd, mg "_law_wild_book" = some (.ref f) ∧ L2.Fun K "_law_wild_book" "_law_wild_book" (topS 77) f fd ∧ Binds K fd ["bag", "letters"] []
  fn__law_back : ∃ f fd, mg "_law_back" = some (.ref f) ∧ L2.Fun K "_law_back" "_law_back" (topS 78) f fd ∧ Binds K fd ["row"] []
  fn__law_further : ∃ f fd, mg "_law_further" = some (.ref f) ∧ L2.Fun K "_law_further" "_law_further" (topS 79) f fd ∧ Binds K fd ["row", "many"] []
  fn__law_papers_right : ∃ f fd, mg "_law_papers_right" = some (.ref f) ∧ L2.Fun K "_law_papers_right" "_law_papers_right" (topS 80) f fd ∧ Binds K fd ["bag", "book", "word"] []
  fn__law_steps_right : ∃ f fd, mg "_law_steps_right" = some (.ref f) ∧ L2.Fun K "_law_steps_right" "_law_steps_right" (topS 81) f fd ∧ Binds K fd ["bag", "book", "word"] []
  fn__law_limits_right : ∃ f fd c, mg "_law_limits_right" = some (.ref f) ∧ FunL K "_law_limits_right" "_law_limits_right" (topS 82) f fd c ∧ Binds K fd ["bag", "book"] [] ∧ LamAt base mg tb c "_law_limits_right.<locals>.<lambda>"
variable {P : Program} {w : World} {K : PySem.W.Frag} {mg : Str → Option Value} {base : Heap} {tb : List (Addr × Str)}
abbrev N__law_came : List Str := ["deed", "error"]
theorem sc__law_came : FnScope N__law_came ["deed"] (defScope (topS 62)) := ⟨rfl, rfl, rfl, by decide +kernel, rfl, by decide +kernel, by decide +kernel⟩
theorem came__law_came (G : Md P w base tb K mg) : CameF K mg "_law_came" l__law_came (topS 62) N__law_came "deed" "error" 1 (tryH (defBody (topS 62))) := by
  obtain ⟨g, fd, hm, F, hb⟩ := G.fn__law_came
  obtain ⟨C0, h0⟩ := G.k_Refused
  obtain ⟨C1, h1⟩ := G.k_NoName
  obtain ⟨C2, h2⟩ := G.k_Nothing
  obtain ⟨C3, h3⟩ := G.k_Breaks
  obtain ⟨C4, h4⟩ := G.k_TooMany
  exact ⟨⟨g, fd, _, hm, F, hb, (.cons h0 (.cons h1 (.cons h2 (.cons h3 (.cons h4 .nil))))), (.cons rfl (by decide +kernel) h0 (G.xf_Refused _ h0).1 (G.xf_Refused _ h0).2 (.cons .nil) (.cons rfl (by decide +kernel) h1 (G.xf_NoName _ h1).1 (G.xf_NoName _ h1).2 (.cons .nil) (.no rfl (by decide +kernel) h2 (.cons rfl (by decide +kernel) h3 (G.xf_Breaks _ h3).1 (G.xf_Breaks _ h3).2 (.cons .nil) (.cons rfl (by decide +kernel) h4 (G.xf_TooMany _ h4).1 (G.xf_TooMany _ h4).2 (.cons (.cons .nil)) .nil)))))⟩, G.ct__law_came⟩
abbrev N__law_bag : List Str := ["script", "cell"]
theorem sc__law_bag : FnScope N__law_bag ["script"] (defScope (topS 56)) := ⟨rfl, rfl, rfl, by decide +kernel, rfl, by decide +kernel, by decide +kernel⟩
theorem ok__law_bag (G : Md P w base tb K mg) : Callee P w K mg base 1 "_law_bag" (spBag K tb) := by
  obtain ⟨f, fd, hm, F, hb⟩ := G.fn__law_bag
  exact ⟨f, fd, _, hm, F.kp, hb, fn_bag F sc__law_bag rfl (fun f cdv A outer s H E H0 Z ns C => s_bag (i := 1) (e_lcP C (pi_script (x := "script") rfl (.inl rfl) (by decide +kernel) (by decide +kernel)) (blkOk_by (show blkC N__law_bag (defScope (topS 56)) _ [("cell", 1)] = true by decide +kernel)) (fun _ _ _ _ _ => (g_nm C.blk.nd (i := 1) rfl (.inl rfl) (.inr rfl))) (fun _ _ _ _ _ => ts_nil) (fun _ _ _ _ _ => (e_abs rfl G.b_abs (rd (e_var (i := 1) rfl (.inl rfl) (by decide +kernel) (by decide +kernel))) (by rfl))) rfl (by decide) (by decide) (by intro _; rfl)) (by rfl))⟩
abbrev N_is_integer : List Str := ["thing"]
theorem sc_is_integer : FnScope N_is_integer ["thing"] (defScope (topS 8)) := ⟨rfl, rfl, rfl, by decide +kernel, rfl, by decide +kernel, by decide +kernel⟩
theorem bd_is_integer (G : Md P w base tb K mg) : Body P w K mg base tb N_is_integer "is_integer" (defScope (topS 8)) 0 [] 0 (defBody (topS 8)) (fun _ => Rp K) b_is_integer := fun f cdv A outer s H E H0 Z as hp C =>
    (ss_one (s_ret (e_and (e_isi .int rfl G.b_isinstance rfl G.b_int (rd (e_var (i := 0) rfl (.inl rfl) (by decide +kernel) (by decide +kernel))) (by rfl)) (e_one (e_not (rd (e_isi .bool rfl G.b_isinstance rfl G.b_bool (rd (e_var (i := 0) rfl (.inl rfl) (by decide +kernel) (by decide +kernel))) (by rfl))))))))
theorem ok_is_integer (G : Md P w base tb K mg) : Callee P w K mg base 1 "is_integer" (SpM K mg tb [false] m_is_integer) := by
  obtain ⟨f, fd, hm, F, hb⟩ := G.fn_is_integer
  exact ⟨f, fd, _, hm, F.kp, hb, fn_def (more := []) F sc_is_integer rfl (by decide) (by decide) (by decide) (bd_is_integer G)⟩
abbrev N_is_within : List Str := ["thing", "least", "most"]
theorem sc_is_within : FnScope N_is_within ["thing", "least", "most"] (defScope (topS 9)) := ⟨rfl, rfl, rfl, by decide +kernel, rfl, by decide +kernel, by decide +kernel⟩
theorem bd_is_within (G : Md P w base tb K mg) : Body P w K mg base tb N_is_within "is_within" (defScope (topS 9)) 1 [] 0 (defBody (topS 9)) (fun _ => Rp K) b_is_within := fun f cdv A outer s H E H0 Z as hp C =>
    (ss_one (s_ret (e_and (e_call C (ok_is_integer G) (by decide) rfl (x_sh (e_var (i := 0) rfl (.inl rfl) (by decide +kernel) (by decide +kernel)) x_nil (by rfl)) (by decide) (by decide +kernel) (by rfl) (by rfl)) (e_one (e_ch .le .le C (e_var (i := 1) rfl (.inl rfl) (by decide +kernel) (by decide +kernel)) (e_var (i := 0) rfl (.inl rfl) (by decide +kernel) (by decide +kernel)) (rd (e_var (i := 2) rfl (.inl rfl) (by decide +kernel) (by decide +kernel))) (by with_unfolding_all rfl))))))
theorem ok_is_within (G : Md P w base tb K mg) : Callee P w K mg base 2 "is_within" (SpM K mg tb [false, false, false] m_is_within) := by
  obtain ⟨f, fd, hm, F, hb⟩ := G.fn_is_within
  exact ⟨f, fd, _, hm, F.kp, hb, fn_def (more := []) F sc_is_within rfl (by decide) (by decide) (by decide) (bd_is_within G)⟩
abbrev N_is_string : List Str := ["thing"]
theorem sc_is_string : FnScope N_is_string ["thing"] (defScope (topS 10)) := ⟨rfl, rfl, rfl, by decide +kernel, rfl, by decide +kernel, by decide +kernel⟩
theorem bd_is_string (G : Md P w base tb K mg) : Body P w K mg base tb N_is_string "is_string" (defScope (topS 10)) 0 [] 0 (defBody (topS 10)) (fun _ => Rp K) b_is_string := fun f cdv A outer s H E H0 Z as hp C =>
    (ss_one (s_ret (e_isi .str rfl G.b_isinstance rfl G.b_str (rd (e_var (i := 0) rfl (.inl rfl) (by decide +kernel) (by decide +kernel))) (by rfl))))
theorem ok_is_string (G : Md P w base tb K mg) : Callee P w K mg base 1 "is_string" (SpM K mg tb [false] m_is_string) := by
  obtain ⟨f, fd, hm, F, hb⟩ := G.fn_is_string
  exact ⟨f, fd, _, hm, F.kp, hb, fn_def (more := []) F sc_is_string rfl (by decide) (by decide) (by decide) (bd_is_string G)⟩
abbrev N_is_tuple_of : List Str := ["thing", "many"]
theorem sc_is_tuple_of : FnScope N_is_tuple_of ["thing", "many"] (defScope (topS 11)) := ⟨rfl, rfl, rfl, by decide +kernel, rfl, by decide +kernel, by decide +kernel⟩
theorem bd_is_tuple_of (G : Md P w base tb K mg) : Body P w K mg base tb N_is_tuple_of "is_tuple_of" (defScope (topS 11)) 0 [] 0 (defBody (topS 11)) (fun _ => Rp K) b_is_tuple_of := fun f cdv A outer s H E H0 Z as hp C =>
    (ss_one (s_ret (e_and (e_isi .tuple rfl G.b_isinstance rfl G.b_tuple (rd (e_var (i := 0) rfl (.inl rfl) (by decide +kernel) (by decide +kernel))) (by rfl)) (e_one (e_cmp .eq C (e_len rfl G.b_len (rd (e_var (i := 0) rfl (.inl rfl) (by decide +kernel) (by decide +kernel))) (by rfl)) (rd (e_var (i := 1) rfl (.inl rfl) (by decide +kernel) (by decide +kernel))) (by rfl))))))
theorem ok_is_tuple_of (G : Md P w base tb K mg) : Callee P w K mg base 1 "is_tuple_of" (SpM K mg tb [false, false] m_is_tuple_of) := by
  obtain ⟨f, fd, hm, F, hb⟩ := G.fn_is_tuple_of
  exact ⟨f, fd, _, hm, F.kp, hb, fn_def (more := []) F sc_is_tuple_of rfl (by decide) (by decide) (by decide) (bd_is_tuple_of G)⟩
abbrev N_is_word : List Str := ["letters", "thing", "most", "letter"]
theorem sc_is_word : FnScope N_is_word ["letters", "thing", "most"] (defScope (topS 13)) := ⟨rfl, rfl, rfl, by decide +kernel, rfl, by decide +kernel, by decide +kernel⟩
theorem bd_is_word (G : Md P w base tb K mg) : Body P w K mg base tb N_is_word "is_word" (defScope (topS 13)) 1 [] 0 (defBody (topS 13)) (fun _ => Rp K) b_is_word := fun f cdv A outer s H E H0 Z as hp C =>
    (ss_one (s_ret (e_and (e_call C (ok_is_string G) (by decide) rfl (x_sh (e_var (i := 1) rfl (.inl rfl) (by decide +kernel) (by decide +kernel)) x_nil (by rfl)) (by decide) (by decide +kernel) (by rfl) (by rfl)) (e_and (e_cmp .le C (e_len rfl G.b_len (rd (e_var (i := 1) rfl (.inl rfl) (by decide +kernel) (by decide +kernel))) (by rfl)) (rd (e_var (i := 2) rfl (.inl rfl) (by decide +kernel) (by decide +kernel))) (by rfl)) (e_one (e_all C rfl G.b_all (rd (e_lc C (w_of (e_var (i := 1) rfl (.inl rfl) (by decide +kernel) (by decide +kernel))) (blkOk_by (show blkC N_is_word (defScope (topS 13)) _ [("letter", 3)] = true by decide +kernel)) (fun _ _ _ _ _ => (g_nm C.blk.nd (i := 3) rfl (.inl rfl) (.inr rfl))) (fun _ _ _ _ _ => ts_nil) (fun _ _ _ _ _ => (e_cmp .mem C.blk (e_var (i := 3) rfl (.inl rfl) (by decide +kernel) (by decide +kernel)) (rd (e_var (i := 0) rfl (.inr (.inl rfl)) (by decide +kernel) (by decide +kernel))) (by rfl))) rfl (by decide) (by decide) (by intro _; rfl))) (by rfl)))))))
theorem ok_is_word (G : Md P w base tb K mg) : Callee P w K mg base 2 "is_word" (SpM K mg tb [false, false, false] m_is_word) := by
  obtain ⟨f, fd, hm, F, hb⟩ := G.fn_is_word
  exact ⟨f, fd, _, hm, F.kp, hb, fn_def (more := []) F sc_is_word rfl (by decide) (by decide) (by decide) (bd_is_word G)⟩
abbrev N_key : List Str := ["word"]
theorem sc_key : FnScope N_key ["word"] (defScope (topS 14)) := ⟨rfl, rfl, rfl, by decide +kernel, rfl, by decide +kernel, by decide +kernel⟩
theorem bd_key (G : Md P w base tb K mg) : Body P w K mg base tb N_key "key" (defScope (topS 14)) 0 [] 0 (defBody (topS 14)) (fun _ => Rp K) b_key := fun f cdv A outer s H E H0 Z as hp C =>
    (ss_one (s_ret (e_tup (a_one (e_len rfl G.b_len (rd (e_var (i := 0) rfl (.inl rfl) (by decide +kernel) (by decide +kernel))) (by rfl)) (a_one (e_var (i := 0) rfl (.inl rfl) (by decide +kernel) (by decide +kernel)) a_nil (by rfl)) (by rfl)))))
theorem ok_key (G : Md P w base tb K mg) : Callee P w K mg base 1 "key" (SpM K mg tb [false] m_key) := by
  obtain ⟨f, fd, hm, F, hb⟩ := G.fn_key
  exact ⟨f, fd, _, hm, F.kp, hb, fn_def (more := []) F sc_key rfl (by decide) (by decide) (by decide) (bd_key G)⟩
abbrev N_is_less : List Str := ["one", "other"]
theorem sc_is_less : FnScope N_is_less ["one", "other"] (defScope (topS 15)) := ⟨rfl, rfl, rfl, by decide +kernel, rfl, by decide +kernel, by decide +kernel⟩
theorem bd_is_less (G : Md P w base tb K mg) : Body P w K mg base tb N_is_less "is_less" (defScope (topS 15)) 1 [] 0 (defBody (topS 15)) (fun _ => Rp K) b_is_less := fun f cdv A outer s H E H0 Z as hp C =>
    (ss_one (s_ret (e_cmp .lt C (e_call C (ok_key G) (by decide) rfl (x_sh (e_var (i := 0) rfl (.inl rfl) (by decide +kernel) (by decide +kernel)) x_nil (by rfl)) (by decide) (by decide +kernel) (by rfl) (by rfl)) (rd (e_call C (ok_key G) (by decide) rfl (x_sh (e_var (i := 1) rfl (.inl rfl) (by decide +kernel) (by decide +kernel)) x_nil (by rfl)) (by decide) (by decide +kernel) (by rfl) (by rfl))) (by rfl))))
theorem ok_is_less (G : Md P w base tb K mg) : Callee P w K mg base 2 "is_less" (SpM K mg tb [false, false] m_is_less) := by
  obtain ⟨f, fd, hm, F, hb⟩ := G.fn_is_less
  exact ⟨f, fd, _, hm, F.kp, hb, fn_def (more := []) F sc_is_less rfl (by decide) (by decide) (by decide) (bd_is_less G)⟩
abbrev N_places_of : List Str := ["word", "part", "place"]
theorem sc_places_of : FnScope N_places_of ["word", "part"] (defScope (topS 16)) := ⟨rfl, rfl, rfl, by decide +kernel, rfl, by decide +kernel, by decide +kernel⟩
theorem bd_places_of (G : Md P w base tb K mg) : Body P w K mg base tb N_places_of "places_of" (defScope (topS 16)) 0 [] 0 (defBody (topS 16)) (fun _ => Rp K) b_places_of := fun f cdv A outer s H E H0 Z as hp C =>
    (ss_one (s_ret (e_tuple rfl G.b_tuple (rd (e_lc C (w_range1 rfl G.b_range (e_op .add (e_op .sub (e_len rfl G.b_len (rd (e_var (i := 0) rfl (.inr (.inl rfl)) (by decide +kernel) (by decide +kernel))) (by rfl)) (rd (e_len rfl G.b_len (rd (e_var (i := 1) rfl (.inr (.inl rfl)) (by decide +kernel) (by decide +kernel))) (by rfl)))) (rd e_int)) (by rfl)) (blkOk_by (show blkC N_places_of (defScope (topS 16)) _ [("place", 2)] = true by decide +kernel)) (fun _ _ _ _ _ => (g_nm C.blk.nd (i := 2) rfl (.inl rfl) (.inr rfl))) (fun _ _ _ _ _ => (ts_one (t_cmp .eq C.blk (e_sl (e_var (i := 0) rfl (.inr (.inl rfl)) (by decide +kernel) (by decide +kernel)) (o_some (e_var (i := 2) rfl (.inl rfl) (by decide +kernel) (by decide +kernel))) (o_some (e_op .add (e_var (i := 2) rfl (.inl rfl) (by decide +kernel) (by decide +kernel)) (rd (e_len rfl G.b_len (rd (e_var (i := 1) rfl (.inr (.inl rfl)) (by decide +kernel) (by decide +kernel))) (by rfl)))))) (rd (e_var (i := 1) rfl (.inr (.inl rfl)) (by decide +kernel) (by decide +kernel))) (by rfl)))) (fun _ _ _ _ _ => (e_var (i := 2) rfl (.inl rfl) (by decide +kernel) (by decide +kernel))) rfl (by decide) (by decide) (by intro _; rfl))) (by rfl))))
theorem ok_places_of (G : Md P w base tb K mg) : Callee P w K mg base 1 "places_of" (SpM K mg tb [false, false] m_places_of) := by
  obtain ⟨f, fd, hm, F, hb⟩ := G.fn_places_of
  exact ⟨f, fd, _, hm, F.kp, hb, fn_def (more := []) F sc_places_of rfl (by decide) (by decide) (by decide) (bd_places_of G)⟩
abbrev N_with_part : List Str := ["word", "place", "long", "part"]
theorem sc_with_part : FnScope N_with_part ["word", "place", "long", "part"] (defScope (topS 17)) := ⟨rfl, rfl, rfl, by decide +kernel, rfl, by decide +kernel, by decide +kernel⟩
theorem bd_with_part (G : Md P w base tb K mg) : Body P w K mg base tb N_with_part "with_part" (defScope (topS 17)) 0 [] 0 (defBody (topS 17)) (fun _ => Rp K) b_with_part := fun f cdv A outer s H E H0 Z as hp C =>
    (ss_one (s_ret (e_op .add (e_op .add (e_sl (e_var (i := 0) rfl (.inl rfl) (by decide +kernel) (by decide +kernel)) o_none (o_some (e_var (i := 1) rfl (.inl rfl) (by decide +kernel) (by decide +kernel)))) (rd (e_var (i := 3) rfl (.inl rfl) (by decide +kernel) (by decide +kernel)))) (rd (e_sl (e_var (i := 0) rfl (.inl rfl) (by decide +kernel) (by decide +kernel)) (o_some (e_op .add (e_var (i := 1) rfl (.inl rfl) (by decide +kernel) (by decide +kernel)) (rd (e_var (i := 2) rfl (.inl rfl) (by decide +kernel) (by decide +kernel))))) o_none)))))
theorem ok_with_part (G : Md P w base tb K mg) : Callee P w K mg base 1 "with_part" (SpM K mg tb [false, false, false, false] m_with_part) := by
  obtain ⟨f, fd, hm, F, hb⟩ := G.fn_with_part
  exact ⟨f, fd, _, hm, F.kp, hb, fn_def (more := []) F sc_with_part rfl (by decide) (by decide) (by decide) (bd_with_part G)⟩
abbrev N_back_uses : List Str := ["uses", "kind", "index", "place", "way"]
theorem sc_back_uses : FnScope N_back_uses ["uses"] (defScope (topS 23)) := ⟨rfl, rfl, rfl, by decide +kernel, rfl, by decide +kernel, by decide +kernel⟩
theorem bd_back_uses (G : Md P w base tb K mg) : Body P w K mg base tb N_back_uses "back_uses" (defScope (topS 23)) 0 [] 0 (defBody (topS 23)) (fun _ => Rp K) b_back_uses := fun f cdv A outer s H E H0 Z as hp C =>
    (ss_one (s_ret (e_lc C (w_of (e_rev (rd (e_var (i := 0) rfl (.inl rfl) (by decide +kernel) (by decide +kernel))))) (blkOk_by (show blkC N_back_uses (defScope (topS 23)) _ [("kind", 1), ("index", 2), ("place", 3), ("way", 4)] = true by decide +kernel)) (fun _ _ _ _ _ => (g_tup C.blk.calm (g_cons (g_nm C.blk.nd (i := 1) rfl (.inl rfl) (.inr rfl)) (g_cons (g_nm C.blk.nd (i := 2) rfl (.inl rfl) (.inr rfl)) (g_cons (g_nm C.blk.nd (i := 3) rfl (.inl rfl) (.inr rfl)) (g_cons (g_nm C.blk.nd (i := 4) rfl (.inl rfl) (.inr rfl)) g_nil (by rfl)) (by rfl)) (by rfl)) (by rfl)) (by rfl) (by rfl))) (fun _ _ _ _ _ => ts_nil) (fun _ _ _ _ _ => (e_tup (a_one (e_var (i := 1) rfl (.inl rfl) (by decide +kernel) (by decide +kernel)) (a_one (e_var (i := 2) rfl (.inl rfl) (by decide +kernel) (by decide +kernel)) (a_one (e_var (i := 3) rfl (.inl rfl) (by decide +kernel) (by decide +kernel)) (a_one (e_op .sub e_int (rd (e_var (i := 4) rfl (.inl rfl) (by decide +kernel) (by decide +kernel)))) a_nil (by rfl)) (by rfl)) (by rfl)) (by rfl)))) rfl (by decide) (by decide) (by intro _; rfl))))
theorem ok_back_uses (G : Md P w base tb K mg) : Callee P w K mg base 1 "back_uses" (SpM K mg tb [false] m_back_uses) := by
  obtain ⟨f, fd, hm, F, hb⟩ := G.fn_back_uses
  exact ⟨f, fd, _, hm, F.kp, hb, fn_def (more := []) F sc_back_uses rfl (by decide) (by decide) (by decide) (bd_back_uses G)⟩
abbrev N_couple_used : List Str := ["book", "lines", "use", "some"]
theorem sc_couple_used : FnScope N_couple_used ["book", "lines", "use"] (defScope (topS 30)) := ⟨rfl, rfl, rfl, by decide +kernel, rfl, by decide +kernel, by decide +kernel⟩
theorem bd_couple_used (G : Md P w base tb K mg) : Body P w K mg base tb N_couple_used "couple_used" (defScope (topS 30)) 2 [] 0 (defBody (topS 30)) (fun _ => Rp K) b_couple_used := fun f cdv A outer s H E H0 Z as hp C =>
    (ss_cons (s_if (PW.pt (t_or (t_not (t_tru (rd (e_call C (ok_is_tuple_of G) (by decide) rfl (x_sh (e_var (i := 2) rfl (.inl rfl) (by decide +kernel) (by decide +kernel)) (x_sh (e_glob rfl (con_int G.c_FOUR) (by decide +kernel)) x_nil (by rfl)) (by rfl)) (by decide) (by decide +kernel) (by rfl) (by rfl))) (by intro _; rfl))) (t_or (t_not (t_tru (rd (e_call C (ok_is_within G) (by decide) rfl (x_sh (e_idx (e_var (i := 2) rfl (.inl rfl) (by decide +kernel) (by decide +kernel)) (rd e_int) (by intro _ _; rfl)) (x_sh (e_glob rfl (con_int G.c_LAW_lines) (by decide +kernel)) (x_sh (e_glob rfl (con_int G.c_LINE_lines) (by decide +kernel)) x_nil (by rfl)) (by rfl)) (by rfl)) (by decide) (by decide +kernel) (by rfl) (by rfl))) (by intro _; rfl))) (t_or1 (t_not (t_tru (rd (e_call C (ok_is_within G) (by decide) rfl (x_sh (e_idx (e_var (i := 2) rfl (.inl rfl) (by decide +kernel) (by decide +kernel)) (rd e_int) (by intro _ _; rfl)) (x_sh e_int (x_sh e_int x_nil (by rfl)) (by rfl)) (by rfl)) (by decide) (by decide +kernel) (by rfl) (by rfl))) (by intro _; rfl))))))) (ss_one (s_ret e_non)) ss_nil)
    (ss_cons (s_set C.nd (i := 3) rfl (.inl rfl) (.inr rfl) (by decide) (e_if (t_cmp .eq C (e_idx (e_var (i := 2) rfl (.inl rfl) (by decide +kernel) (by decide +kernel)) (rd e_int) (by intro _ _; rfl)) (rd (e_glob rfl (con_int G.c_LAW_lines) (by decide +kernel))) (by rfl)) (e_idx (e_var (i := 0) rfl (.inl rfl) (by decide +kernel) (by decide +kernel)) (rd (e_glob rfl (con_int G.c_LAWS) (by decide +kernel))) (by intro _ _; rfl)) (e_var (i := 1) rfl (.inl rfl) (by decide +kernel) (by decide +kernel))) (by rfl))
    (ss_one (s_ret (e_if (t_tru (rd (e_call C (ok_is_within G) (by decide) rfl (x_sh (e_idx (e_var (i := 2) rfl (.inl rfl) (by decide +kernel) (by decide +kernel)) (rd e_int) (by intro _ _; rfl)) (x_sh e_int (x_sh (e_op .sub (e_len rfl G.b_len (rd (e_var (i := 3) rfl (.inl rfl) (by decide +kernel) (by decide +kernel))) (by rfl)) (rd e_int)) x_nil (by rfl)) (by rfl)) (by rfl)) (by decide) (by decide +kernel) (by rfl) (by rfl))) (by intro _; rfl)) (e_sl (e_idx (e_var (i := 3) rfl (.inl rfl) (by decide +kernel) (by decide +kernel)) (rd (e_idx (e_var (i := 2) rfl (.inl rfl) (by decide +kernel) (by decide +kernel)) (rd e_int) (by intro _ _; rfl))) (by intro _ _; rfl)) o_none (o_some e_int)) e_non)))))
theorem ok_couple_used (G : Md P w base tb K mg) : Callee P w K mg base 3 "couple_used" (SpM K mg tb [false, false, false] m_couple_used) := by
  obtain ⟨f, fd, hm, F, hb⟩ := G.fn_couple_used
  exact ⟨f, fd, _, hm, F.kp, hb, fn_def (more := []) F sc_couple_used rfl (by decide) (by decide) (by decide) (bd_couple_used G)⟩
abbrev N_after_line_use : List Str := ["book", "lines", "word", "use", "couple", "out", "put"]
theorem sc_after_line_use : FnScope N_after_line_use ["book", "lines", "word", "use"] (defScope (topS 31)) := ⟨rfl, rfl, rfl, by decide +kernel, rfl, by decide +kernel, by decide +kernel⟩
theorem bd_after_line_use (G : Md P w base tb K mg) : Body P w K mg base tb N_after_line_use "after_line_use" (defScope (topS 31)) 3 [] 0 (defBody (topS 31)) (fun _ => Rp K) b_after_line_use := fun f cdv A outer s H E H0 Z as hp C =>
    (ss_cons (s_set C.nd (i := 4) rfl (.inl rfl) (.inr rfl) (by decide) (e_call C (ok_couple_used G) (by decide) rfl (x_sh (e_var (i := 0) rfl (.inl rfl) (by decide +kernel) (by decide +kernel)) (x_sh (e_var (i := 1) rfl (.inl rfl) (by decide +kernel) (by decide +kernel)) (x_sh (e_var (i := 3) rfl (.inl rfl) (by decide +kernel) (by decide +kernel)) x_nil (by rfl)) (by rfl)) (by rfl)) (by decide) (by decide +kernel) (by rfl) (by rfl)) (by rfl))
    (ss_cons (s_if (t_cmp .isN C (e_var (i := 4) rfl (.inl rfl) (by decide +kernel) (by decide +kernel)) (rd e_non) (by rfl)) (ss_one ps_bad) ss_nil)
    (ss_cons (s_par2 (q := (.sh 5 (e2 idxD (eVar 4) (e2 idxD (eVar 3) (eC (.int 3)))))) (r := (.sh 6 (e2 idxD (eVar 4) (e2 (opD .sub) (eC (.int 1)) (e2 idxD (eVar 3) (eC (.int 3))))))) C (i := 5) (j := 6) rfl rfl (by decide) rfl rfl ⟨rfl, by decide⟩ ⟨rfl, by decide⟩ (e_idx (e_var (i := 4) rfl (.inl rfl) (by decide +kernel) (by decide +kernel)) (rd (e_idx (e_var (i := 3) rfl (.inl rfl) (by decide +kernel) (by decide +kernel)) (rd e_int) (by intro _ _; rfl))) (by intro _ _; rfl)) (e_idx (e_var (i := 4) rfl (.inl rfl) (by decide +kernel) (by decide +kernel)) (rd (e_op .sub e_int (rd (e_idx (e_var (i := 3) rfl (.inl rfl) (by decide +kernel) (by decide +kernel)) (rd e_int) (by intro _ _; rfl))))) (by intro _ _; rfl)) (by rfl) (by rfl) (by rfl) (by rfl))
    (ss_cons (s_if (PW.pt (t_or (t_not (t_tru (rd (e_call C (ok_is_within G) (by decide) rfl (x_sh (e_idx (e_var (i := 3) rfl (.inl rfl) (by decide +kernel) (by decide +kernel)) (rd e_int) (by intro _ _; rfl)) (x_sh e_int (x_sh (e_len rfl G.b_len (rd (e_var (i := 2) rfl (.inl rfl) (by decide +kernel) (by decide +kernel))) (by rfl)) x_nil (by rfl)) (by rfl)) (by rfl)) (by decide) (by decide +kernel) (by rfl) (by rfl))) (by intro _; rfl))) (t_or1 (t_cmp .nmem C (e_idx (e_var (i := 3) rfl (.inl rfl) (by decide +kernel) (by decide +kernel)) (rd e_int) (by intro _ _; rfl)) (rd (e_call C (ok_places_of G) (by decide) rfl (x_sh (e_var (i := 2) rfl (.inl rfl) (by decide +kernel) (by decide +kernel)) (x_sh (e_var (i := 5) rfl (.inl rfl) (by decide +kernel) (by decide +kernel)) x_nil (by rfl)) (by rfl)) (by decide) (by decide +kernel) (by rfl) (by rfl))) (by rfl))))) (ss_one ps_bad) ss_nil)
    (ss_one (s_ret (e_call C (ok_with_part G) (by decide) rfl (x_sh (e_var (i := 2) rfl (.inl rfl) (by decide +kernel) (by decide +kernel)) (x_sh (e_idx (e_var (i := 3) rfl (.inl rfl) (by decide +kernel) (by decide +kernel)) (rd e_int) (by intro _ _; rfl)) (x_sh (e_len rfl G.b_len (rd (e_var (i := 5) rfl (.inl rfl) (by decide +kernel) (by decide +kernel))) (by rfl)) (x_sh (e_var (i := 6) rfl (.inl rfl) (by decide +kernel) (by decide +kernel)) x_nil (by rfl)) (by rfl)) (by rfl)) (by rfl)) (by decide) (by decide +kernel) (by rfl) (by rfl))))))))
theorem ok_after_line_use (G : Md P w base tb K mg) : Callee P w K mg base 4 "after_line_use" (SpM K mg tb [false, false, false, false] m_after_line_use) := by
  obtain ⟨f, fd, hm, F, hb⟩ := G.fn_after_line_use
  exact ⟨f, fd, _, hm, F.kp, hb, fn_def (more := []) F sc_after_line_use rfl (by decide) (by decide) (by decide) (bd_after_line_use G)⟩
abbrev N_after_row : List Str := ["book", "lines", "word", "row", "use"]
theorem sc_after_row : FnScope N_after_row ["book", "lines", "word", "row"] (defScope (topS 32)) := ⟨rfl, rfl, rfl, by decide +kernel, rfl, by decide +kernel, by decide +kernel⟩
theorem bd_after_row (G : Md P w base tb K mg) : Body P w K mg base tb N_after_row "after_row" (defScope (topS 32)) 4 [] 0 (defBody (topS 32)) (fun _ => Rp K) b_after_row := fun f cdv A outer s H E H0 Z as hp C =>
    (ss_cons (s_if (t_not (t_tru (rd (e_isi .tuple rfl G.b_isinstance rfl G.b_tuple (rd (e_var (i := 3) rfl (.inl rfl) (by decide +kernel) (by decide +kernel))) (by rfl))) (by intro _; rfl))) (ss_one ps_bad) ss_nil)
    (ss_cons (s_for C (passes_of rfl) (w_of (e_var (i := 3) rfl (.inl rfl) (by decide +kernel) (by decide +kernel))) (g_nm C.nd (i := 4) rfl (.inl rfl) (.inr rfl)) (by decide) (ss_one (s_set C.nd (i := 2) rfl (.inl rfl) (.inr rfl) (by decide) (e_call C (ok_after_line_use G) (by decide) rfl (x_sh (e_var (i := 0) rfl (.inl rfl) (by decide +kernel) (by decide +kernel)) (x_sh (e_var (i := 1) rfl (.inl rfl) (by decide +kernel) (by decide +kernel)) (x_sh (e_var (i := 2) rfl (.inl rfl) (by decide +kernel) (by decide +kernel)) (x_sh (e_var (i := 4) rfl (.inl rfl) (by decide +kernel) (by decide +kernel)) x_nil (by rfl)) (by rfl)) (by rfl)) (by rfl)) (by decide) (by decide +kernel) (by rfl) (by rfl)) (by rfl))) (by intro _; rfl))
    (ss_one (s_ret (e_var (i := 2) rfl (.inl rfl) (by decide +kernel) (by decide +kernel))))))
theorem ok_after_row (G : Md P w base tb K mg) : Callee P w K mg base 5 "after_row" (SpM K mg tb [false, false, false, false] m_after_row) := by
  obtain ⟨f, fd, hm, F, hb⟩ := G.fn_after_row
  exact ⟨f, fd, _, hm, F.kp, hb, fn_def (more := []) F sc_after_row rfl (by decide) (by decide) (by decide) (bd_after_row G)⟩
abbrev N_does_lead : List Str := ["book", "lines", "one", "other", "row"]
theorem sc_does_lead : FnScope N_does_lead ["book", "lines", "one", "other", "row"] (defScope (topS 33)) := ⟨rfl, rfl, rfl, by decide +kernel, rfl, by decide +kernel, by decide +kernel⟩
theorem bd_does_lead (G : Md P w base tb K mg) : Body P w K mg base tb N_does_lead "does_lead" (defScope (topS 33)) 5 [] 0 (defBody (topS 33)) (fun _ => Rp K) b_does_lead := fun f cdv A outer s H E H0 Z as hp C =>
    (ss_one (s_tryC G.xt C rfl rfl (fun W' pn xe tk po =>
    (ss_one (s_ret (e_cmp .eq (C.tr tk) (e_call (C.tr tk) (ok_after_row G) (by decide) rfl (x_sh (e_var (i := 0) rfl (.inl rfl) (by decide +kernel) (by decide +kernel)) (x_sh (e_var (i := 1) rfl (.inl rfl) (by decide +kernel) (by decide +kernel)) (x_sh (e_var (i := 2) rfl (.inl rfl) (by decide +kernel) (by decide +kernel)) (x_sh (e_var (i := 4) rfl (.inl rfl) (by decide +kernel) (by decide +kernel)) x_nil (by rfl)) (by rfl)) (by rfl)) (by rfl)) (by decide) (by decide +kernel) (by rfl) (by rfl)) (rd (e_var (i := 3) rfl (.inl rfl) (by decide +kernel) (by decide +kernel))) (by rfl))))) (.cons (c := "Refused") rfl G.k_Refused (by decide +kernel) .bl .nil)))
theorem ok_does_lead (G : Md P w base tb K mg) : Callee P w K mg base 6 "does_lead" (SpM K mg tb [false, false, false, false, false] m_does_lead) := by
  obtain ⟨f, fd, hm, F, hb⟩ := G.fn_does_lead
  exact ⟨f, fd, _, hm, F.kp, hb, fn_def (more := []) F sc_does_lead rfl (by decide) (by decide) (by decide) (bd_does_lead G)⟩
abbrev N_line_fault : List Str := ["book", "lines", "line", "side"]
theorem sc_line_fault : FnScope N_line_fault ["book", "lines", "line"] (defScope (topS 34)) := ⟨rfl, rfl, rfl, by decide +kernel, rfl, by decide +kernel, by decide +kernel⟩
theorem bd_line_fault (G : Md P w base tb K mg) : Body P w K mg base tb N_line_fault "line_fault" (defScope (topS 34)) 6 [] 0 (defBody (topS 34)) (fun _ => Rp K) b_line_fault := fun f cdv A outer s H E H0 Z as hp C =>
    (ss_cons (s_if (PW.pt (t_or (t_not (t_tru (rd (e_call C (ok_is_tuple_of G) (by decide) rfl (x_sh (e_var (i := 2) rfl (.inl rfl) (by decide +kernel) (by decide +kernel)) (x_sh (e_glob rfl (con_int G.c_THREE_lines) (by decide +kernel)) x_nil (by rfl)) (by rfl)) (by decide) (by decide +kernel) (by rfl) (by rfl))) (by intro _; rfl))) (t_or1 (t_not (t_tru (rd (e_all C rfl G.b_all (rd (e_lc C (w_of (e_sl (e_var (i := 2) rfl (.inl rfl) (by decide +kernel) (by decide +kernel)) o_none (o_some e_int))) (blkOk_by (show blkC N_line_fault (defScope (topS 34)) _ [("side", 3)] = true by decide +kernel)) (fun _ _ _ _ _ => (g_nm C.blk.nd (i := 3) rfl (.inl rfl) (.inr rfl))) (fun _ _ _ _ _ => ts_nil) (fun _ _ _ _ _ => (e_call C.blk (ok_is_word G) (by decide) rfl (x_sh (e_idx (e_var (i := 0) rfl (.inr (.inl rfl)) (by decide +kernel) (by decide +kernel)) (rd (e_glob rfl (con_int G.c_LETTERS) (by decide +kernel))) (by intro _ _; rfl)) (x_sh (e_var (i := 3) rfl (.inl rfl) (by decide +kernel) (by decide +kernel)) (x_sh (e_glob rfl (con_int G.c_MOST_WORD) (by decide +kernel)) x_nil (by rfl)) (by rfl)) (by rfl)) (by decide) (by decide +kernel) (by rfl) (by rfl))) rfl (by decide) (by decide) (by intro _; rfl))) (by rfl))) (by intro _; rfl)))))) (ss_one (s_ret (e_str (by decide +kernel)))) ss_nil)
    (ss_cons (s_if (t_not (t_tru (rd (e_call C (ok_is_less G) (by decide) rfl (x_sh (e_idx (e_var (i := 2) rfl (.inl rfl) (by decide +kernel) (by decide +kernel)) (rd e_int) (by intro _ _; rfl)) (x_sh (e_idx (e_var (i := 2) rfl (.inl rfl) (by decide +kernel) (by decide +kernel)) (rd e_int) (by intro _ _; rfl)) x_nil (by rfl)) (by rfl)) (by decide) (by decide +kernel) (by rfl) (by rfl))) (by intro _; rfl))) (ss_one (s_ret (e_str (by decide +kernel)))) ss_nil)
    (ss_one (s_ret (e_if (t_tru (rd (e_call C (ok_does_lead G) (by decide) rfl (x_sh (e_var (i := 0) rfl (.inr (.inl rfl)) (by decide +kernel) (by decide +kernel)) (x_sh (e_var (i := 1) rfl (.inl rfl) (by decide +kernel) (by decide +kernel)) (x_sh (e_idx (e_var (i := 2) rfl (.inl rfl) (by decide +kernel) (by decide +kernel)) (rd e_int) (by intro _ _; rfl)) (x_sh (e_idx (e_var (i := 2) rfl (.inl rfl) (by decide +kernel) (by decide +kernel)) (rd e_int) (by intro _ _; rfl)) (x_sh (e_idx (e_var (i := 2) rfl (.inl rfl) (by decide +kernel) (by decide +kernel)) (rd e_int) (by intro _ _; rfl)) x_nil (by rfl)) (by rfl)) (by rfl)) (by rfl)) (by rfl)) (by decide) (by decide +kernel) (by rfl) (by rfl))) (by intro _; rfl)) e_non (e_str (by decide +kernel)))))))
theorem ok_line_fault (G : Md P w base tb K mg) : Callee P w K mg base 7 "line_fault" (SpM K mg tb [false, false, false] m_line_fault) := by
  obtain ⟨f, fd, hm, F, hb⟩ := G.fn_line_fault
  exact ⟨f, fd, _, hm, F.kp, hb, fn_def (more := []) F sc_line_fault rfl (by decide) (by decide) (by decide) (bd_line_fault G)⟩
abbrev N_lines_fault : List Str := ["book", "thing", "index", "line", "word"]
theorem sc_lines_fault : FnScope N_lines_fault ["book", "thing"] (defScope (topS 35)) := ⟨rfl, rfl, rfl, by decide +kernel, rfl, by decide +kernel, by decide +kernel⟩
theorem bd_lines_fault (G : Md P w base tb K mg) : Body P w K mg base tb N_lines_fault "lines_fault" (defScope (topS 35)) 7 [] 0 (defBody (topS 35)) (fun _ => Rp K) b_lines_fault := fun f cdv A outer s H E H0 Z as hp C =>
    (ss_cons (s_if (t_not (t_tru (rd (e_isi .tuple rfl G.b_isinstance rfl G.b_tuple (rd (e_var (i := 1) rfl (.inl rfl) (by decide +kernel) (by decide +kernel))) (by rfl))) (by intro _; rfl))) (ss_one (s_ret (e_tup (a_one (e_neg e_int) (a_one (e_str (by decide +kernel)) a_nil (by rfl)) (by rfl))))) ss_nil)
    (ss_cons (s_for C (passes_of rfl) (w_enum rfl G.b_enumerate (e_var (i := 1) rfl (.inl rfl) (by decide +kernel) (by decide +kernel)) (by rfl)) (g_tup C.calm (g_cons (g_nm C.nd (i := 2) rfl (.inl rfl) (.inr rfl)) (g_cons (g_nm C.nd (i := 3) rfl (.inl rfl) (.inr rfl)) g_nil (by rfl)) (by rfl)) (by rfl) (by rfl)) (by decide) (ss_cons (s_set C.nd (i := 4) rfl (.inl rfl) (.inr rfl) (by decide) (e_call C (ok_line_fault G) (by decide) rfl (x_sh (e_var (i := 0) rfl (.inl rfl) (by decide +kernel) (by decide +kernel)) (x_sh (e_sl (e_var (i := 1) rfl (.inl rfl) (by decide +kernel) (by decide +kernel)) o_none (o_some (e_var (i := 2) rfl (.inl rfl) (by decide +kernel) (by decide +kernel)))) (x_sh (e_var (i := 3) rfl (.inl rfl) (by decide +kernel) (by decide +kernel)) x_nil (by rfl)) (by rfl)) (by rfl)) (by decide) (by decide +kernel) (by rfl) (by rfl)) (by rfl))
    (ss_one (s_if (t_cmp .notN C (e_var (i := 4) rfl (.inl rfl) (by decide +kernel) (by decide +kernel)) (rd e_non) (by rfl)) (ss_one (s_ret (e_tup (a_one (e_var (i := 2) rfl (.inl rfl) (by decide +kernel) (by decide +kernel)) (a_one (e_var (i := 4) rfl (.inl rfl) (by decide +kernel) (by decide +kernel)) a_nil (by rfl)) (by rfl))))) ss_nil))) (by intro _; rfl))
    (ss_one (s_ret e_non))))
theorem ok_lines_fault (G : Md P w base tb K mg) : Callee P w K mg base 8 "lines_fault" (SpM K mg tb [false, false] m_lines_fault) := by
  obtain ⟨f, fd, hm, F, hb⟩ := G.fn_lines_fault
  exact ⟨f, fd, _, hm, F.kp, hb, fn_def (more := []) F sc_lines_fault rfl (by decide) (by decide) (by decide) (bd_lines_fault G)⟩
abbrev N_are_lines : List Str := ["book", "thing"]
theorem sc_are_lines : FnScope N_are_lines ["book", "thing"] (defScope (topS 36)) := ⟨rfl, rfl, rfl, by decide +kernel, rfl, by decide +kernel, by decide +kernel⟩
theorem bd_are_lines (G : Md P w base tb K mg) : Body P w K mg base tb N_are_lines "are_lines" (defScope (topS 36)) 8 [] 0 (defBody (topS 36)) (fun _ => Rp K) b_are_lines := fun f cdv A outer s H E H0 Z as hp C =>
    (ss_one (s_ret (e_cmp .isN C (e_call C (ok_lines_fault G) (by decide) rfl (x_sh (e_var (i := 0) rfl (.inl rfl) (by decide +kernel) (by decide +kernel)) (x_sh (e_var (i := 1) rfl (.inl rfl) (by decide +kernel) (by decide +kernel)) x_nil (by rfl)) (by rfl)) (by decide) (by decide +kernel) (by rfl) (by rfl)) (rd e_non) (by rfl))))
theorem ok_are_lines (G : Md P w base tb K mg) : Callee P w K mg base 9 "are_lines" (SpM K mg tb [false, false] m_are_lines) := by
  obtain ⟨f, fd, hm, F, hb⟩ := G.fn_are_lines
  exact ⟨f, fd, _, hm, F.kp, hb, fn_def (more := []) F sc_are_lines rfl (by decide) (by decide) (by decide) (bd_are_lines G)⟩
abbrev N_shows_alike : List Str := ["book", "one", "other", "thing"]
theorem sc_shows_alike : FnScope N_shows_alike ["book", "one", "other", "thing"] (defScope (topS 40)) := ⟨rfl, rfl, rfl, by decide +kernel, rfl, by decide +kernel, by decide +kernel⟩
theorem bd_shows_alike (G : Md P w base tb K mg) : Body P w K mg base tb N_shows_alike "shows_alike" (defScope (topS 40)) 9 [] 0 (defBody (topS 40)) (fun _ => Rp K) b_shows_alike := fun f cdv A outer s H E H0 Z as hp C =>
    (ss_one (s_ret (e_and (e_call C (ok_is_tuple_of G) (by decide) rfl (x_sh (e_var (i := 3) rfl (.inl rfl) (by decide +kernel) (by decide +kernel)) (x_sh (e_glob rfl (con_int G.c_THREE_alike) (by decide +kernel)) x_nil (by rfl)) (by rfl)) (by decide) (by decide +kernel) (by rfl) (by rfl)) (e_and (e_cmp .eq C (e_idx (e_var (i := 3) rfl (.inl rfl) (by decide +kernel) (by decide +kernel)) (rd e_int) (by intro _ _; rfl)) (rd (e_glob rfl (con_str G.c_ALIKE (by decide +kernel)) (by decide +kernel))) (by rfl)) (e_and (e_call C (ok_are_lines G) (by decide) rfl (x_sh (e_var (i := 0) rfl (.inl rfl) (by decide +kernel) (by decide +kernel)) (x_sh (e_idx (e_var (i := 3) rfl (.inl rfl) (by decide +kernel) (by decide +kernel)) (rd e_int) (by intro _ _; rfl)) x_nil (by rfl)) (by rfl)) (by decide) (by decide +kernel) (by rfl) (by rfl)) (e_one (e_call C (ok_does_lead G) (by decide) rfl (x_sh (e_var (i := 0) rfl (.inl rfl) (by decide +kernel) (by decide +kernel)) (x_sh (e_idx (e_var (i := 3) rfl (.inl rfl) (by decide +kernel) (by decide +kernel)) (rd e_int) (by intro _ _; rfl)) (x_sh (e_var (i := 1) rfl (.inl rfl) (by decide +kernel) (by decide +kernel)) (x_sh (e_var (i := 2) rfl (.inl rfl) (by decide +kernel) (by decide +kernel)) (x_sh (e_idx (e_var (i := 3) rfl (.inl rfl) (by decide +kernel) (by decide +kernel)) (rd e_int) (by intro _ _; rfl)) x_nil (by rfl)) (by rfl)) (by rfl)) (by rfl)) (by rfl)) (by decide) (by decide +kernel) (by rfl) (by rfl))))))))
theorem ok_shows_alike (G : Md P w base tb K mg) : Callee P w K mg base 10 "shows_alike" (SpM K mg tb [false, false, false, false] m_shows_alike) := by
  obtain ⟨f, fd, hm, F, hb⟩ := G.fn_shows_alike
  exact ⟨f, fd, _, hm, F.kp, hb, fn_def (more := []) F sc_shows_alike rfl (by decide) (by decide) (by decide) (bd_shows_alike G)⟩
abbrev N_roomy : List Str := ["lines", "row"]
theorem sc_roomy : FnScope N_roomy ["lines", "row"] (defScope (topS 44)) := ⟨rfl, rfl, rfl, by decide +kernel, rfl, by decide +kernel, by decide +kernel⟩
theorem bd_roomy (G : Md P w base tb K mg) : Body P w K mg base tb N_roomy "roomy" (defScope (topS 44)) 2 [] 0 (defBody (topS 44)) (fun _ => Rp K) b_roomy := fun f cdv A outer s H E H0 Z as hp C =>
    (ss_cons (s_if (t_cmp .gt C (e_len rfl G.b_len (rd (e_var (i := 0) rfl (.inl rfl) (by decide +kernel) (by decide +kernel))) (by rfl)) (rd (e_glob rfl (con_int G.c_MOST_LINES) (by decide +kernel))) (by rfl)) (ss_one (s_raise (cls := "TooMany") (fs := ["what", "limit"]) C (by decide) G.x_TooMany (by decide +kernel) rfl (a_one (e_str (by decide +kernel)) (a_one (e_glob rfl (con_int G.c_MOST_LINES) (by decide +kernel)) a_nil (by rfl)) (by rfl)) (by decide) (by decide +kernel) (by rfl) (by rfl))) ss_nil)
    (ss_cons (s_if (t_cmp .gt C (e_len rfl G.b_len (rd (e_var (i := 1) rfl (.inl rfl) (by decide +kernel) (by decide +kernel))) (by rfl)) (rd (e_glob rfl (con_int G.c_MOST_USES) (by decide +kernel))) (by rfl)) (ss_one (s_raise (cls := "TooMany") (fs := ["what", "limit"]) C (by decide) G.x_TooMany (by decide +kernel) rfl (a_one (e_str (by decide +kernel)) (a_one (e_glob rfl (con_int G.c_MOST_USES) (by decide +kernel)) a_nil (by rfl)) (by rfl)) (by decide) (by decide +kernel) (by rfl) (by rfl))) ss_nil)
    (ss_one (s_ret (e_tup (a_one (e_glob rfl (con_str G.c_ALIKE (by decide +kernel)) (by decide +kernel)) (a_one (e_tuple rfl G.b_tuple (rd (e_var (i := 0) rfl (.inl rfl) (by decide +kernel) (by decide +kernel))) (by rfl)) (a_one (e_tuple rfl G.b_tuple (rd (e_var (i := 1) rfl (.inl rfl) (by decide +kernel) (by decide +kernel))) (by rfl)) a_nil (by rfl)) (by rfl)) (by rfl)))))))
theorem ok_roomy (G : Md P w base tb K mg) : Callee P w K mg base 3 "roomy" (SpM K mg tb [false, false] m_roomy) := by
  obtain ⟨f, fd, hm, F, hb⟩ := G.fn_roomy
  exact ⟨f, fd, _, hm, F.kp, hb, fn_def (more := []) F sc_roomy rfl (by decide) (by decide) (by decide) (bd_roomy G)⟩
abbrev N_turned_paper : List Str := ["paper"]
theorem sc_turned_paper : FnScope N_turned_paper ["paper"] (defScope (topS 45)) := ⟨rfl, rfl, rfl, by decide +kernel, rfl, by decide +kernel, by decide +kernel⟩
theorem bd_turned_paper (G : Md P w base tb K mg) : Body P w K mg base tb N_turned_paper "turned_paper" (defScope (topS 45)) 1 [] 0 (defBody (topS 45)) (fun _ => Rp K) b_turned_paper := fun f cdv A outer s H E H0 Z as hp C =>
    (ss_one (s_ret (e_tup (a_one (e_glob rfl (con_str G.c_ALIKE (by decide +kernel)) (by decide +kernel)) (a_one (e_idx (e_var (i := 0) rfl (.inl rfl) (by decide +kernel) (by decide +kernel)) (rd e_int) (by intro _ _; rfl)) (a_one (e_tuple rfl G.b_tuple (rd (e_call C (ok_back_uses G) (by decide) rfl (x_sh (e_idx (e_var (i := 0) rfl (.inl rfl) (by decide +kernel) (by decide +kernel)) (rd e_int) (by intro _ _; rfl)) x_nil (by rfl)) (by decide) (by decide +kernel) (by rfl) (by rfl))) (by rfl)) a_nil (by rfl)) (by rfl)) (by rfl)))))
theorem ok_turned_paper (G : Md P w base tb K mg) : Callee P w K mg base 2 "turned_paper" (SpM K mg tb [false] m_turned_paper) := by
  obtain ⟨f, fd, hm, F, hb⟩ := G.fn_turned_paper
  exact ⟨f, fd, _, hm, F.kp, hb, fn_def (more := []) F sc_turned_paper rfl (by decide) (by decide) (by decide) (bd_turned_paper G)⟩
abbrev N_further : List Str := ["row", "many", "kind", "index", "place", "way"]
theorem sc_further : FnScope N_further ["row", "many"] (defScope (topS 46)) := ⟨rfl, rfl, rfl, by decide +kernel, rfl, by decide +kernel, by decide +kernel⟩
theorem bd_further (G : Md P w base tb K mg) : Body P w K mg base tb N_further "further" (defScope (topS 46)) 0 [] 0 (defBody (topS 46)) (fun _ => Rp K) b_further := fun f cdv A outer s H E H0 Z as hp C =>
    (ss_one (s_ret (e_tuple rfl G.b_tuple (rd (e_lc C (w_of (e_var (i := 0) rfl (.inl rfl) (by decide +kernel) (by decide +kernel))) (blkOk_by (show blkC N_further (defScope (topS 46)) _ [("kind", 2), ("index", 3), ("place", 4), ("way", 5)] = true by decide +kernel)) (fun _ _ _ _ _ => (g_tup C.blk.calm (g_cons (g_nm C.blk.nd (i := 2) rfl (.inl rfl) (.inr rfl)) (g_cons (g_nm C.blk.nd (i := 3) rfl (.inl rfl) (.inr rfl)) (g_cons (g_nm C.blk.nd (i := 4) rfl (.inl rfl) (.inr rfl)) (g_cons (g_nm C.blk.nd (i := 5) rfl (.inl rfl) (.inr rfl)) g_nil (by rfl)) (by rfl)) (by rfl)) (by rfl)) (by rfl) (by rfl))) (fun _ _ _ _ _ => ts_nil) (fun _ _ _ _ _ => (e_tup (a_one (e_var (i := 2) rfl (.inl rfl) (by decide +kernel) (by decide +kernel)) (a_one (e_if (t_cmp .eq C.blk (e_var (i := 2) rfl (.inl rfl) (by decide +kernel) (by decide +kernel)) (rd (e_glob rfl (con_int G.c_LINE_complete) (by decide +kernel))) (by rfl)) (e_op .add (e_var (i := 3) rfl (.inl rfl) (by decide +kernel) (by decide +kernel)) (rd (e_var (i := 1) rfl (.inr (.inl rfl)) (by decide +kernel) (by decide +kernel)))) (e_var (i := 3) rfl (.inl rfl) (by decide +kernel) (by decide +kernel))) (a_one (e_var (i := 4) rfl (.inl rfl) (by decide +kernel) (by decide +kernel)) (a_one (e_var (i := 5) rfl (.inl rfl) (by decide +kernel) (by decide +kernel)) a_nil (by rfl)) (by rfl)) (by rfl)) (by rfl)))) rfl (by decide) (by decide) (by intro _; rfl))) (by rfl))))
theorem ok_further (G : Md P w base tb K mg) : Callee P w K mg base 1 "further" (SpM K mg tb [false, false] m_further) := by
  obtain ⟨f, fd, hm, F, hb⟩ := G.fn_further
  exact ⟨f, fd, _, hm, F.kp, hb, fn_def (more := []) F sc_further rfl (by decide) (by decide) (by decide) (bd_further G)⟩
abbrev N_lines_further : List Str := ["lines", "many", "one", "other", "row"]
theorem sc_lines_further : FnScope N_lines_further ["lines", "many"] (defScope (topS 47)) := ⟨rfl, rfl, rfl, by decide +kernel, rfl, by decide +kernel, by decide +kernel⟩
theorem bd_lines_further (G : Md P w base tb K mg) : Body P w K mg base tb N_lines_further "lines_further" (defScope (topS 47)) 1 [] 0 (defBody (topS 47)) (fun _ => Rp K) b_lines_further := fun f cdv A outer s H E H0 Z as hp C =>
    (ss_one (s_ret (e_tuple rfl G.b_tuple (rd (e_lc C (w_of (e_var (i := 0) rfl (.inl rfl) (by decide +kernel) (by decide +kernel))) (blkOk_by (show blkC N_lines_further (defScope (topS 47)) _ [("one", 2), ("other", 3), ("row", 4)] = true by decide +kernel)) (fun _ _ _ _ _ => (g_tup C.blk.calm (g_cons (g_nm C.blk.nd (i := 2) rfl (.inl rfl) (.inr rfl)) (g_cons (g_nm C.blk.nd (i := 3) rfl (.inl rfl) (.inr rfl)) (g_cons (g_nm C.blk.nd (i := 4) rfl (.inl rfl) (.inr rfl)) g_nil (by rfl)) (by rfl)) (by rfl)) (by rfl) (by rfl))) (fun _ _ _ _ _ => ts_nil) (fun _ _ _ _ _ => (e_tup (a_one (e_var (i := 2) rfl (.inl rfl) (by decide +kernel) (by decide +kernel)) (a_one (e_var (i := 3) rfl (.inl rfl) (by decide +kernel) (by decide +kernel)) (a_one (e_call C.blk (ok_further G) (by decide) rfl (x_sh (e_var (i := 4) rfl (.inl rfl) (by decide +kernel) (by decide +kernel)) (x_sh (e_var (i := 1) rfl (.inr (.inl rfl)) (by decide +kernel) (by decide +kernel)) x_nil (by rfl)) (by rfl)) (by decide) (by decide +kernel) (by rfl) (by rfl)) a_nil (by rfl)) (by rfl)) (by rfl)))) rfl (by decide) (by decide) (by intro _; rfl))) (by rfl))))
theorem ok_lines_further (G : Md P w base tb K mg) : Callee P w K mg base 2 "lines_further" (SpM K mg tb [false, false] m_lines_further) := by
  obtain ⟨f, fd, hm, F, hb⟩ := G.fn_lines_further
  exact ⟨f, fd, _, hm, F.kp, hb, fn_def (more := []) F sc_lines_further rfl (by decide) (by decide) (by decide) (bd_lines_further G)⟩
abbrev N_joined_papers : List Str := ["first", "second", "many"]
theorem sc_joined_papers : FnScope N_joined_papers ["first", "second"] (defScope (topS 48)) := ⟨rfl, rfl, rfl, by decide +kernel, rfl, by decide +kernel, by decide +kernel⟩
theorem bd_joined_papers (G : Md P w base tb K mg) : Body P w K mg base tb N_joined_papers "joined_papers" (defScope (topS 48)) 3 [] 0 (defBody (topS 48)) (fun _ => Rp K) b_joined_papers := fun f cdv A outer s H E H0 Z as hp C =>
    (ss_cons (s_set C.nd (i := 2) rfl (.inl rfl) (.inr rfl) (by decide) (e_len rfl G.b_len (rd (e_idx (e_var (i := 0) rfl (.inl rfl) (by decide +kernel) (by decide +kernel)) (rd e_int) (by intro _ _; rfl))) (by rfl)) (by rfl))
    (ss_one (s_ret (e_call C (ok_roomy G) (by decide) rfl (x_sh (e_tup (a_star (e_idx (e_var (i := 0) rfl (.inl rfl) (by decide +kernel) (by decide +kernel)) (rd e_int) (by intro _ _; rfl)) (a_star (e_call C (ok_lines_further G) (by decide) rfl (x_sh (e_idx (e_var (i := 1) rfl (.inl rfl) (by decide +kernel) (by decide +kernel)) (rd e_int) (by intro _ _; rfl)) (x_sh (e_var (i := 2) rfl (.inl rfl) (by decide +kernel) (by decide +kernel)) x_nil (by rfl)) (by rfl)) (by decide) (by decide +kernel) (by rfl) (by rfl)) a_nil (by rfl)) (by rfl))) (x_sh (e_tup (a_star (e_idx (e_var (i := 0) rfl (.inl rfl) (by decide +kernel) (by decide +kernel)) (rd e_int) (by intro _ _; rfl)) (a_star (e_call C (ok_further G) (by decide) rfl (x_sh (e_idx (e_var (i := 1) rfl (.inl rfl) (by decide +kernel) (by decide +kernel)) (rd e_int) (by intro _ _; rfl)) (x_sh (e_var (i := 2) rfl (.inl rfl) (by decide +kernel) (by decide +kernel)) x_nil (by rfl)) (by rfl)) (by decide) (by decide +kernel) (by rfl) (by rfl)) a_nil (by rfl)) (by rfl))) x_nil (by rfl)) (by rfl)) (by decide) (by decide +kernel) (by rfl) (by rfl)))))
theorem ok_joined_papers (G : Md P w base tb K mg) : Callee P w K mg base 4 "joined_papers" (SpM K mg tb [false, false] m_joined_papers) := by
  obtain ⟨f, fd, hm, F, hb⟩ := G.fn_joined_papers
  exact ⟨f, fd, _, hm, F.kp, hb, fn_def (more := []) F sc_joined_papers rfl (by decide) (by decide) (by decide) (bd_joined_papers G)⟩
abbrev N_placed_paper : List Str := ["paper", "ahead", "row", "kind", "index", "place", "way"]
theorem sc_placed_paper : FnScope N_placed_paper ["paper", "ahead"] (defScope (topS 49)) := ⟨rfl, rfl, rfl, by decide +kernel, rfl, by decide +kernel, by decide +kernel⟩
theorem bd_placed_paper (G : Md P w base tb K mg) : Body P w K mg base tb N_placed_paper "placed_paper" (defScope (topS 49)) 0 [] 0 (defBody (topS 49)) (fun _ => Rp K) b_placed_paper := fun f cdv A outer s H E H0 Z as hp C =>
    (ss_cons (s_setLc C (i := 2) rfl rfl (sw_true rfl rfl rfl (by rfl)) (by decide) (w_of (e_idx (e_var (i := 0) rfl (.inl rfl) (by decide +kernel) (by decide +kernel)) (rd e_int) (by intro _ _; rfl))) (blkOk_by (show blkC N_placed_paper (defScope (topS 49)) _ [("kind", 3), ("index", 4), ("place", 5), ("way", 6)] = true by decide +kernel)) (fun _ _ _ _ _ => (g_tup C.blk.calm (g_cons (g_nm C.blk.nd (i := 3) rfl (.inl rfl) (.inr rfl)) (g_cons (g_nm C.blk.nd (i := 4) rfl (.inl rfl) (.inr rfl)) (g_cons (g_nm C.blk.nd (i := 5) rfl (.inl rfl) (.inr rfl)) (g_cons (g_nm C.blk.nd (i := 6) rfl (.inl rfl) (.inr rfl)) g_nil (by rfl)) (by rfl)) (by rfl)) (by rfl)) (by rfl) (by rfl))) (fun _ _ _ _ _ => ts_nil) (fun _ _ _ _ _ => (e_tup (a_one (e_var (i := 3) rfl (.inl rfl) (by decide +kernel) (by decide +kernel)) (a_one (e_var (i := 4) rfl (.inl rfl) (by decide +kernel) (by decide +kernel)) (a_one (e_op .add (e_var (i := 5) rfl (.inl rfl) (by decide +kernel) (by decide +kernel)) (rd (e_len rfl G.b_len (rd (e_var (i := 1) rfl (.inr (.inl rfl)) (by decide +kernel) (by decide +kernel))) (by rfl)))) (a_one (e_var (i := 6) rfl (.inl rfl) (by decide +kernel) (by decide +kernel)) a_nil (by rfl)) (by rfl)) (by rfl)) (by rfl)))) rfl (by decide) (by decide) (by intro _; rfl))
    (ss_one (s_ret (e_tup (a_one (e_glob rfl (con_str G.c_ALIKE (by decide +kernel)) (by decide +kernel)) (a_one (e_idx (e_var (i := 0) rfl (.inl rfl) (by decide +kernel) (by decide +kernel)) (rd e_int) (by intro _ _; rfl)) (a_one (e_tuple rfl G.b_tuple (rd (e_var (i := 2) rfl (.inl rfl) (by decide +kernel) (by decide +kernel))) (by rfl)) a_nil (by rfl)) (by rfl)) (by rfl))))))
theorem ok_placed_paper (G : Md P w base tb K mg) : Callee P w K mg base 1 "placed_paper" (SpM K mg tb [false, false] m_placed_paper) := by
  obtain ⟨f, fd, hm, F, hb⟩ := G.fn_placed_paper
  exact ⟨f, fd, _, hm, F.kp, hb, fn_def (more := []) F sc_placed_paper rfl (by decide) (by decide) (by decide) (bd_placed_paper G)⟩
abbrev N_lines_in : List Str := ["row", "kind", "index", "place", "way"]
theorem sc_lines_in : FnScope N_lines_in ["row"] (defScope (topS 50)) := ⟨rfl, rfl, rfl, by decide +kernel, rfl, by decide +kernel, by decide +kernel⟩
theorem bd_lines_in (G : Md P w base tb K mg) : Body P w K mg base tb N_lines_in "lines_in" (defScope (topS 50)) 0 [] 0 (defBody (topS 50)) (fun _ => Rp K) b_lines_in := fun f cdv A outer s H E H0 Z as hp C =>
    (ss_one (s_ret (e_lc C (w_of (e_var (i := 0) rfl (.inl rfl) (by decide +kernel) (by decide +kernel))) (blkOk_by (show blkC N_lines_in (defScope (topS 50)) _ [("kind", 1), ("index", 2), ("place", 3), ("way", 4)] = true by decide +kernel)) (fun _ _ _ _ _ => (g_tup C.blk.calm (g_cons (g_nm C.blk.nd (i := 1) rfl (.inl rfl) (.inr rfl)) (g_cons (g_nm C.blk.nd (i := 2) rfl (.inl rfl) (.inr rfl)) (g_cons (g_nm C.blk.nd (i := 3) rfl (.inl rfl) (.inr rfl)) (g_cons (g_nm C.blk.nd (i := 4) rfl (.inl rfl) (.inr rfl)) g_nil (by rfl)) (by rfl)) (by rfl)) (by rfl)) (by rfl) (by rfl))) (fun _ _ _ _ _ => (ts_one (t_cmp .eq C.blk (e_var (i := 1) rfl (.inl rfl) (by decide +kernel) (by decide +kernel)) (rd (e_glob rfl (con_int G.c_LINE_complete) (by decide +kernel))) (by rfl)))) (fun _ _ _ _ _ => (e_var (i := 2) rfl (.inl rfl) (by decide +kernel) (by decide +kernel))) rfl (by decide) (by decide) (by intro _; rfl))))
theorem ok_lines_in (G : Md P w base tb K mg) : Callee P w K mg base 1 "lines_in" (SpM K mg tb [false] m_lines_in) := by
  obtain ⟨f, fd, hm, F, hb⟩ := G.fn_lines_in
  exact ⟨f, fd, _, hm, F.kp, hb, fn_def (more := []) F sc_lines_in rfl (by decide) (by decide) (by decide) (bd_lines_in G)⟩
abbrev N_needed_lines : List Str := ["lines", "row", "found", "index", "at"]
theorem sc_needed_lines : FnScope N_needed_lines ["lines", "row"] (defScope (topS 51)) := ⟨rfl, rfl, rfl, by decide +kernel, rfl, by decide +kernel, by decide +kernel⟩
theorem bd_needed_lines (G : Md P w base tb K mg) : Body P w K mg base tb N_needed_lines "needed_lines" (defScope (topS 51)) 1 [2] 0 (defBody (topS 51)) (fun _ => Rp K) b_needed_lines := fun f cdv A outer s H E H0 Z as hp C =>
    (ss_cons (s_own (i := 2) C.nd rfl (np_of hp (by decide)) rfl (.inl rfl) (.inr rfl) f_dict0 (by rfl))
    (ss_cons (s_for C (passes_of rfl) (w_of (e_call C (ok_lines_in G) (by decide) rfl (x_sh (e_var (i := 1) rfl (.inl rfl) (by decide +kernel) (by decide +kernel)) x_nil (by rfl)) (by decide) (by decide +kernel) (by rfl) (by rfl))) (g_nm C.nd (i := 3) rfl (.inl rfl) (.inr rfl)) (by decide) (ss_one (s_put (i := 2) C rfl rfl (.inl rfl) e_bl (e_var (i := 3) rfl (.inl rfl) (by decide +kernel) (by decide +kernel)) (by intro _; rfl) (by rfl) (by rfl) (by rfl) (by decide +kernel) (by decide +kernel))) (by intro _; rfl))
    (ss_cons (s_for C (passes_of rfl) (w_down rfl G.b_range (e_op .sub (e_len rfl G.b_len (rd (e_var (i := 0) rfl (.inl rfl) (by decide +kernel) (by decide +kernel))) (by rfl)) (rd e_int)) (e_neg e_int) (by rfl) (by rfl) (by rfl) (by rfl)) (g_nm C.nd (i := 4) rfl (.inl rfl) (.inr rfl)) (by decide) (ss_one (s_if (t_cmp .mem C (e_var (i := 4) rfl (.inl rfl) (by decide +kernel) (by decide +kernel)) (e_own (i := 2) (j := 0) rfl rfl (.inl rfl) (by decide +kernel) (by decide +kernel)) (by rfl)) (ss_one (s_for C (passes_of rfl) (w_of (e_call C (ok_lines_in G) (by decide) rfl (x_sh (e_idx (e_idx (e_var (i := 0) rfl (.inl rfl) (by decide +kernel) (by decide +kernel)) (rd (e_var (i := 4) rfl (.inl rfl) (by decide +kernel) (by decide +kernel))) (by intro _ _; rfl)) (rd e_int) (by intro _ _; rfl)) x_nil (by rfl)) (by decide) (by decide +kernel) (by rfl) (by rfl))) (g_nm C.nd (i := 3) rfl (.inl rfl) (.inr rfl)) (by decide) (ss_one (s_put (i := 2) C rfl rfl (.inl rfl) e_bl (e_var (i := 3) rfl (.inl rfl) (by decide +kernel) (by decide +kernel)) (by intro _; rfl) (by rfl) (by rfl) (by rfl) (by decide +kernel) (by decide +kernel))) (by intro _; rfl))) ss_nil)) (by intro _; rfl))
    (ss_one (s_ret (e_sorted C rfl G.b_sorted (e_own (i := 2) (j := 0) rfl rfl (.inl rfl) (by decide +kernel) (by decide +kernel)) (by rfl)))))))
theorem ok_needed_lines (G : Md P w base tb K mg) : Callee P w K mg base 2 "needed_lines" (SpM K mg tb [false, false] m_needed_lines) := by
  obtain ⟨f, fd, hm, F, hb⟩ := G.fn_needed_lines
  exact ⟨f, fd, _, hm, F.kp, hb, fn_def (more := [2]) F sc_needed_lines rfl (by decide) (by decide) (by decide) (bd_needed_lines G)⟩
abbrev N_renumbered : List Str := ["row", "numbers", "kind", "index", "place", "way"]
theorem sc_renumbered : FnScope N_renumbered ["row", "numbers"] (defScope (topS 52)) := ⟨rfl, rfl, rfl, by decide +kernel, rfl, by decide +kernel, by decide +kernel⟩
theorem bd_renumbered (G : Md P w base tb K mg) : Body P w K mg base tb N_renumbered "renumbered" (defScope (topS 52)) 0 [] 0 (defBody (topS 52)) (fun _ => Rp K) b_renumbered := fun f cdv A outer s H E H0 Z as hp C =>
    (ss_one (s_ret (e_tuple rfl G.b_tuple (rd (e_lc C (w_of (e_var (i := 0) rfl (.inl rfl) (by decide +kernel) (by decide +kernel))) (blkOk_by (show blkC N_renumbered (defScope (topS 52)) _ [("kind", 2), ("index", 3), ("place", 4), ("way", 5)] = true by decide +kernel)) (fun _ _ _ _ _ => (g_tup C.blk.calm (g_cons (g_nm C.blk.nd (i := 2) rfl (.inl rfl) (.inr rfl)) (g_cons (g_nm C.blk.nd (i := 3) rfl (.inl rfl) (.inr rfl)) (g_cons (g_nm C.blk.nd (i := 4) rfl (.inl rfl) (.inr rfl)) (g_cons (g_nm C.blk.nd (i := 5) rfl (.inl rfl) (.inr rfl)) g_nil (by rfl)) (by rfl)) (by rfl)) (by rfl)) (by rfl) (by rfl))) (fun _ _ _ _ _ => ts_nil) (fun _ _ _ _ _ => (e_tup (a_one (e_var (i := 2) rfl (.inl rfl) (by decide +kernel) (by decide +kernel)) (a_one (e_if (t_cmp .eq C.blk (e_var (i := 2) rfl (.inl rfl) (by decide +kernel) (by decide +kernel)) (rd (e_glob rfl (con_int G.c_LINE_complete) (by decide +kernel))) (by rfl)) (e_dget C.blk (e_var (i := 1) rfl (.inr (.inl rfl)) (by decide +kernel) (by decide +kernel)) (rd (e_var (i := 3) rfl (.inl rfl) (by decide +kernel) (by decide +kernel))) (by intro _ _; rfl)) (e_var (i := 3) rfl (.inl rfl) (by decide +kernel) (by decide +kernel))) (a_one (e_var (i := 4) rfl (.inl rfl) (by decide +kernel) (by decide +kernel)) (a_one (e_var (i := 5) rfl (.inl rfl) (by decide +kernel) (by decide +kernel)) a_nil (by rfl)) (by rfl)) (by rfl)) (by rfl)))) rfl (by decide) (by decide) (by intro _; rfl))) (by rfl))))
theorem ok_renumbered (G : Md P w base tb K mg) : Callee P w K mg base 1 "renumbered" (SpM K mg tb [false, false] m_renumbered) := by
  obtain ⟨f, fd, hm, F, hb⟩ := G.fn_renumbered
  exact ⟨f, fd, _, hm, F.kp, hb, fn_def (more := []) F sc_renumbered rfl (by decide) (by decide) (by decide) (bd_renumbered G)⟩
abbrev N_lean_paper : List Str := ["paper", "kept", "numbers", "lines", "index", "at"]
theorem sc_lean_paper : FnScope N_lean_paper ["paper"] (defScope (topS 53)) := ⟨rfl, rfl, rfl, by decide +kernel, rfl, by decide +kernel, by decide +kernel⟩
theorem bd_lean_paper (G : Md P w base tb K mg) : Body P w K mg base tb N_lean_paper "lean_paper" (defScope (topS 53)) 2 [] 0 (defBody (topS 53)) (fun _ => Rp K) b_lean_paper := fun f cdv A outer s H E H0 Z as hp C =>
    (ss_cons (s_set C.nd (i := 1) rfl (.inl rfl) (.inr rfl) (by decide) (e_call C (ok_needed_lines G) (by decide) rfl (x_sh (e_idx (e_var (i := 0) rfl (.inr (.inl rfl)) (by decide +kernel) (by decide +kernel)) (rd e_int) (by intro _ _; rfl)) (x_sh (e_idx (e_var (i := 0) rfl (.inr (.inl rfl)) (by decide +kernel) (by decide +kernel)) (rd e_int) (by intro _ _; rfl)) x_nil (by rfl)) (by rfl)) (by decide) (by decide +kernel) (by rfl) (by rfl)) (by rfl))
    (ss_cons (s_set C.nd (i := 2) rfl (.inr rfl) (.inl rfl) (by decide) (e_dc C (w_enum rfl G.b_enumerate (e_var (i := 1) rfl (.inl rfl) (by decide +kernel) (by decide +kernel)) (by rfl)) (blkOk_by (show blkC N_lean_paper (defScope (topS 53)) _ [("at", 5), ("index", 4)] = true by decide +kernel)) (fun _ _ _ _ _ => (g_tup C.blk.calm (g_cons (g_nm C.blk.nd (i := 5) rfl (.inl rfl) (.inr rfl)) (g_cons (g_nm C.blk.nd (i := 4) rfl (.inl rfl) (.inr rfl)) g_nil (by rfl)) (by rfl)) (by rfl) (by rfl))) (fun _ _ _ _ _ => (e_var (i := 4) rfl (.inl rfl) (by decide +kernel) (by decide +kernel))) (fun _ _ _ _ _ => (e_var (i := 5) rfl (.inl rfl) (by decide +kernel) (by decide +kernel))) rfl (by decide) (by decide) (by intro _; rfl)) (by rfl))
    (ss_cons (s_setLc C (i := 3) rfl rfl (sw_true rfl rfl rfl (by rfl)) (by decide) (w_of (e_var (i := 1) rfl (.inl rfl) (by decide +kernel) (by decide +kernel))) (blkOk_by (show blkC N_lean_paper (defScope (topS 53)) _ [("index", 4)] = true by decide +kernel)) (fun _ _ _ _ _ => (g_nm C.blk.nd (i := 4) rfl (.inl rfl) (.inr rfl))) (fun _ _ _ _ _ => ts_nil) (fun _ _ _ _ _ => (e_tup (a_one (e_idx (e_idx (e_idx (e_var (i := 0) rfl (.inr (.inl rfl)) (by decide +kernel) (by decide +kernel)) (rd e_int) (by intro _ _; rfl)) (rd (e_var (i := 4) rfl (.inl rfl) (by decide +kernel) (by decide +kernel))) (by intro _ _; rfl)) (rd e_int) (by intro _ _; rfl)) (a_one (e_idx (e_idx (e_idx (e_var (i := 0) rfl (.inr (.inl rfl)) (by decide +kernel) (by decide +kernel)) (rd e_int) (by intro _ _; rfl)) (rd (e_var (i := 4) rfl (.inl rfl) (by decide +kernel) (by decide +kernel))) (by intro _ _; rfl)) (rd e_int) (by intro _ _; rfl)) (a_one (e_call C.blk (ok_renumbered G) (by decide) rfl (x_sh (e_idx (e_idx (e_idx (e_var (i := 0) rfl (.inr (.inl rfl)) (by decide +kernel) (by decide +kernel)) (rd e_int) (by intro _ _; rfl)) (rd (e_var (i := 4) rfl (.inl rfl) (by decide +kernel) (by decide +kernel))) (by intro _ _; rfl)) (rd e_int) (by intro _ _; rfl)) (x_sh (e_var (i := 2) rfl (.inr (.inl rfl)) (by decide +kernel) (by decide +kernel)) x_nil (by rfl)) (by rfl)) (by decide) (by decide +kernel) (by rfl) (by rfl)) a_nil (by rfl)) (by rfl)) (by rfl)))) rfl (by decide) (by decide) (by intro _; rfl))
    (ss_one (s_ret (e_tup (a_one (e_glob rfl (con_str G.c_ALIKE (by decide +kernel)) (by decide +kernel)) (a_one (e_tuple rfl G.b_tuple (rd (e_var (i := 3) rfl (.inl rfl) (by decide +kernel) (by decide +kernel))) (by rfl)) (a_one (e_call C (ok_renumbered G) (by decide) rfl (x_sh (e_idx (e_var (i := 0) rfl (.inr (.inl rfl)) (by decide +kernel) (by decide +kernel)) (rd e_int) (by intro _ _; rfl)) (x_sh (e_var (i := 2) rfl (.inr (.inl rfl)) (by decide +kernel) (by decide +kernel)) x_nil (by rfl)) (by rfl)) (by decide) (by decide +kernel) (by rfl) (by rfl)) a_nil (by rfl)) (by rfl)) (by rfl))))))))
theorem ok_lean_paper (G : Md P w base tb K mg) : Callee P w K mg base 3 "lean_paper" (SpM K mg tb [false] m_lean_paper) := by
  obtain ⟨f, fd, hm, F, hb⟩ := G.fn_lean_paper
  exact ⟨f, fd, _, hm, F.kp, hb, fn_def (more := []) F sc_lean_paper rfl (by decide) (by decide) (by decide) (bd_lean_paper G)⟩
abbrev N_step_paper : List Str := ["steps", "index", "place", "way"]
theorem sc_step_paper : FnScope N_step_paper ["steps"] (defScope (topS 54)) := ⟨rfl, rfl, rfl, by decide +kernel, rfl, by decide +kernel, by decide +kernel⟩
theorem bd_step_paper (G : Md P w base tb K mg) : Body P w K mg base tb N_step_paper "step_paper" (defScope (topS 54)) 0 [] 0 (defBody (topS 54)) (fun _ => Rp K) b_step_paper := fun f cdv A outer s H E H0 Z as hp C =>
    (ss_one (s_ret (e_tup (a_one (e_glob rfl (con_str G.c_ALIKE (by decide +kernel)) (by decide +kernel)) (a_one (e_tup a_nil) (a_one (e_tuple rfl G.b_tuple (rd (e_lc C (w_of (e_var (i := 0) rfl (.inl rfl) (by decide +kernel) (by decide +kernel))) (blkOk_by (show blkC N_step_paper (defScope (topS 54)) _ [("index", 1), ("place", 2), ("way", 3)] = true by decide +kernel)) (fun _ _ _ _ _ => (g_tup C.blk.calm (g_cons (g_nm C.blk.nd (i := 1) rfl (.inl rfl) (.inr rfl)) (g_cons (g_nm C.blk.nd (i := 2) rfl (.inl rfl) (.inr rfl)) (g_cons (g_nm C.blk.nd (i := 3) rfl (.inl rfl) (.inr rfl)) g_nil (by rfl)) (by rfl)) (by rfl)) (by rfl) (by rfl))) (fun _ _ _ _ _ => ts_nil) (fun _ _ _ _ _ => (e_tup (a_one (e_glob rfl (con_int G.c_LAW_complete) (by decide +kernel)) (a_one (e_var (i := 1) rfl (.inl rfl) (by decide +kernel) (by decide +kernel)) (a_one (e_var (i := 2) rfl (.inl rfl) (by decide +kernel) (by decide +kernel)) (a_one (e_var (i := 3) rfl (.inl rfl) (by decide +kernel) (by decide +kernel)) a_nil (by rfl)) (by rfl)) (by rfl)) (by rfl)))) rfl (by decide) (by decide) (by intro _; rfl))) (by rfl)) a_nil (by rfl)) (by rfl)) (by rfl)))))
theorem ok_step_paper (G : Md P w base tb K mg) : Callee P w K mg base 1 "step_paper" (SpM K mg tb [false] m_step_paper) := by
  obtain ⟨f, fd, hm, F, hb⟩ := G.fn_step_paper
  exact ⟨f, fd, _, hm, F.kp, hb, fn_def (more := []) F sc_step_paper rfl (by decide) (by decide) (by decide) (bd_step_paper G)⟩
abbrev N__law_take : List Str := ["bag", "many", "begin", "second", "cell", "stirred", "value"]
theorem sc__law_take : FnScope N__law_take ["bag", "many"] (defScope (topS 57)) := ⟨rfl, rfl, rfl, by decide +kernel, rfl, by decide +kernel, by decide +kernel⟩
theorem bd__law_take (G : Md P w base tb K mg) : Body P w K mg base tb N__law_take "_law_take" (defScope (topS 57)) 0 [0] 1 (defBody (topS 57)) (fun _ => Rp K) b__law_take := fun f cdv A outer s H E H0 Z as hp C =>
    (ss_cons (s_if (t_cmp .eq C (e_idxO (i := 0) rfl rfl (.inl rfl) (rd e_int) (by intro _ _; rfl) (by decide +kernel) (by decide +kernel)) (rd e_int) (by rfl)) (ss_cons (s_set C.nd (i := 4) rfl (.inl rfl) (.inr rfl) (by decide) (e_idx (e_op .add (e_sl (e_idxO (i := 0) rfl rfl (.inl rfl) (rd e_int) (by intro _ _; rfl) (by decide +kernel) (by decide +kernel)) (o_some (e_idxO (i := 0) rfl rfl (.inl rfl) (rd e_int) (by intro _ _; rfl) (by decide +kernel) (by decide +kernel))) o_none) (rd (e_lst (a_one e_int a_nil (by rfl))))) (rd e_int) (by intro _ _; rfl)) (by rfl))
    (ss_cons (s_augI C (i := 0) aug_add ip_add rfl rfl (.inl rfl) e_int e_int (by intros; rfl) (by decide +kernel) (by decide +kernel))
    (ss_cons (s_if (t_cmp .ge C (e_var (i := 4) rfl (.inl rfl) (by decide +kernel) (by decide +kernel)) (rd (e_op .pow e_int (rd e_int))) (by rfl)) (ss_one (s_put (i := 0) C rfl rfl (.inl rfl) (e_var (i := 4) rfl (.inl rfl) (by decide +kernel) (by decide +kernel)) e_int (by intro _; rfl) (by rfl) (by rfl) (by rfl) (by decide +kernel) (by decide +kernel))) ss_nil)
    (ss_cons (s_set C.nd (i := 5) rfl (.inl rfl) (.inr rfl) (by decide) (e_op .add (e_op .add (e_op .mul (e_idxO (i := 0) rfl rfl (.inl rfl) (rd e_int) (by intro _ _; rfl) (by decide +kernel) (by decide +kernel)) (rd e_int)) (rd (e_op .mod (e_intc rfl G.b_int (rd (e_var (i := 4) rfl (.inl rfl) (by decide +kernel) (by decide +kernel))) (by rfl)) (rd e_int)))) (rd (e_op .mul e_int (rd (e_idxO (i := 0) rfl rfl (.inl rfl) (rd e_int) (by intro _ _; rfl) (by decide +kernel) (by decide +kernel)))))) (by rfl))
    (ss_one (s_put (i := 0) C rfl rfl (.inl rfl) (e_op .mod (e_intc rfl G.b_int (rd (e_var (i := 5) rfl (.inl rfl) (by decide +kernel) (by decide +kernel))) (by rfl)) (rd e_int)) e_int (by intro _; rfl) (by rfl) (by rfl) (by rfl) (by decide +kernel) (by decide +kernel))))))) ss_nil)
    (ss_cons (s_if (t_cmp .gt C (e_idxO (i := 0) rfl rfl (.inl rfl) (rd e_int) (by intro _ _; rfl) (by decide +kernel) (by decide +kernel)) (rd e_int) (by rfl)) (ss_cons (s_set C.nd (i := 6) rfl (.inl rfl) (.inr rfl) (by decide) (e_op .mod (e_intc rfl G.b_int (rd (e_idxO (i := 0) rfl rfl (.inl rfl) (rd e_int) (by intro _ _; rfl) (by decide +kernel) (by decide +kernel))) (by rfl)) (rd (e_var (i := 1) rfl (.inl rfl) (by decide +kernel) (by decide +kernel)))) (by rfl))
    (ss_cons (s_put (i := 0) C rfl rfl (.inl rfl) (e_op .fdiv (e_intc rfl G.b_int (rd (e_idxO (i := 0) rfl rfl (.inl rfl) (rd e_int) (by intro _ _; rfl) (by decide +kernel) (by decide +kernel))) (by rfl)) (rd (e_var (i := 1) rfl (.inl rfl) (by decide +kernel) (by decide +kernel)))) e_int (by intro _; rfl) (by rfl) (by rfl) (by rfl) (by decide +kernel) (by decide +kernel))
    (ss_one (s_ret (e_var (i := 6) rfl (.inl rfl) (by decide +kernel) (by decide +kernel)))))) ss_nil)
    (ss_cons (s_set C.nd (i := 2) rfl (.inl rfl) (.inr rfl) (by decide) (e_op .mod (e_intc rfl G.b_int (rd (e_op .mul (e_op .add (e_idxO (i := 0) rfl rfl (.inl rfl) (rd e_int) (by intro _ _; rfl) (by decide +kernel) (by decide +kernel)) (rd e_int)) (rd e_int))) (by rfl)) (rd e_int)) (by rfl))
    (ss_cons (s_set C.nd (i := 3) rfl (.inl rfl) (.inr rfl) (by decide) (e_op .mod (e_intc rfl G.b_int (rd (e_op .mul (e_op .mod (e_intc rfl G.b_int (rd (e_op .mul (e_var (i := 2) rfl (.inl rfl) (by decide +kernel) (by decide +kernel)) (rd (e_var (i := 2) rfl (.inl rfl) (by decide +kernel) (by decide +kernel))))) (by rfl)) (rd e_int)) (rd e_int))) (by rfl)) (rd e_int)) (by rfl))
    (ss_one (s_ret (e_op .mod (e_intc rfl G.b_int (rd (e_op .fdiv (e_var (i := 3) rfl (.inl rfl) (by decide +kernel) (by decide +kernel)) (rd e_int))) (by rfl)) (rd (e_var (i := 1) rfl (.inl rfl) (by decide +kernel) (by decide +kernel))))))))))
theorem ok__law_take (G : Md P w base tb K mg) : Callee P w K mg base 1 "_law_take" (SpM K mg tb [true, false] m__law_take) := by
  obtain ⟨f, fd, hm, F, hb⟩ := G.fn__law_take
  exact ⟨f, fd, _, hm, F.kp, hb, fn_def (more := []) F sc__law_take rfl (by decide) (by decide) (by decide) (bd__law_take G)⟩
abbrev N__law_some : List Str := ["bag", "things"]
theorem sc__law_some : FnScope N__law_some ["bag", "things"] (defScope (topS 58)) := ⟨rfl, rfl, rfl, by decide +kernel, rfl, by decide +kernel, by decide +kernel⟩
theorem bd__law_some (G : Md P w base tb K mg) : Body P w K mg base tb N__law_some "_law_some" (defScope (topS 58)) 1 [0] 1 (defBody (topS 58)) (fun _ => Rp K) b__law_some := fun f cdv A outer s H E H0 Z as hp C =>
    (ss_one (s_ret (e_idx (e_var (i := 1) rfl (.inl rfl) (by decide +kernel) (by decide +kernel)) (rd (e_call C (ok__law_take G) (by decide) rfl (x_ow (i := 0) (j := 0) rfl rfl (.inl rfl) (x_sh (e_len rfl G.b_len (rd (e_var (i := 1) rfl (.inl rfl) (by decide +kernel) (by decide +kernel))) (by rfl)) x_nil (by rfl)) (by rfl) (by decide +kernel) (by decide +kernel)) (by decide) (by decide +kernel) (by rfl) (by rfl))) (by intro _ _; rfl))))
theorem ok__law_some (G : Md P w base tb K mg) : Callee P w K mg base 2 "_law_some" (SpM K mg tb [true, false] m__law_some) := by
  obtain ⟨f, fd, hm, F, hb⟩ := G.fn__law_some
  exact ⟨f, fd, _, hm, F.kp, hb, fn_def (more := []) F sc__law_some rfl (by decide) (by decide) (by decide) (bd__law_some G)⟩
abbrev N__law_mixed : List Str := ["bag", "things", "found", "thing"]
theorem sc__law_mixed : FnScope N__law_mixed ["bag", "things"] (defScope (topS 59)) := ⟨rfl, rfl, rfl, by decide +kernel, rfl, by decide +kernel, by decide +kernel⟩
theorem bd__law_mixed (G : Md P w base tb K mg) : Body P w K mg base tb N__law_mixed "_law_mixed" (defScope (topS 59)) 1 [0, 2] 1 (defBody (topS 59)) (fun _ => Rp K) b__law_mixed := fun f cdv A outer s H E H0 Z as hp C =>
    (ss_cons (s_own (i := 2) C.nd rfl (np_of hp (by decide)) rfl (.inl rfl) (.inr rfl) (f_lst a_nil) (by rfl))
    (ss_cons (s_for C (passes_of rfl) (w_of (e_var (i := 1) rfl (.inl rfl) (by decide +kernel) (by decide +kernel))) (g_nm C.nd (i := 3) rfl (.inl rfl) (.inr rfl)) (by decide) (ss_one (s_mut (i := 2) mu_insert PySem.F.slot_list_insert PySem.F.type_list_insert mt_insert rfl rfl (.inl rfl) (a_one (e_call C (ok__law_take G) (by decide) rfl (x_ow (i := 0) (j := 0) rfl rfl (.inl rfl) (x_sh (e_op .add (e_len rfl G.b_len (e_own (i := 2) (j := 1) rfl rfl (.inl rfl) (by decide +kernel) (by decide +kernel)) (by rfl)) (rd e_int)) x_nil (by rfl)) (by rfl) (by decide +kernel) (by decide +kernel)) (by decide) (by decide +kernel) (by rfl) (by rfl)) (a_one (e_var (i := 3) rfl (.inl rfl) (by decide +kernel) (by decide +kernel)) a_nil (by rfl)) (by rfl)) (by rfl) (by rfl) (by rfl) (by rfl) (by rfl) (by rfl) (by decide +kernel) (by decide +kernel))) (by intro _; rfl))
    (ss_one (s_ret (e_give (i := 2) (j := 1) rfl (np_of hp (by decide)) rfl (.inl rfl) (by decide +kernel) (by decide +kernel))))))
theorem ok__law_mixed (G : Md P w base tb K mg) : Callee P w K mg base 2 "_law_mixed" (SpM K mg tb [true, false] m__law_mixed) := by
  obtain ⟨f, fd, hm, F, hb⟩ := G.fn__law_mixed
  exact ⟨f, fd, _, hm, F.kp, hb, fn_def (more := [2]) F sc__law_mixed rfl (by decide) (by decide) (by decide) (bd__law_mixed G)⟩
abbrev N__law_alike : List Str := ["found", "due", "pairs", "at", "one", "other"]
theorem sc__law_alike : FnScope N__law_alike ["found", "due"] (defScope (topS 60)) := ⟨rfl, rfl, rfl, by decide +kernel, rfl, by decide +kernel, by decide +kernel⟩
theorem bd__law_alike (G : Md P w base tb K mg) : Body P w K mg base tb N__law_alike "_law_alike" (defScope (topS 60)) 0 [2] 0 (defBody (topS 60)) (fun _ => Rp K) b__law_alike := fun f cdv A outer s H E H0 Z as hp C =>
    (ss_cons (s_par2 (q := (.fr 0 (eLst [.one (eTup [.one (eVar 0), .one (eVar 1)])]))) (r := (.sh 3 (eC (.int 0)))) C (i := 2) (j := 3) rfl rfl (by decide) rfl rfl ⟨rfl, np_of hp (by decide)⟩ ⟨rfl, by decide⟩ (f_lst (a_one (e_tup (a_one (e_var (i := 0) rfl (.inl rfl) (by decide +kernel) (by decide +kernel)) (a_one (e_var (i := 1) rfl (.inl rfl) (by decide +kernel) (by decide +kernel)) a_nil (by rfl)) (by rfl))) a_nil (by rfl))) e_int (by rfl) (by rfl) (by rfl) (by rfl))
    (ss_cons (s_while (passes_of rfl) (t_cmp .lt C (e_var (i := 3) rfl (.inl rfl) (by decide +kernel) (by decide +kernel)) (rd (e_len rfl G.b_len (e_own (i := 2) (j := 0) rfl rfl (.inl rfl) (by decide +kernel) (by decide +kernel)) (by rfl))) (by rfl)) (ss_cons (s_tup (g_tup C.calm (g_cons (g_nm C.nd (i := 4) rfl (.inl rfl) (.inr rfl)) (g_cons (g_nm C.nd (i := 5) rfl (.inl rfl) (.inr rfl)) g_nil (by rfl)) (by rfl)) (by rfl) (by rfl)) (by decide) (e_idxO (i := 2) rfl rfl (.inl rfl) (rd (e_var (i := 3) rfl (.inl rfl) (by decide +kernel) (by decide +kernel))) (by intro _ _; rfl) (by decide +kernel) (by decide +kernel)) (by rfl) (by rfl) (by rfl))
    (ss_cons (s_aug aug_add ip_add C.nd (i := 3) rfl (.inl rfl) (.inr rfl) (by decide) e_int)
    (ss_cons (s_if (PW.pt (t_or (t_cmp .ne C (e_isi .bool rfl G.b_isinstance rfl G.b_bool (rd (e_var (i := 4) rfl (.inl rfl) (by decide +kernel) (by decide +kernel))) (by rfl)) (rd (e_isi .bool rfl G.b_isinstance rfl G.b_bool (rd (e_var (i := 5) rfl (.inl rfl) (by decide +kernel) (by decide +kernel))) (by rfl))) (by rfl)) (t_or1 (t_cmp .ne C (e_isi .str rfl G.b_isinstance rfl G.b_str (rd (e_var (i := 4) rfl (.inl rfl) (by decide +kernel) (by decide +kernel))) (by rfl)) (rd (e_isi .str rfl G.b_isinstance rfl G.b_str (rd (e_var (i := 5) rfl (.inl rfl) (by decide +kernel) (by decide +kernel))) (by rfl))) (by rfl))))) (ss_one (s_ret e_bl)) ss_nil)
    (ss_cons (s_if (t_cmp .ne C (e_isi2 .tuple .list rfl G.b_isinstance rfl G.b_tuple rfl G.b_list (rd (e_var (i := 4) rfl (.inl rfl) (by decide +kernel) (by decide +kernel))) (by rfl)) (rd (e_isi2 .tuple .list rfl G.b_isinstance rfl G.b_tuple rfl G.b_list (rd (e_var (i := 5) rfl (.inl rfl) (by decide +kernel) (by decide +kernel))) (by rfl))) (by rfl)) (ss_one (s_ret e_bl)) ss_nil)
    (ss_one (s_if (t_tru (rd (e_isi2 .tuple .list rfl G.b_isinstance rfl G.b_tuple rfl G.b_list (rd (e_var (i := 4) rfl (.inl rfl) (by decide +kernel) (by decide +kernel))) (by rfl))) (by intro _; rfl)) (ss_cons (s_if (PW.pt (t_or (t_cmp .ne C (e_isi .tuple rfl G.b_isinstance rfl G.b_tuple (rd (e_var (i := 4) rfl (.inl rfl) (by decide +kernel) (by decide +kernel))) (by rfl)) (rd (e_isi .tuple rfl G.b_isinstance rfl G.b_tuple (rd (e_var (i := 5) rfl (.inl rfl) (by decide +kernel) (by decide +kernel))) (by rfl))) (by rfl)) (t_or1 (t_cmp .ne C (e_len rfl G.b_len (rd (e_var (i := 4) rfl (.inl rfl) (by decide +kernel) (by decide +kernel))) (by rfl)) (rd (e_len rfl G.b_len (rd (e_var (i := 5) rfl (.inl rfl) (by decide +kernel) (by decide +kernel))) (by rfl))) (by rfl))))) (ss_one (s_ret e_bl)) ss_nil)
    (ss_one (s_mut (i := 2) mu_extend PySem.F.slot_list_extend PySem.F.type_list_extend mt_extend rfl rfl (.inl rfl) (a_one (e_lzip C rfl G.b_list rfl G.b_zip (e_var (i := 4) rfl (.inl rfl) (by decide +kernel) (by decide +kernel)) (e_var (i := 5) rfl (.inl rfl) (by decide +kernel) (by decide +kernel)) (by rfl) (by rfl) (by rfl) (by rfl)) a_nil (by rfl)) (by rfl) (by rfl) (by rfl) (by rfl) (by rfl) (by rfl) (by decide +kernel) (by decide +kernel)))) (ss_one (s_if (t_cmp .ne C (e_var (i := 4) rfl (.inl rfl) (by decide +kernel) (by decide +kernel)) (rd (e_var (i := 5) rfl (.inl rfl) (by decide +kernel) (by decide +kernel))) (by rfl)) (ss_one (s_ret e_bl)) ss_nil)))))))))
    (ss_one (s_ret e_bl))))
theorem ok__law_alike (G : Md P w base tb K mg) : Callee P w K mg base 1 "_law_alike" (SpM K mg tb [false, false] m__law_alike) := by
  obtain ⟨f, fd, hm, F, hb⟩ := G.fn__law_alike
  exact ⟨f, fd, _, hm, F.kp, hb, fn_def (more := [2]) F sc__law_alike rfl (by decide) (by decide) (by decide) (bd__law_alike G)⟩
abbrev N__law_is_int : List Str := ["thing"]
theorem sc__law_is_int : FnScope N__law_is_int ["thing"] (defScope (topS 61)) := ⟨rfl, rfl, rfl, by decide +kernel, rfl, by decide +kernel, by decide +kernel⟩
theorem bd__law_is_int (G : Md P w base tb K mg) : Body P w K mg base tb N__law_is_int "_law_is_int" (defScope (topS 61)) 0 [] 0 (defBody (topS 61)) (fun _ => Rp K) b__law_is_int := fun f cdv A outer s H E H0 Z as hp C =>
    (ss_one (s_ret (e_and (e_isi .int rfl G.b_isinstance rfl G.b_int (rd (e_var (i := 0) rfl (.inl rfl) (by decide +kernel) (by decide +kernel))) (by rfl)) (e_one (e_not (rd (e_isi .bool rfl G.b_isinstance rfl G.b_bool (rd (e_var (i := 0) rfl (.inl rfl) (by decide +kernel) (by decide +kernel))) (by rfl))))))))
theorem ok__law_is_int (G : Md P w base tb K mg) : Callee P w K mg base 1 "_law_is_int" (SpM K mg tb [false] m__law_is_int) := by
  obtain ⟨f, fd, hm, F, hb⟩ := G.fn__law_is_int
  exact ⟨f, fd, _, hm, F.kp, hb, fn_def (more := []) F sc__law_is_int rfl (by decide) (by decide) (by decide) (bd__law_is_int G)⟩
abbrev N__law_order : List Str := ["word"]
theorem sc__law_order : FnScope N__law_order ["word"] (defScope (topS 63)) := ⟨rfl, rfl, rfl, by decide +kernel, rfl, by decide +kernel, by decide +kernel⟩
theorem bd__law_order (G : Md P w base tb K mg) : Body P w K mg base tb N__law_order "_law_order" (defScope (topS 63)) 0 [] 0 (defBody (topS 63)) (fun _ => Rp K) b__law_order := fun f cdv A outer s H E H0 Z as hp C =>
    (ss_one (s_ret (e_tup (a_one (e_len rfl G.b_len (rd (e_var (i := 0) rfl (.inl rfl) (by decide +kernel) (by decide +kernel))) (by rfl)) (a_one (e_var (i := 0) rfl (.inl rfl) (by decide +kernel) (by decide +kernel)) a_nil (by rfl)) (by rfl)))))
theorem ok__law_order (G : Md P w base tb K mg) : Callee P w K mg base 1 "_law_order" (SpM K mg tb [false] m__law_order) := by
  obtain ⟨f, fd, hm, F, hb⟩ := G.fn__law_order
  exact ⟨f, fd, _, hm, F.kp, hb, fn_def (more := []) F sc__law_order rfl (by decide) (by decide) (by decide) (bd__law_order G)⟩
abbrev N__law_less : List Str := ["one", "other"]
theorem sc__law_less : FnScope N__law_less ["one", "other"] (defScope (topS 64)) := ⟨rfl, rfl, rfl, by decide +kernel, rfl, by decide +kernel, by decide +kernel⟩
theorem bd__law_less (G : Md P w base tb K mg) : Body P w K mg base tb N__law_less "_law_less" (defScope (topS 64)) 1 [] 0 (defBody (topS 64)) (fun _ => Rp K) b__law_less := fun f cdv A outer s H E H0 Z as hp C =>
    (ss_one (s_ret (e_cmp .lt C (e_call C (ok__law_order G) (by decide) rfl (x_sh (e_var (i := 0) rfl (.inl rfl) (by decide +kernel) (by decide +kernel)) x_nil (by rfl)) (by decide) (by decide +kernel) (by rfl) (by rfl)) (rd (e_call C (ok__law_order G) (by decide) rfl (x_sh (e_var (i := 1) rfl (.inl rfl) (by decide +kernel) (by decide +kernel)) x_nil (by rfl)) (by decide) (by decide +kernel) (by rfl) (by rfl))) (by rfl))))
theorem ok__law_less (G : Md P w base tb K mg) : Callee P w K mg base 2 "_law_less" (SpM K mg tb [false, false] m__law_less) := by
  obtain ⟨f, fd, hm, F, hb⟩ := G.fn__law_less
  exact ⟨f, fd, _, hm, F.kp, hb, fn_def (more := []) F sc__law_less rfl (by decide) (by decide) (by decide) (bd__law_less G)⟩
abbrev N__law_letters : List Str := ["bag"]
theorem sc__law_letters : FnScope N__law_letters ["bag"] (defScope (topS 65)) := ⟨rfl, rfl, rfl, by decide +kernel, rfl, by decide +kernel, by decide +kernel⟩
theorem bd__law_letters (G : Md P w base tb K mg) : Body P w K mg base tb N__law_letters "_law_letters" (defScope (topS 65)) 2 [0] 1 (defBody (topS 65)) (fun _ => Rp K) b__law_letters := fun f cdv A outer s H E H0 Z as hp C =>
    (ss_one (s_ret (e_join (e_str (by decide +kernel)) (e_sorted C rfl G.b_sorted (rd (e_sl (e_call C (ok__law_mixed G) (by decide) rfl (x_ow (i := 0) (j := 0) rfl rfl (.inl rfl) (x_sh (e_str (by decide +kernel)) x_nil (by rfl)) (by rfl) (by decide +kernel) (by decide +kernel)) (by decide) (by decide +kernel) (by rfl) (by rfl)) o_none (o_some (e_call C (ok__law_some G) (by decide) rfl (x_ow (i := 0) (j := 0) rfl rfl (.inl rfl) (x_sh (e_lst (a_one e_int (a_one e_int (a_one e_int (a_one e_int (a_one e_int (a_one e_int (a_one e_int a_nil (by rfl)) (by rfl)) (by rfl)) (by rfl)) (by rfl)) (by rfl)) (by rfl))) x_nil (by rfl)) (by rfl) (by decide +kernel) (by decide +kernel)) (by decide) (by decide +kernel) (by rfl) (by rfl))))) (by rfl)) (by rfl) (by rfl) (by rfl))))
theorem ok__law_letters (G : Md P w base tb K mg) : Callee P w K mg base 3 "_law_letters" (SpM K mg tb [true] m__law_letters) := by
  obtain ⟨f, fd, hm, F, hb⟩ := G.fn__law_letters
  exact ⟨f, fd, _, hm, F.kp, hb, fn_def (more := []) F sc__law_letters rfl (by decide) (by decide) (by decide) (bd__law_letters G)⟩
abbrev N__law_word : List Str := ["bag", "letters", "most", "found", "turn", "again"]
theorem sc__law_word : FnScope N__law_word ["bag", "letters", "most"] (defScope (topS 66)) := ⟨rfl, rfl, rfl, by decide +kernel, rfl, by decide +kernel, by decide +kernel⟩
theorem bd__law_word (G : Md P w base tb K mg) : Body P w K mg base tb N__law_word "_law_word" (defScope (topS 66)) 2 [0] 1 (defBody (topS 66)) (fun _ => Rp K) b__law_word := fun f cdv A outer s H E H0 Z as hp C =>
    (ss_cons (s_set C.nd (i := 3) rfl (.inl rfl) (.inr rfl) (by decide) (e_str (by decide +kernel)) (by rfl))
    (ss_cons (s_for C (passes_of rfl) (w_range1 rfl G.b_range (e_call C (ok__law_take G) (by decide) rfl (x_ow (i := 0) (j := 0) rfl rfl (.inl rfl) (x_sh (e_op .add (e_var (i := 2) rfl (.inl rfl) (by decide +kernel) (by decide +kernel)) (rd e_int)) x_nil (by rfl)) (by rfl) (by decide +kernel) (by decide +kernel)) (by decide) (by decide +kernel) (by rfl) (by rfl)) (by rfl)) (g_nm C.nd (i := 4) rfl (.inl rfl) (.inr rfl)) (by decide) (ss_cons (s_set C.nd (i := 5) rfl (.inl rfl) (.inr rfl) (by decide) (e_if (PW.pt (t_and (t_cmp .ne C (e_var (i := 3) rfl (.inl rfl) (by decide +kernel) (by decide +kernel)) (rd (e_str (by decide +kernel))) (by rfl)) (t_and1 (t_cmp .eq C (e_call C (ok__law_take G) (by decide) rfl (x_ow (i := 0) (j := 0) rfl rfl (.inl rfl) (x_sh e_int x_nil (by rfl)) (by rfl) (by decide +kernel) (by decide +kernel)) (by decide) (by decide +kernel) (by rfl) (by rfl)) (rd e_int) (by rfl))))) (e_idx (e_var (i := 3) rfl (.inl rfl) (by decide +kernel) (by decide +kernel)) (rd (e_neg e_int)) (by intro _ _; rfl)) (e_call C (ok__law_some G) (by decide) rfl (x_ow (i := 0) (j := 0) rfl rfl (.inl rfl) (x_sh (e_var (i := 1) rfl (.inl rfl) (by decide +kernel) (by decide +kernel)) x_nil (by rfl)) (by rfl) (by decide +kernel) (by decide +kernel)) (by decide) (by decide +kernel) (by rfl) (by rfl))) (by rfl))
    (ss_one (s_set C.nd (i := 3) rfl (.inl rfl) (.inr rfl) (by decide) (e_op .add (e_var (i := 3) rfl (.inl rfl) (by decide +kernel) (by decide +kernel)) (rd (e_var (i := 5) rfl (.inl rfl) (by decide +kernel) (by decide +kernel)))) (by rfl)))) (by intro _; rfl))
    (ss_one (s_ret (e_var (i := 3) rfl (.inl rfl) (by decide +kernel) (by decide +kernel))))))
theorem ok__law_word (G : Md P w base tb K mg) : Callee P w K mg base 3 "_law_word" (SpM K mg tb [true, false, false] m__law_word) := by
  obtain ⟨f, fd, hm, F, hb⟩ := G.fn__law_word
  exact ⟨f, fd, _, hm, F.kp, hb, fn_def (more := []) F sc__law_word rfl (by decide) (by decide) (by decide) (bd__law_word G)⟩
abbrev N__law_pair : List Str := ["bag", "letters", "most", "one", "other"]
theorem sc__law_pair : FnScope N__law_pair ["bag", "letters", "most"] (defScope (topS 67)) := ⟨rfl, rfl, rfl, by decide +kernel, rfl, by decide +kernel, by decide +kernel⟩
theorem bd__law_pair (G : Md P w base tb K mg) : Body P w K mg base tb N__law_pair "_law_pair" (defScope (topS 67)) 3 [0] 1 (defBody (topS 67)) (fun _ => Rp K) b__law_pair := fun f cdv A outer s H E H0 Z as hp C =>
    (ss_cons (s_par2 (q := (.sh 3 (eCall m__law_word [.ow 0, .sh (eVar 1), .sh (eVar 2)]))) (r := (.sh 4 (eCall m__law_word [.ow 0, .sh (eVar 1), .sh (eVar 2)]))) C (i := 3) (j := 4) rfl rfl (by decide) rfl rfl ⟨rfl, by decide⟩ ⟨rfl, by decide⟩ (e_call C (ok__law_word G) (by decide) rfl (x_ow (i := 0) (j := 0) rfl rfl (.inl rfl) (x_sh (e_var (i := 1) rfl (.inl rfl) (by decide +kernel) (by decide +kernel)) (x_sh (e_var (i := 2) rfl (.inl rfl) (by decide +kernel) (by decide +kernel)) x_nil (by rfl)) (by rfl)) (by rfl) (by decide +kernel) (by decide +kernel)) (by decide) (by decide +kernel) (by rfl) (by rfl)) (e_call C (ok__law_word G) (by decide) rfl (x_ow (i := 0) (j := 0) rfl rfl (.inl rfl) (x_sh (e_var (i := 1) rfl (.inl rfl) (by decide +kernel) (by decide +kernel)) (x_sh (e_var (i := 2) rfl (.inl rfl) (by decide +kernel) (by decide +kernel)) x_nil (by rfl)) (by rfl)) (by rfl) (by decide +kernel) (by decide +kernel)) (by decide) (by decide +kernel) (by rfl) (by rfl)) (by rfl) (by rfl) (by rfl) (by rfl))
    (ss_cons (s_if (t_cmp .eq C (e_var (i := 3) rfl (.inl rfl) (by decide +kernel) (by decide +kernel)) (rd (e_var (i := 4) rfl (.inl rfl) (by decide +kernel) (by decide +kernel))) (by rfl)) (ss_one (s_set C.nd (i := 3) rfl (.inl rfl) (.inr rfl) (by decide) (e_op .add (e_var (i := 3) rfl (.inl rfl) (by decide +kernel) (by decide +kernel)) (rd (e_idx (e_var (i := 1) rfl (.inl rfl) (by decide +kernel) (by decide +kernel)) (rd e_int) (by intro _ _; rfl)))) (by rfl))) ss_nil)
    (ss_one (s_ret (e_if (t_tru (rd (e_call C (ok__law_less G) (by decide) rfl (x_sh (e_var (i := 4) rfl (.inl rfl) (by decide +kernel) (by decide +kernel)) (x_sh (e_var (i := 3) rfl (.inl rfl) (by decide +kernel) (by decide +kernel)) x_nil (by rfl)) (by rfl)) (by decide) (by decide +kernel) (by rfl) (by rfl))) (by intro _; rfl)) (e_tup (a_one (e_var (i := 3) rfl (.inl rfl) (by decide +kernel) (by decide +kernel)) (a_one (e_var (i := 4) rfl (.inl rfl) (by decide +kernel) (by decide +kernel)) a_nil (by rfl)) (by rfl))) (e_tup (a_one (e_var (i := 4) rfl (.inl rfl) (by decide +kernel) (by decide +kernel)) (a_one (e_var (i := 3) rfl (.inl rfl) (by decide +kernel) (by decide +kernel)) a_nil (by rfl)) (by rfl))))))))
theorem ok__law_pair (G : Md P w base tb K mg) : Callee P w K mg base 4 "_law_pair" (SpM K mg tb [true, false, false] m__law_pair) := by
  obtain ⟨f, fd, hm, F, hb⟩ := G.fn__law_pair
  exact ⟨f, fd, _, hm, F.kp, hb, fn_def (more := []) F sc__law_pair rfl (by decide) (by decide) (by decide) (bd__law_pair G)⟩
abbrev N__law_stands : List Str := ["word", "part", "place"]
theorem sc__law_stands : FnScope N__law_stands ["word", "part"] (defScope (topS 68)) := ⟨rfl, rfl, rfl, by decide +kernel, rfl, by decide +kernel, by decide +kernel⟩
theorem bd__law_stands (G : Md P w base tb K mg) : Body P w K mg base tb N__law_stands "_law_stands" (defScope (topS 68)) 0 [] 0 (defBody (topS 68)) (fun _ => Rp K) b__law_stands := fun f cdv A outer s H E H0 Z as hp C =>
    (ss_one (s_ret (e_lc C (w_range1 rfl G.b_range (e_op .add (e_op .sub (e_len rfl G.b_len (rd (e_var (i := 0) rfl (.inr (.inl rfl)) (by decide +kernel) (by decide +kernel))) (by rfl)) (rd (e_len rfl G.b_len (rd (e_var (i := 1) rfl (.inr (.inl rfl)) (by decide +kernel) (by decide +kernel))) (by rfl)))) (rd e_int)) (by rfl)) (blkOk_by (show blkC N__law_stands (defScope (topS 68)) _ [("place", 2)] = true by decide +kernel)) (fun _ _ _ _ _ => (g_nm C.blk.nd (i := 2) rfl (.inl rfl) (.inr rfl))) (fun _ _ _ _ _ => (ts_one (t_cmp .eq C.blk (e_sl (e_var (i := 0) rfl (.inr (.inl rfl)) (by decide +kernel) (by decide +kernel)) (o_some (e_var (i := 2) rfl (.inl rfl) (by decide +kernel) (by decide +kernel))) (o_some (e_op .add (e_var (i := 2) rfl (.inl rfl) (by decide +kernel) (by decide +kernel)) (rd (e_len rfl G.b_len (rd (e_var (i := 1) rfl (.inr (.inl rfl)) (by decide +kernel) (by decide +kernel))) (by rfl)))))) (rd (e_var (i := 1) rfl (.inr (.inl rfl)) (by decide +kernel) (by decide +kernel))) (by rfl)))) (fun _ _ _ _ _ => (e_var (i := 2) rfl (.inl rfl) (by decide +kernel) (by decide +kernel))) rfl (by decide) (by decide) (by intro _; rfl))))
theorem ok__law_stands (G : Md P w base tb K mg) : Callee P w K mg base 1 "_law_stands" (SpM K mg tb [false, false] m__law_stands) := by
  obtain ⟨f, fd, hm, F, hb⟩ := G.fn__law_stands
  exact ⟨f, fd, _, hm, F.kp, hb, fn_def (more := []) F sc__law_stands rfl (by decide) (by decide) (by decide) (bd__law_stands G)⟩
abbrev N__law_walked : List Str := ["book", "lines", "word", "row", "use", "some", "out", "put", "one"]
theorem sc__law_walked : FnScope N__law_walked ["book", "lines", "word", "row"] (defScope (topS 69)) := ⟨rfl, rfl, rfl, by decide +kernel, rfl, by decide +kernel, by decide +kernel⟩
theorem bd__law_walked (G : Md P w base tb K mg) : Body P w K mg base tb N__law_walked "_law_walked" (defScope (topS 69)) 1 [] 0 (defBody (topS 69)) (fun _ => Rp K) b__law_walked := fun f cdv A outer s H E H0 Z as hp C =>
    (ss_cons (s_if (t_not (t_tru (rd (e_isi .tuple rfl G.b_isinstance rfl G.b_tuple (rd (e_var (i := 3) rfl (.inl rfl) (by decide +kernel) (by decide +kernel))) (by rfl))) (by intro _; rfl))) (ss_one (s_ret e_non)) ss_nil)
    (ss_cons (s_for C (passes_of rfl) (w_of (e_var (i := 3) rfl (.inl rfl) (by decide +kernel) (by decide +kernel))) (g_nm C.nd (i := 4) rfl (.inl rfl) (.inr rfl)) (by decide) (ss_cons (s_if (PW.pt (t_or (t_not (t_tru (rd (e_isi .tuple rfl G.b_isinstance rfl G.b_tuple (rd (e_var (i := 4) rfl (.inl rfl) (by decide +kernel) (by decide +kernel))) (by rfl))) (by intro _; rfl))) (t_or (t_cmp .ne C (e_len rfl G.b_len (rd (e_var (i := 4) rfl (.inl rfl) (by decide +kernel) (by decide +kernel))) (by rfl)) (rd e_int) (by rfl)) (t_or1 (t_cmp .ne C (e_lc C (w_of (e_var (i := 4) rfl (.inl rfl) (by decide +kernel) (by decide +kernel))) (blkOk_by (show blkC N__law_walked (defScope (topS 69)) _ [("one", 8)] = true by decide +kernel)) (fun _ _ _ _ _ => (g_nm C.blk.nd (i := 8) rfl (.inl rfl) (.inr rfl))) (fun _ _ _ _ _ => (ts_one (t_not (t_tru (rd (e_call C.blk (ok__law_is_int G) (by decide) rfl (x_sh (e_var (i := 8) rfl (.inl rfl) (by decide +kernel) (by decide +kernel)) x_nil (by rfl)) (by decide) (by decide +kernel) (by rfl) (by rfl))) (by intro _; rfl))))) (fun _ _ _ _ _ => e_int) rfl (by decide) (by decide) (by intro _; rfl)) (rd (e_lst a_nil)) (by rfl)))))) (ss_one (s_ret e_non)) ss_nil)
    (ss_cons (s_if (PW.pt (t_or (t_cmp .nmem C (e_idx (e_var (i := 4) rfl (.inl rfl) (by decide +kernel) (by decide +kernel)) (rd e_int) (by intro _ _; rfl)) (rd (e_tup (a_one e_int (a_one e_int a_nil (by rfl)) (by rfl)))) (by rfl)) (t_or1 (t_cmp .nmem C (e_idx (e_var (i := 4) rfl (.inl rfl) (by decide +kernel) (by decide +kernel)) (rd e_int) (by intro _ _; rfl)) (rd (e_tup (a_one e_int (a_one e_int a_nil (by rfl)) (by rfl)))) (by rfl))))) (ss_one (s_ret e_non)) ss_nil)
    (ss_cons (s_set C.nd (i := 5) rfl (.inl rfl) (.inr rfl) (by decide) (e_if (t_cmp .eq C (e_idx (e_var (i := 4) rfl (.inl rfl) (by decide +kernel) (by decide +kernel)) (rd e_int) (by intro _ _; rfl)) (rd e_int) (by rfl)) (e_idx (e_var (i := 0) rfl (.inl rfl) (by decide +kernel) (by decide +kernel)) (rd e_int) (by intro _ _; rfl)) (e_var (i := 1) rfl (.inl rfl) (by decide +kernel) (by decide +kernel))) (by rfl))
    (ss_cons (s_if (t_not (t_ch .le .lt C e_int (e_idx (e_var (i := 4) rfl (.inl rfl) (by decide +kernel) (by decide +kernel)) (rd e_int) (by intro _ _; rfl)) (rd (e_len rfl G.b_len (rd (e_var (i := 5) rfl (.inl rfl) (by decide +kernel) (by decide +kernel))) (by rfl))) (by with_unfolding_all rfl))) (ss_one (s_ret e_non)) ss_nil)
    (ss_cons (s_par2 (q := (.sh 6 (e2 idxD (e2 idxD (eVar 5) (e2 idxD (eVar 4) (eC (.int 1)))) (e2 idxD (eVar 4) (eC (.int 3)))))) (r := (.sh 7 (e2 idxD (e2 idxD (eVar 5) (e2 idxD (eVar 4) (eC (.int 1)))) (e2 (opD .sub) (eC (.int 1)) (e2 idxD (eVar 4) (eC (.int 3))))))) C (i := 6) (j := 7) rfl rfl (by decide) rfl rfl ⟨rfl, by decide⟩ ⟨rfl, by decide⟩ (e_idx (e_idx (e_var (i := 5) rfl (.inl rfl) (by decide +kernel) (by decide +kernel)) (rd (e_idx (e_var (i := 4) rfl (.inl rfl) (by decide +kernel) (by decide +kernel)) (rd e_int) (by intro _ _; rfl))) (by intro _ _; rfl)) (rd (e_idx (e_var (i := 4) rfl (.inl rfl) (by decide +kernel) (by decide +kernel)) (rd e_int) (by intro _ _; rfl))) (by intro _ _; rfl)) (e_idx (e_idx (e_var (i := 5) rfl (.inl rfl) (by decide +kernel) (by decide +kernel)) (rd (e_idx (e_var (i := 4) rfl (.inl rfl) (by decide +kernel) (by decide +kernel)) (rd e_int) (by intro _ _; rfl))) (by intro _ _; rfl)) (rd (e_op .sub e_int (rd (e_idx (e_var (i := 4) rfl (.inl rfl) (by decide +kernel) (by decide +kernel)) (rd e_int) (by intro _ _; rfl))))) (by intro _ _; rfl)) (by rfl) (by rfl) (by rfl) (by rfl))
    (ss_cons (s_if (t_cmp .nmem C (e_idx (e_var (i := 4) rfl (.inl rfl) (by decide +kernel) (by decide +kernel)) (rd e_int) (by intro _ _; rfl)) (rd (e_call C (ok__law_stands G) (by decide) rfl (x_sh (e_var (i := 2) rfl (.inl rfl) (by decide +kernel) (by decide +kernel)) (x_sh (e_var (i := 6) rfl (.inl rfl) (by decide +kernel) (by decide +kernel)) x_nil (by rfl)) (by rfl)) (by decide) (by decide +kernel) (by rfl) (by rfl))) (by rfl)) (ss_one (s_ret e_non)) ss_nil)
    (ss_one (s_set C.nd (i := 2) rfl (.inl rfl) (.inr rfl) (by decide) (e_op .add (e_op .add (e_sl (e_var (i := 2) rfl (.inl rfl) (by decide +kernel) (by decide +kernel)) o_none (o_some (e_idx (e_var (i := 4) rfl (.inl rfl) (by decide +kernel) (by decide +kernel)) (rd e_int) (by intro _ _; rfl)))) (rd (e_var (i := 7) rfl (.inl rfl) (by decide +kernel) (by decide +kernel)))) (rd (e_sl (e_var (i := 2) rfl (.inl rfl) (by decide +kernel) (by decide +kernel)) (o_some (e_op .add (e_idx (e_var (i := 4) rfl (.inl rfl) (by decide +kernel) (by decide +kernel)) (rd e_int) (by intro _ _; rfl)) (rd (e_len rfl G.b_len (rd (e_var (i := 6) rfl (.inl rfl) (by decide +kernel) (by decide +kernel))) (by rfl))))) o_none))) (by rfl))))))))) (by intro _; rfl))
    (ss_one (s_ret (e_var (i := 2) rfl (.inl rfl) (by decide +kernel) (by decide +kernel))))))
theorem ok__law_walked (G : Md P w base tb K mg) : Callee P w K mg base 2 "_law_walked" (SpM K mg tb [false, false, false, false] m__law_walked) := by
  obtain ⟨f, fd, hm, F, hb⟩ := G.fn__law_walked
  exact ⟨f, fd, _, hm, F.kp, hb, fn_def (more := []) F sc__law_walked rfl (by decide) (by decide) (by decide) (bd__law_walked G)⟩
abbrev N__law_are_lines : List Str := ["book", "lines", "at", "one", "other", "row"]
theorem sc__law_are_lines : FnScope N__law_are_lines ["book", "lines"] (defScope (topS 70)) := ⟨rfl, rfl, rfl, by decide +kernel, rfl, by decide +kernel, by decide +kernel⟩
theorem bd__law_are_lines (G : Md P w base tb K mg) : Body P w K mg base tb N__law_are_lines "_law_are_lines" (defScope (topS 70)) 2 [] 0 (defBody (topS 70)) (fun _ => Rp K) b__law_are_lines := fun f cdv A outer s H E H0 Z as hp C =>
    (ss_cons (s_for C (passes_of rfl) (w_enum rfl G.b_enumerate (e_var (i := 1) rfl (.inl rfl) (by decide +kernel) (by decide +kernel)) (by rfl)) (g_tup C.calm (g_cons (g_nm C.nd (i := 2) rfl (.inl rfl) (.inr rfl)) (g_cons (g_tup C.calm (g_cons (g_nm C.nd (i := 3) rfl (.inl rfl) (.inr rfl)) (g_cons (g_nm C.nd (i := 4) rfl (.inl rfl) (.inr rfl)) (g_cons (g_nm C.nd (i := 5) rfl (.inl rfl) (.inr rfl)) g_nil (by rfl)) (by rfl)) (by rfl)) (by rfl) (by rfl)) g_nil (by rfl)) (by rfl)) (by rfl) (by rfl)) (by decide) (ss_one (s_if (PW.pt (t_or (t_not (t_tru (rd (e_call C (ok__law_less G) (by decide) rfl (x_sh (e_var (i := 4) rfl (.inl rfl) (by decide +kernel) (by decide +kernel)) (x_sh (e_var (i := 3) rfl (.inl rfl) (by decide +kernel) (by decide +kernel)) x_nil (by rfl)) (by rfl)) (by decide) (by decide +kernel) (by rfl) (by rfl))) (by intro _; rfl))) (t_or1 (t_cmp .ne C (e_call C (ok__law_walked G) (by decide) rfl (x_sh (e_var (i := 0) rfl (.inl rfl) (by decide +kernel) (by decide +kernel)) (x_sh (e_sl (e_var (i := 1) rfl (.inl rfl) (by decide +kernel) (by decide +kernel)) o_none (o_some (e_var (i := 2) rfl (.inl rfl) (by decide +kernel) (by decide +kernel)))) (x_sh (e_var (i := 3) rfl (.inl rfl) (by decide +kernel) (by decide +kernel)) (x_sh (e_var (i := 5) rfl (.inl rfl) (by decide +kernel) (by decide +kernel)) x_nil (by rfl)) (by rfl)) (by rfl)) (by rfl)) (by decide) (by decide +kernel) (by rfl) (by rfl)) (rd (e_var (i := 4) rfl (.inl rfl) (by decide +kernel) (by decide +kernel))) (by rfl))))) (ss_one (s_ret e_bl)) ss_nil)) (by intro _; rfl))
    (ss_one (s_ret e_bl)))
theorem ok__law_are_lines (G : Md P w base tb K mg) : Callee P w K mg base 3 "_law_are_lines" (SpM K mg tb [false, false] m__law_are_lines) := by
  obtain ⟨f, fd, hm, F, hb⟩ := G.fn__law_are_lines
  exact ⟨f, fd, _, hm, F.kp, hb, fn_def (more := []) F sc__law_are_lines rfl (by decide) (by decide) (by decide) (bd__law_are_lines G)⟩
abbrev N__law_shows : List Str := ["book", "one", "other", "paper"]
theorem sc__law_shows : FnScope N__law_shows ["book", "one", "other", "paper"] (defScope (topS 71)) := ⟨rfl, rfl, rfl, by decide +kernel, rfl, by decide +kernel, by decide +kernel⟩
theorem bd__law_shows (G : Md P w base tb K mg) : Body P w K mg base tb N__law_shows "_law_shows" (defScope (topS 71)) 3 [] 0 (defBody (topS 71)) (fun _ => Rp K) b__law_shows := fun f cdv A outer s H E H0 Z as hp C =>
    (ss_cons (s_if (PW.pt (t_or (t_cmp .ne C (e_idx (e_var (i := 3) rfl (.inl rfl) (by decide +kernel) (by decide +kernel)) (rd e_int) (by intro _ _; rfl)) (rd (e_str (by decide +kernel))) (by rfl)) (t_or1 (t_not (t_tru (rd (e_call C (ok__law_are_lines G) (by decide) rfl (x_sh (e_var (i := 0) rfl (.inl rfl) (by decide +kernel) (by decide +kernel)) (x_sh (e_idx (e_var (i := 3) rfl (.inl rfl) (by decide +kernel) (by decide +kernel)) (rd e_int) (by intro _ _; rfl)) x_nil (by rfl)) (by rfl)) (by decide) (by decide +kernel) (by rfl) (by rfl))) (by intro _; rfl)))))) (ss_one (s_ret e_bl)) ss_nil)
    (ss_one (s_ret (e_cmp .eq C (e_call C (ok__law_walked G) (by decide) rfl (x_sh (e_var (i := 0) rfl (.inl rfl) (by decide +kernel) (by decide +kernel)) (x_sh (e_idx (e_var (i := 3) rfl (.inl rfl) (by decide +kernel) (by decide +kernel)) (rd e_int) (by intro _ _; rfl)) (x_sh (e_var (i := 1) rfl (.inl rfl) (by decide +kernel) (by decide +kernel)) (x_sh (e_idx (e_var (i := 3) rfl (.inl rfl) (by decide +kernel) (by decide +kernel)) (rd e_int) (by intro _ _; rfl)) x_nil (by rfl)) (by rfl)) (by rfl)) (by rfl)) (by decide) (by decide +kernel) (by rfl) (by rfl)) (rd (e_var (i := 2) rfl (.inl rfl) (by decide +kernel) (by decide +kernel))) (by rfl)))))
theorem ok__law_shows (G : Md P w base tb K mg) : Callee P w K mg base 4 "_law_shows" (SpM K mg tb [false, false, false, false] m__law_shows) := by
  obtain ⟨f, fd, hm, F, hb⟩ := G.fn__law_shows
  exact ⟨f, fd, _, hm, F.kp, hb, fn_def (more := []) F sc__law_shows rfl (by decide) (by decide) (by decide) (bd__law_shows G)⟩
abbrev N__law_uses_on : List Str := ["book", "lines", "word", "most", "found", "kind", "some", "index", "pair", "way", "place"]
theorem sc__law_uses_on : FnScope N__law_uses_on ["book", "lines", "word", "most"] (defScope (topS 72)) := ⟨rfl, rfl, rfl, by decide +kernel, rfl, by decide +kernel, by decide +kernel⟩
theorem bd__law_uses_on (G : Md P w base tb K mg) : Body P w K mg base tb N__law_uses_on "_law_uses_on" (defScope (topS 72)) 1 [] 0 (defBody (topS 72)) (fun _ => Rp K) b__law_uses_on := fun f cdv A outer s H E H0 Z as hp C =>
    (ss_cons (s_set C.nd (i := 4) rfl (.inl rfl) (.inr rfl) (by decide) (e_lst a_nil) (by rfl))
    (ss_cons (s_for C (passes_of rfl) (w_of (e_tup (a_one (e_tup (a_one e_int (a_one (e_idx (e_var (i := 0) rfl (.inl rfl) (by decide +kernel) (by decide +kernel)) (rd e_int) (by intro _ _; rfl)) a_nil (by rfl)) (by rfl))) (a_one (e_tup (a_one e_int (a_one (e_var (i := 1) rfl (.inl rfl) (by decide +kernel) (by decide +kernel)) a_nil (by rfl)) (by rfl))) a_nil (by rfl)) (by rfl)))) (g_tup C.calm (g_cons (g_nm C.nd (i := 5) rfl (.inr rfl) (.inl rfl)) (g_cons (g_nm C.nd (i := 6) rfl (.inl rfl) (.inr rfl)) g_nil (by rfl)) (by rfl)) (by rfl) (by rfl)) (by decide) (ss_one (s_for C (passes_of rfl) (w_enum rfl G.b_enumerate (e_var (i := 6) rfl (.inl rfl) (by decide +kernel) (by decide +kernel)) (by rfl)) (g_tup C.calm (g_cons (g_nm C.nd (i := 7) rfl (.inr rfl) (.inl rfl)) (g_cons (g_nm C.nd (i := 8) rfl (.inl rfl) (.inr rfl)) g_nil (by rfl)) (by rfl)) (by rfl) (by rfl)) (by decide) (ss_one (s_for C (passes_of rfl) (w_of (e_tup (a_one e_int (a_one e_int a_nil (by rfl)) (by rfl)))) (g_nm C.nd (i := 9) rfl (.inr rfl) (.inl rfl)) (by decide) (ss_one (s_if (t_cmp .le C (e_op .sub (e_op .add (e_len rfl G.b_len (rd (e_var (i := 2) rfl (.inl rfl) (by decide +kernel) (by decide +kernel))) (by rfl)) (rd (e_len rfl G.b_len (rd (e_idx (e_var (i := 8) rfl (.inl rfl) (by decide +kernel) (by decide +kernel)) (rd (e_op .sub e_int (rd (e_var (i := 9) rfl (.inr (.inl rfl)) (by decide +kernel) (by decide +kernel))))) (by intro _ _; rfl))) (by rfl)))) (rd (e_len rfl G.b_len (rd (e_idx (e_var (i := 8) rfl (.inl rfl) (by decide +kernel) (by decide +kernel)) (rd (e_var (i := 9) rfl (.inr (.inl rfl)) (by decide +kernel) (by decide +kernel))) (by intro _ _; rfl))) (by rfl)))) (rd (e_var (i := 3) rfl (.inl rfl) (by decide +kernel) (by decide +kernel))) (by rfl)) (ss_one (s_set C.nd (i := 4) rfl (.inl rfl) (.inr rfl) (by decide) (e_op .add (e_var (i := 4) rfl (.inl rfl) (by decide +kernel) (by decide +kernel)) (rd (e_lc C (w_of (e_call C (ok__law_stands G) (by decide) rfl (x_sh (e_var (i := 2) rfl (.inl rfl) (by decide +kernel) (by decide +kernel)) (x_sh (e_idx (e_var (i := 8) rfl (.inl rfl) (by decide +kernel) (by decide +kernel)) (rd (e_var (i := 9) rfl (.inr (.inl rfl)) (by decide +kernel) (by decide +kernel))) (by intro _ _; rfl)) x_nil (by rfl)) (by rfl)) (by decide) (by decide +kernel) (by rfl) (by rfl))) (blkOk_by (show blkC N__law_uses_on (defScope (topS 72)) _ [("place", 10)] = true by decide +kernel)) (fun _ _ _ _ _ => (g_nm C.blk.nd (i := 10) rfl (.inl rfl) (.inr rfl))) (fun _ _ _ _ _ => ts_nil) (fun _ _ _ _ _ => (e_tup (a_one (e_var (i := 5) rfl (.inr (.inl rfl)) (by decide +kernel) (by decide +kernel)) (a_one (e_var (i := 7) rfl (.inr (.inl rfl)) (by decide +kernel) (by decide +kernel)) (a_one (e_var (i := 10) rfl (.inl rfl) (by decide +kernel) (by decide +kernel)) (a_one (e_var (i := 9) rfl (.inr (.inl rfl)) (by decide +kernel) (by decide +kernel)) a_nil (by rfl)) (by rfl)) (by rfl)) (by rfl)))) rfl (by decide) (by decide) (by intro _; rfl)))) (by rfl))) ss_nil)) (by intro _; rfl))) (by intro _; rfl))) (by intro _; rfl))
    (ss_one (s_ret (e_var (i := 4) rfl (.inl rfl) (by decide +kernel) (by decide +kernel))))))
theorem ok__law_uses_on (G : Md P w base tb K mg) : Callee P w K mg base 2 "_law_uses_on" (SpM K mg tb [false, false, false, false] m__law_uses_on) := by
  obtain ⟨f, fd, hm, F, hb⟩ := G.fn__law_uses_on
  exact ⟨f, fd, _, hm, F.kp, hb, fn_def (more := []) F sc__law_uses_on rfl (by decide) (by decide) (by decide) (bd__law_uses_on G)⟩
abbrev N__law_walk : List Str := ["bag", "book", "lines", "word", "many", "most", "row", "turn", "uses", "use"]
theorem sc__law_walk : FnScope N__law_walk ["bag", "book", "lines", "word", "many", "most"] (defScope (topS 73)) := ⟨rfl, rfl, rfl, by decide +kernel, rfl, by decide +kernel, by decide +kernel⟩
theorem bd__law_walk (G : Md P w base tb K mg) : Body P w K mg base tb N__law_walk "_law_walk" (defScope (topS 73)) 2 [0] 1 (defBody (topS 73)) (fun _ => Rp K) b__law_walk := fun f cdv A outer s H E H0 Z as hp C =>
    (ss_cons (s_set C.nd (i := 6) rfl (.inl rfl) (.inr rfl) (by decide) (e_tup a_nil) (by rfl))
    (ss_cons (s_for C (passes_of rfl) (w_range1 rfl G.b_range (e_var (i := 4) rfl (.inl rfl) (by decide +kernel) (by decide +kernel)) (by rfl)) (g_nm C.nd (i := 7) rfl (.inl rfl) (.inr rfl)) (by decide) (ss_cons (s_set C.nd (i := 8) rfl (.inl rfl) (.inr rfl) (by decide) (e_call C (ok__law_uses_on G) (by decide) rfl (x_sh (e_var (i := 1) rfl (.inl rfl) (by decide +kernel) (by decide +kernel)) (x_sh (e_var (i := 2) rfl (.inl rfl) (by decide +kernel) (by decide +kernel)) (x_sh (e_var (i := 3) rfl (.inl rfl) (by decide +kernel) (by decide +kernel)) (x_sh (e_var (i := 5) rfl (.inl rfl) (by decide +kernel) (by decide +kernel)) x_nil (by rfl)) (by rfl)) (by rfl)) (by rfl)) (by decide) (by decide +kernel) (by rfl) (by rfl)) (by rfl))
    (ss_one (s_if (t_cmp .ne C (e_var (i := 8) rfl (.inl rfl) (by decide +kernel) (by decide +kernel)) (rd (e_lst a_nil)) (by rfl)) (ss_cons (s_set C.nd (i := 9) rfl (.inl rfl) (.inr rfl) (by decide) (e_call C (ok__law_some G) (by decide) rfl (x_ow (i := 0) (j := 0) rfl rfl (.inl rfl) (x_sh (e_var (i := 8) rfl (.inl rfl) (by decide +kernel) (by decide +kernel)) x_nil (by rfl)) (by rfl) (by decide +kernel) (by decide +kernel)) (by decide) (by decide +kernel) (by rfl) (by rfl)) (by rfl))
    (ss_one (s_par2 (q := (.sh 6 (e2 (opD .add) (eVar 6) (eTup [.one (eVar 9)])))) (r := (.sh 3 (eCall m__law_walked [.sh (eVar 1), .sh (eVar 2), .sh (eVar 3), .sh (eTup [.one (eVar 9)])]))) C (i := 6) (j := 3) rfl rfl (by decide) rfl rfl ⟨rfl, by decide⟩ ⟨rfl, by decide⟩ (e_op .add (e_var (i := 6) rfl (.inl rfl) (by decide +kernel) (by decide +kernel)) (rd (e_tup (a_one (e_var (i := 9) rfl (.inl rfl) (by decide +kernel) (by decide +kernel)) a_nil (by rfl))))) (e_call C (ok__law_walked G) (by decide) rfl (x_sh (e_var (i := 1) rfl (.inl rfl) (by decide +kernel) (by decide +kernel)) (x_sh (e_var (i := 2) rfl (.inl rfl) (by decide +kernel) (by decide +kernel)) (x_sh (e_var (i := 3) rfl (.inl rfl) (by decide +kernel) (by decide +kernel)) (x_sh (e_tup (a_one (e_var (i := 9) rfl (.inl rfl) (by decide +kernel) (by decide +kernel)) a_nil (by rfl))) x_nil (by rfl)) (by rfl)) (by rfl)) (by rfl)) (by decide) (by decide +kernel) (by rfl) (by rfl)) (by rfl) (by rfl) (by rfl) (by rfl)))) ss_nil))) (by intro _; rfl))
    (ss_one (s_ret (e_tup (a_one (e_var (i := 6) rfl (.inl rfl) (by decide +kernel) (by decide +kernel)) (a_one (e_var (i := 3) rfl (.inl rfl) (by decide +kernel) (by decide +kernel)) a_nil (by rfl)) (by rfl)))))))
theorem ok__law_walk (G : Md P w base tb K mg) : Callee P w K mg base 3 "_law_walk" (SpM K mg tb [true, false, false, false, false, false] m__law_walk) := by
  obtain ⟨f, fd, hm, F, hb⟩ := G.fn__law_walk
  exact ⟨f, fd, _, hm, F.kp, hb, fn_def (more := []) F sc__law_walk rfl (by decide) (by decide) (by decide) (bd__law_walk G)⟩
abbrev N__law_lines : List Str := ["bag", "book", "many", "lines", "turn", "one", "row", "other", "kind", "at", "place", "way"]
theorem sc__law_lines : FnScope N__law_lines ["bag", "book", "many"] (defScope (topS 74)) := ⟨rfl, rfl, rfl, by decide +kernel, rfl, by decide +kernel, by decide +kernel⟩
theorem bd__law_lines (G : Md P w base tb K mg) : Body P w K mg base tb N__law_lines "_law_lines" (defScope (topS 74)) 3 [0] 1 (defBody (topS 74)) (fun _ => Rp K) b__law_lines := fun f cdv A outer s H E H0 Z as hp C =>
    (ss_cons (s_set C.nd (i := 3) rfl (.inl rfl) (.inr rfl) (by decide) (e_tup a_nil) (by rfl))
    (ss_cons (s_for C (passes_of rfl) (w_range1 rfl G.b_range (e_var (i := 2) rfl (.inl rfl) (by decide +kernel) (by decide +kernel)) (by rfl)) (g_nm C.nd (i := 4) rfl (.inl rfl) (.inr rfl)) (by decide) (ss_cons (s_set C.nd (i := 5) rfl (.inl rfl) (.inr rfl) (by decide) (e_call C (ok__law_word G) (by decide) rfl (x_ow (i := 0) (j := 0) rfl rfl (.inl rfl) (x_sh (e_idx (e_var (i := 1) rfl (.inl rfl) (by decide +kernel) (by decide +kernel)) (rd e_int) (by intro _ _; rfl)) (x_sh e_int x_nil (by rfl)) (by rfl)) (by rfl) (by decide +kernel) (by decide +kernel)) (by decide) (by decide +kernel) (by rfl) (by rfl)) (by rfl))
    (ss_cons (s_tup (g_tup C.calm (g_cons (g_nm C.nd (i := 6) rfl (.inl rfl) (.inr rfl)) (g_cons (g_nm C.nd (i := 7) rfl (.inl rfl) (.inr rfl)) g_nil (by rfl)) (by rfl)) (by rfl) (by rfl)) (by decide) (e_call C (ok__law_walk G) (by decide) rfl (x_ow (i := 0) (j := 0) rfl rfl (.inl rfl) (x_sh (e_var (i := 1) rfl (.inl rfl) (by decide +kernel) (by decide +kernel)) (x_sh (e_var (i := 3) rfl (.inl rfl) (by decide +kernel) (by decide +kernel)) (x_sh (e_var (i := 5) rfl (.inl rfl) (by decide +kernel) (by decide +kernel)) (x_sh (e_op .add e_int (rd (e_call C (ok__law_take G) (by decide) rfl (x_ow (i := 0) (j := 0) rfl rfl (.inl rfl) (x_sh e_int x_nil (by rfl)) (by rfl) (by decide +kernel) (by decide +kernel)) (by decide) (by decide +kernel) (by rfl) (by rfl)))) (x_sh e_int x_nil (by rfl)) (by rfl)) (by rfl)) (by rfl)) (by rfl)) (by rfl) (by decide +kernel) (by decide +kernel)) (by decide) (by decide +kernel) (by rfl) (by rfl)) (by rfl) (by rfl) (by rfl))
    (ss_cons (s_if (t_tru (rd (e_call C (ok__law_less G) (by decide) rfl (x_sh (e_var (i := 7) rfl (.inl rfl) (by decide +kernel) (by decide +kernel)) (x_sh (e_var (i := 5) rfl (.inl rfl) (by decide +kernel) (by decide +kernel)) x_nil (by rfl)) (by rfl)) (by decide) (by decide +kernel) (by rfl) (by rfl))) (by intro _; rfl)) (ss_one (s_set C.nd (i := 3) rfl (.inl rfl) (.inr rfl) (by decide) (e_op .add (e_var (i := 3) rfl (.inl rfl) (by decide +kernel) (by decide +kernel)) (rd (e_tup (a_one (e_tup (a_one (e_var (i := 5) rfl (.inl rfl) (by decide +kernel) (by decide +kernel)) (a_one (e_var (i := 7) rfl (.inl rfl) (by decide +kernel) (by decide +kernel)) (a_one (e_var (i := 6) rfl (.inl rfl) (by decide +kernel) (by decide +kernel)) a_nil (by rfl)) (by rfl)) (by rfl))) a_nil (by rfl))))) (by rfl))) ss_nil)
    (ss_one (s_if (t_tru (rd (e_call C (ok__law_less G) (by decide) rfl (x_sh (e_var (i := 5) rfl (.inl rfl) (by decide +kernel) (by decide +kernel)) (x_sh (e_var (i := 7) rfl (.inl rfl) (by decide +kernel) (by decide +kernel)) x_nil (by rfl)) (by rfl)) (by decide) (by decide +kernel) (by rfl) (by rfl))) (by intro _; rfl)) (ss_one (s_set C.nd (i := 3) rfl (.inl rfl) (.inr rfl) (by decide) (e_op .add (e_var (i := 3) rfl (.inl rfl) (by decide +kernel) (by decide +kernel)) (rd (e_tup (a_one (e_tup (a_one (e_var (i := 7) rfl (.inl rfl) (by decide +kernel) (by decide +kernel)) (a_one (e_var (i := 5) rfl (.inl rfl) (by decide +kernel) (by decide +kernel)) (a_one (e_tuple rfl G.b_tuple (rd (e_lc C (w_of (e_rev (rd (e_var (i := 6) rfl (.inl rfl) (by decide +kernel) (by decide +kernel))))) (blkOk_by (show blkC N__law_lines (defScope (topS 74)) _ [("kind", 8), ("at", 9), ("place", 10), ("way", 11)] = true by decide +kernel)) (fun _ _ _ _ _ => (g_tup C.blk.calm (g_cons (g_nm C.blk.nd (i := 8) rfl (.inl rfl) (.inr rfl)) (g_cons (g_nm C.blk.nd (i := 9) rfl (.inl rfl) (.inr rfl)) (g_cons (g_nm C.blk.nd (i := 10) rfl (.inl rfl) (.inr rfl)) (g_cons (g_nm C.blk.nd (i := 11) rfl (.inl rfl) (.inr rfl)) g_nil (by rfl)) (by rfl)) (by rfl)) (by rfl)) (by rfl) (by rfl))) (fun _ _ _ _ _ => ts_nil) (fun _ _ _ _ _ => (e_tup (a_one (e_var (i := 8) rfl (.inl rfl) (by decide +kernel) (by decide +kernel)) (a_one (e_var (i := 9) rfl (.inl rfl) (by decide +kernel) (by decide +kernel)) (a_one (e_var (i := 10) rfl (.inl rfl) (by decide +kernel) (by decide +kernel)) (a_one (e_op .sub e_int (rd (e_var (i := 11) rfl (.inl rfl) (by decide +kernel) (by decide +kernel)))) a_nil (by rfl)) (by rfl)) (by rfl)) (by rfl)))) rfl (by decide) (by decide) (by intro _; rfl))) (by rfl)) a_nil (by rfl)) (by rfl)) (by rfl))) a_nil (by rfl))))) (by rfl))) ss_nil))))) (by intro _; rfl))
    (ss_one (s_ret (e_var (i := 3) rfl (.inl rfl) (by decide +kernel) (by decide +kernel))))))
theorem ok__law_lines (G : Md P w base tb K mg) : Callee P w K mg base 4 "_law_lines" (SpM K mg tb [true, false, false] m__law_lines) := by
  obtain ⟨f, fd, hm, F, hb⟩ := G.fn__law_lines
  exact ⟨f, fd, _, hm, F.kp, hb, fn_def (more := []) F sc__law_lines rfl (by decide) (by decide) (by decide) (bd__law_lines G)⟩
abbrev N__law_paper : List Str := ["bag", "book", "word", "most", "lines", "row", "other"]
theorem sc__law_paper : FnScope N__law_paper ["bag", "book", "word", "most"] (defScope (topS 75)) := ⟨rfl, rfl, rfl, by decide +kernel, rfl, by decide +kernel, by decide +kernel⟩
theorem bd__law_paper (G : Md P w base tb K mg) : Body P w K mg base tb N__law_paper "_law_paper" (defScope (topS 75)) 4 [0] 1 (defBody (topS 75)) (fun _ => Rp K) b__law_paper := fun f cdv A outer s H E H0 Z as hp C =>
    (ss_cons (s_set C.nd (i := 4) rfl (.inl rfl) (.inr rfl) (by decide) (e_call C (ok__law_lines G) (by decide) rfl (x_ow (i := 0) (j := 0) rfl rfl (.inl rfl) (x_sh (e_var (i := 1) rfl (.inl rfl) (by decide +kernel) (by decide +kernel)) (x_sh (e_call C (ok__law_take G) (by decide) rfl (x_ow (i := 0) (j := 0) rfl rfl (.inl rfl) (x_sh e_int x_nil (by rfl)) (by rfl) (by decide +kernel) (by decide +kernel)) (by decide) (by decide +kernel) (by rfl) (by rfl)) x_nil (by rfl)) (by rfl)) (by rfl) (by decide +kernel) (by decide +kernel)) (by decide) (by decide +kernel) (by rfl) (by rfl)) (by rfl))
    (ss_cons (s_tup (g_tup C.calm (g_cons (g_nm C.nd (i := 5) rfl (.inl rfl) (.inr rfl)) (g_cons (g_nm C.nd (i := 6) rfl (.inl rfl) (.inr rfl)) g_nil (by rfl)) (by rfl)) (by rfl) (by rfl)) (by decide) (e_call C (ok__law_walk G) (by decide) rfl (x_ow (i := 0) (j := 0) rfl rfl (.inl rfl) (x_sh (e_var (i := 1) rfl (.inl rfl) (by decide +kernel) (by decide +kernel)) (x_sh (e_var (i := 4) rfl (.inl rfl) (by decide +kernel) (by decide +kernel)) (x_sh (e_var (i := 2) rfl (.inl rfl) (by decide +kernel) (by decide +kernel)) (x_sh (e_call C (ok__law_take G) (by decide) rfl (x_ow (i := 0) (j := 0) rfl rfl (.inl rfl) (x_sh e_int x_nil (by rfl)) (by rfl) (by decide +kernel) (by decide +kernel)) (by decide) (by decide +kernel) (by rfl) (by rfl)) (x_sh (e_var (i := 3) rfl (.inl rfl) (by decide +kernel) (by decide +kernel)) x_nil (by rfl)) (by rfl)) (by rfl)) (by rfl)) (by rfl)) (by rfl) (by decide +kernel) (by decide +kernel)) (by decide) (by decide +kernel) (by rfl) (by rfl)) (by rfl) (by rfl) (by rfl))
    (ss_one (s_ret (e_tup (a_one (e_tup (a_one (e_str (by decide +kernel)) (a_one (e_var (i := 4) rfl (.inl rfl) (by decide +kernel) (by decide +kernel)) (a_one (e_var (i := 5) rfl (.inl rfl) (by decide +kernel) (by decide +kernel)) a_nil (by rfl)) (by rfl)) (by rfl))) (a_one (e_var (i := 6) rfl (.inl rfl) (by decide +kernel) (by decide +kernel)) a_nil (by rfl)) (by rfl)))))))
theorem ok__law_paper (G : Md P w base tb K mg) : Callee P w K mg base 5 "_law_paper" (SpM K mg tb [true, false, false, false] m__law_paper) := by
  obtain ⟨f, fd, hm, F, hb⟩ := G.fn__law_paper
  exact ⟨f, fd, _, hm, F.kp, hb, fn_def (more := []) F sc__law_paper rfl (by decide) (by decide) (by decide) (bd__law_paper G)⟩
abbrev N__law_lean : List Str := ["paper", "needed", "at", "kept", "told", "row", "lines", "kind", "index", "place", "way"]
theorem sc__law_lean : FnScope N__law_lean ["paper"] (defScope (topS 76)) := ⟨rfl, rfl, rfl, by decide +kernel, rfl, by decide +kernel, by decide +kernel⟩
theorem bd__law_lean (G : Md P w base tb K mg) : Body P w K mg base tb N__law_lean "_law_lean" (defScope (topS 76)) 0 [1, 4] 0 (defBody (topS 76)) (fun _ => Rp K) b__law_lean := fun f cdv A outer s H E H0 Z as hp C =>
    (ss_cons (s_own (i := 1) C.nd rfl (np_of hp (by decide)) rfl (.inl rfl) (.inr rfl) f_dict0 (by rfl))
    (ss_cons (s_for C (passes_of rfl) (w_of (e_idx (e_var (i := 0) rfl (.inr (.inl rfl)) (by decide +kernel) (by decide +kernel)) (rd e_int) (by intro _ _; rfl))) (g_tup C.calm (g_cons (g_nm C.nd (i := 7) rfl (.inl rfl) (.inr rfl)) (g_cons (g_nm C.nd (i := 8) rfl (.inl rfl) (.inr rfl)) (g_cons (g_nm C.nd (i := 9) rfl (.inl rfl) (.inr rfl)) (g_cons (g_nm C.nd (i := 10) rfl (.inl rfl) (.inr rfl)) g_nil (by rfl)) (by rfl)) (by rfl)) (by rfl)) (by rfl) (by rfl)) (by decide) (ss_one (s_if (t_cmp .eq C (e_var (i := 7) rfl (.inl rfl) (by decide +kernel) (by decide +kernel)) (rd e_int) (by rfl)) (ss_one (s_put (i := 1) C rfl rfl (.inl rfl) e_bl (e_var (i := 8) rfl (.inl rfl) (by decide +kernel) (by decide +kernel)) (by intro _; rfl) (by rfl) (by rfl) (by rfl) (by decide +kernel) (by decide +kernel))) ss_nil)) (by intro _; rfl))
    (ss_cons (s_for C (passes_of rfl) (w_down rfl G.b_range (e_op .sub (e_len rfl G.b_len (rd (e_idx (e_var (i := 0) rfl (.inr (.inl rfl)) (by decide +kernel) (by decide +kernel)) (rd e_int) (by intro _ _; rfl))) (by rfl)) (rd e_int)) (e_neg e_int) (by rfl) (by rfl) (by rfl) (by rfl)) (g_nm C.nd (i := 2) rfl (.inl rfl) (.inr rfl)) (by decide) (ss_one (s_for C (passes_of rfl) (w_of (e_if (t_cmp .mem C (e_var (i := 2) rfl (.inl rfl) (by decide +kernel) (by decide +kernel)) (e_own (i := 1) (j := 0) rfl rfl (.inl rfl) (by decide +kernel) (by decide +kernel)) (by rfl)) (e_idx (e_idx (e_idx (e_var (i := 0) rfl (.inr (.inl rfl)) (by decide +kernel) (by decide +kernel)) (rd e_int) (by intro _ _; rfl)) (rd (e_var (i := 2) rfl (.inl rfl) (by decide +kernel) (by decide +kernel))) (by intro _ _; rfl)) (rd e_int) (by intro _ _; rfl)) (e_tup a_nil))) (g_tup C.calm (g_cons (g_nm C.nd (i := 7) rfl (.inl rfl) (.inr rfl)) (g_cons (g_nm C.nd (i := 8) rfl (.inl rfl) (.inr rfl)) (g_cons (g_nm C.nd (i := 9) rfl (.inl rfl) (.inr rfl)) (g_cons (g_nm C.nd (i := 10) rfl (.inl rfl) (.inr rfl)) g_nil (by rfl)) (by rfl)) (by rfl)) (by rfl)) (by rfl) (by rfl)) (by decide) (ss_one (s_if (t_cmp .eq C (e_var (i := 7) rfl (.inl rfl) (by decide +kernel) (by decide +kernel)) (rd e_int) (by rfl)) (ss_one (s_put (i := 1) C rfl rfl (.inl rfl) e_bl (e_var (i := 8) rfl (.inl rfl) (by decide +kernel) (by decide +kernel)) (by intro _; rfl) (by rfl) (by rfl) (by rfl) (by decide +kernel) (by decide +kernel))) ss_nil)) (by intro _; rfl))) (by intro _; rfl))
    (ss_cons (s_set C.nd (i := 3) rfl (.inr rfl) (.inl rfl) (by decide) (e_sorted C rfl G.b_sorted (e_own (i := 1) (j := 0) rfl rfl (.inl rfl) (by decide +kernel) (by decide +kernel)) (by rfl)) (by rfl))
    (ss_cons (s_own (i := 4) C.nd rfl (np_of hp (by decide)) rfl (.inl rfl) (.inr rfl) (f_lst a_nil) (by rfl))
    (ss_cons (s_for C (passes_of rfl) (w_of (e_op .add (e_lst (a_one (e_idx (e_var (i := 0) rfl (.inr (.inl rfl)) (by decide +kernel) (by decide +kernel)) (rd e_int) (by intro _ _; rfl)) a_nil (by rfl))) (rd (e_lc C (w_of (e_var (i := 3) rfl (.inr (.inl rfl)) (by decide +kernel) (by decide +kernel))) (blkOk_by (show blkC N__law_lean (defScope (topS 76)) _ [("at", 2)] = true by decide +kernel)) (fun _ _ _ _ _ => (g_nm C.blk.nd (i := 2) rfl (.inl rfl) (.inr rfl))) (fun _ _ _ _ _ => ts_nil) (fun _ _ _ _ _ => (e_idx (e_idx (e_idx (e_var (i := 0) rfl (.inr (.inl rfl)) (by decide +kernel) (by decide +kernel)) (rd e_int) (by intro _ _; rfl)) (rd (e_var (i := 2) rfl (.inl rfl) (by decide +kernel) (by decide +kernel))) (by intro _ _; rfl)) (rd e_int) (by intro _ _; rfl))) rfl (by decide) (by decide) (by intro _; rfl))))) (g_nm C.nd (i := 5) rfl (.inl rfl) (.inr rfl)) (by decide) (ss_one (s_mut (i := 4) mu_append PySem.F.slot_list_append PySem.F.type_list_append mt_append rfl rfl (.inl rfl) (a_one (e_tuple rfl G.b_tuple (rd (e_lc C (w_of (e_var (i := 5) rfl (.inl rfl) (by decide +kernel) (by decide +kernel))) (blkOk_by (show blkC N__law_lean (defScope (topS 76)) _ [("kind", 7), ("at", 2), ("place", 9), ("way", 10)] = true by decide +kernel)) (fun _ _ _ _ _ => (g_tup C.blk.calm (g_cons (g_nm C.blk.nd (i := 7) rfl (.inl rfl) (.inr rfl)) (g_cons (g_nm C.blk.nd (i := 2) rfl (.inl rfl) (.inr rfl)) (g_cons (g_nm C.blk.nd (i := 9) rfl (.inl rfl) (.inr rfl)) (g_cons (g_nm C.blk.nd (i := 10) rfl (.inl rfl) (.inr rfl)) g_nil (by rfl)) (by rfl)) (by rfl)) (by rfl)) (by rfl) (by rfl))) (fun _ _ _ _ _ => ts_nil) (fun _ _ _ _ _ => (e_tup (a_one (e_var (i := 7) rfl (.inl rfl) (by decide +kernel) (by decide +kernel)) (a_one (e_if (t_cmp .eq C.blk (e_var (i := 7) rfl (.inl rfl) (by decide +kernel) (by decide +kernel)) (rd e_int) (by rfl)) (e_index C.blk (e_var (i := 3) rfl (.inr (.inl rfl)) (by decide +kernel) (by decide +kernel)) (e_var (i := 2) rfl (.inl rfl) (by decide +kernel) (by decide +kernel)) (by rfl) (by rfl) (by rfl) (by rfl) (by rfl)) (e_var (i := 2) rfl (.inl rfl) (by decide +kernel) (by decide +kernel))) (a_one (e_var (i := 9) rfl (.inl rfl) (by decide +kernel) (by decide +kernel)) (a_one (e_var (i := 10) rfl (.inl rfl) (by decide +kernel) (by decide +kernel)) a_nil (by rfl)) (by rfl)) (by rfl)) (by rfl)))) rfl (by decide) (by decide) (by intro _; rfl))) (by rfl)) a_nil (by rfl)) (by rfl) (by rfl) (by rfl) (by rfl) (by rfl) (by rfl) (by decide +kernel) (by decide +kernel))) (by intro _; rfl))
    (ss_cons (s_setLc C (i := 6) rfl rfl (sw_true rfl rfl rfl (by rfl)) (by decide) (w_zip rfl G.b_zip (e_var (i := 3) rfl (.inr (.inl rfl)) (by decide +kernel) (by decide +kernel)) (e_slO (i := 4) rfl rfl (.inl rfl) (o_some e_int) o_none (by decide +kernel) (by decide +kernel)) (by rfl) (by rfl) (by rfl)) (blkOk_by (show blkC N__law_lean (defScope (topS 76)) _ [("at", 2), ("row", 5)] = true by decide +kernel)) (fun _ _ _ _ _ => (g_tup C.blk.calm (g_cons (g_nm C.blk.nd (i := 2) rfl (.inl rfl) (.inr rfl)) (g_cons (g_nm C.blk.nd (i := 5) rfl (.inl rfl) (.inr rfl)) g_nil (by rfl)) (by rfl)) (by rfl) (by rfl))) (fun _ _ _ _ _ => ts_nil) (fun _ _ _ _ _ => (e_tup (a_one (e_idx (e_idx (e_idx (e_var (i := 0) rfl (.inr (.inl rfl)) (by decide +kernel) (by decide +kernel)) (rd e_int) (by intro _ _; rfl)) (rd (e_var (i := 2) rfl (.inl rfl) (by decide +kernel) (by decide +kernel))) (by intro _ _; rfl)) (rd e_int) (by intro _ _; rfl)) (a_one (e_idx (e_idx (e_idx (e_var (i := 0) rfl (.inr (.inl rfl)) (by decide +kernel) (by decide +kernel)) (rd e_int) (by intro _ _; rfl)) (rd (e_var (i := 2) rfl (.inl rfl) (by decide +kernel) (by decide +kernel))) (by intro _ _; rfl)) (rd e_int) (by intro _ _; rfl)) (a_one (e_var (i := 5) rfl (.inl rfl) (by decide +kernel) (by decide +kernel)) a_nil (by rfl)) (by rfl)) (by rfl)))) rfl (by decide) (by decide) (by intro _; rfl))
    (ss_one (s_ret (e_tup (a_one (e_str (by decide +kernel)) (a_one (e_tuple rfl G.b_tuple (rd (e_var (i := 6) rfl (.inl rfl) (by decide +kernel) (by decide +kernel))) (by rfl)) (a_one (e_idxO (i := 4) rfl rfl (.inl rfl) (rd e_int) (by intro _ _; rfl) (by decide +kernel) (by decide +kernel)) a_nil (by rfl)) (by rfl)) (by rfl))))))))))))
theorem ok__law_lean (G : Md P w base tb K mg) : Callee P w K mg base 1 "_law_lean" (SpM K mg tb [false] m__law_lean) := by
  obtain ⟨f, fd, hm, F, hb⟩ := G.fn__law_lean
  exact ⟨f, fd, _, hm, F.kp, hb, fn_def (more := [1, 4]) F sc__law_lean rfl (by decide) (by decide) (by decide) (bd__law_lean G)⟩
abbrev N__law_wild_book : List Str := ["bag", "letters", "laws", "turn", "pair", "one", "other"]
theorem sc__law_wild_book : FnScope N__law_wild_book ["bag", "letters"] (defScope (topS 77)) := ⟨rfl, rfl, rfl, by decide +kernel, rfl, by decide +kernel, by decide +kernel⟩
theorem bd__law_wild_book (G : Md P w base tb K mg) : Body P w K mg base tb N__law_wild_book "_law_wild_book" (defScope (topS 77)) 4 [0] 1 (defBody (topS 77)) (fun _ => Rp K) b__law_wild_book := fun f cdv A outer s H E H0 Z as hp C =>
    (ss_cons (s_set C.nd (i := 2) rfl (.inl rfl) (.inr rfl) (by decide) (e_lst a_nil) (by rfl))
    (ss_cons (s_for C (passes_of rfl) (w_range1 rfl G.b_range (e_op .add e_int (rd (e_call C (ok__law_take G) (by decide) rfl (x_ow (i := 0) (j := 0) rfl rfl (.inl rfl) (x_sh e_int x_nil (by rfl)) (by rfl) (by decide +kernel) (by decide +kernel)) (by decide) (by decide +kernel) (by rfl) (by rfl)))) (by rfl)) (g_nm C.nd (i := 3) rfl (.inl rfl) (.inr rfl)) (by decide) (ss_cons (s_set C.nd (i := 4) rfl (.inl rfl) (.inr rfl) (by decide) (e_call C (ok__law_pair G) (by decide) rfl (x_ow (i := 0) (j := 0) rfl rfl (.inl rfl) (x_sh (e_var (i := 1) rfl (.inl rfl) (by decide +kernel) (by decide +kernel)) (x_sh (e_call C (ok__law_some G) (by decide) rfl (x_ow (i := 0) (j := 0) rfl rfl (.inl rfl) (x_sh (e_lst (a_one e_int (a_one e_int (a_one e_int a_nil (by rfl)) (by rfl)) (by rfl))) x_nil (by rfl)) (by rfl) (by decide +kernel) (by decide +kernel)) (by decide) (by decide +kernel) (by rfl) (by rfl)) x_nil (by rfl)) (by rfl)) (by rfl) (by decide +kernel) (by decide +kernel)) (by decide) (by decide +kernel) (by rfl) (by rfl)) (by rfl))
    (ss_one (s_set C.nd (i := 2) rfl (.inl rfl) (.inr rfl) (by decide) (e_op .add (e_var (i := 2) rfl (.inl rfl) (by decide +kernel) (by decide +kernel)) (rd (e_if (t_cmp .nmem C (e_var (i := 4) rfl (.inl rfl) (by decide +kernel) (by decide +kernel)) (rd (e_var (i := 2) rfl (.inl rfl) (by decide +kernel) (by decide +kernel))) (by rfl)) (e_lst (a_one (e_var (i := 4) rfl (.inl rfl) (by decide +kernel) (by decide +kernel)) a_nil (by rfl))) (e_lst a_nil)))) (by rfl)))) (by intro _; rfl))
    (ss_cons (s_if (PW.pt (t_and (t_cmp .eq C (e_call C (ok__law_take G) (by decide) rfl (x_ow (i := 0) (j := 0) rfl rfl (.inl rfl) (x_sh e_int x_nil (by rfl)) (by rfl) (by decide +kernel) (by decide +kernel)) (by decide) (by decide +kernel) (by rfl) (by rfl)) (rd e_int) (by rfl)) (t_and1 (t_cmp .gt C (e_len rfl G.b_len (rd (e_var (i := 1) rfl (.inl rfl) (by decide +kernel) (by decide +kernel))) (by rfl)) (rd e_int) (by rfl))))) (ss_cons (s_par2 (q := (.sh 5 (e2 idxD (eVar 1) (eC (.int 0))))) (r := (.sh 6 (e2 idxD (eVar 1) (e1 negD (eC (.int 1)))))) C (i := 5) (j := 6) rfl rfl (by decide) rfl rfl ⟨rfl, by decide⟩ ⟨rfl, by decide⟩ (e_idx (e_var (i := 1) rfl (.inl rfl) (by decide +kernel) (by decide +kernel)) (rd e_int) (by intro _ _; rfl)) (e_idx (e_var (i := 1) rfl (.inl rfl) (by decide +kernel) (by decide +kernel)) (rd (e_neg e_int)) (by intro _ _; rfl)) (by rfl) (by rfl) (by rfl) (by rfl))
    (ss_cons (s_set C.nd (i := 4) rfl (.inl rfl) (.inr rfl) (by decide) (e_tup (a_one (e_op .add (e_op .add (e_var (i := 6) rfl (.inl rfl) (by decide +kernel) (by decide +kernel)) (rd (e_var (i := 5) rfl (.inl rfl) (by decide +kernel) (by decide +kernel)))) (rd (e_var (i := 6) rfl (.inl rfl) (by decide +kernel) (by decide +kernel)))) (a_one (e_op .add (e_op .add (e_var (i := 5) rfl (.inl rfl) (by decide +kernel) (by decide +kernel)) (rd (e_var (i := 6) rfl (.inl rfl) (by decide +kernel) (by decide +kernel)))) (rd (e_var (i := 5) rfl (.inl rfl) (by decide +kernel) (by decide +kernel)))) a_nil (by rfl)) (by rfl))) (by rfl))
    (ss_one (s_set C.nd (i := 2) rfl (.inl rfl) (.inr rfl) (by decide) (e_op .add (e_var (i := 2) rfl (.inl rfl) (by decide +kernel) (by decide +kernel)) (rd (e_if (t_cmp .nmem C (e_var (i := 4) rfl (.inl rfl) (by decide +kernel) (by decide +kernel)) (rd (e_var (i := 2) rfl (.inl rfl) (by decide +kernel) (by decide +kernel))) (by rfl)) (e_lst (a_one (e_var (i := 4) rfl (.inl rfl) (by decide +kernel) (by decide +kernel)) a_nil (by rfl))) (e_lst a_nil)))) (by rfl))))) ss_nil)
    (ss_one (s_ret (e_tup (a_one (e_str (by decide +kernel)) (a_one (e_var (i := 1) rfl (.inl rfl) (by decide +kernel) (by decide +kernel)) (a_one (e_tuple rfl G.b_tuple (rd (e_var (i := 2) rfl (.inl rfl) (by decide +kernel) (by decide +kernel))) (by rfl)) a_nil (by rfl)) (by rfl)) (by rfl))))))))
theorem ok__law_wild_book (G : Md P w base tb K mg) : Callee P w K mg base 5 "_law_wild_book" (SpM K mg tb [true, false] m__law_wild_book) := by
  obtain ⟨f, fd, hm, F, hb⟩ := G.fn__law_wild_book
  exact ⟨f, fd, _, hm, F.kp, hb, fn_def (more := []) F sc__law_wild_book rfl (by decide) (by decide) (by decide) (bd__law_wild_book G)⟩
abbrev N__law_back : List Str := ["row", "kind", "at", "place", "way"]
theorem sc__law_back : FnScope N__law_back ["row"] (defScope (topS 78)) := ⟨rfl, rfl, rfl, by decide +kernel, rfl, by decide +kernel, by decide +kernel⟩
theorem bd__law_back (G : Md P w base tb K mg) : Body P w K mg base tb N__law_back "_law_back" (defScope (topS 78)) 0 [] 0 (defBody (topS 78)) (fun _ => Rp K) b__law_back := fun f cdv A outer s H E H0 Z as hp C =>
    (ss_one (s_ret (e_tuple rfl G.b_tuple (rd (e_lc C (w_of (e_rev (rd (e_var (i := 0) rfl (.inl rfl) (by decide +kernel) (by decide +kernel))))) (blkOk_by (show blkC N__law_back (defScope (topS 78)) _ [("kind", 1), ("at", 2), ("place", 3), ("way", 4)] = true by decide +kernel)) (fun _ _ _ _ _ => (g_tup C.blk.calm (g_cons (g_nm C.blk.nd (i := 1) rfl (.inl rfl) (.inr rfl)) (g_cons (g_nm C.blk.nd (i := 2) rfl (.inl rfl) (.inr rfl)) (g_cons (g_nm C.blk.nd (i := 3) rfl (.inl rfl) (.inr rfl)) (g_cons (g_nm C.blk.nd (i := 4) rfl (.inl rfl) (.inr rfl)) g_nil (by rfl)) (by rfl)) (by rfl)) (by rfl)) (by rfl) (by rfl))) (fun _ _ _ _ _ => ts_nil) (fun _ _ _ _ _ => (e_tup (a_one (e_var (i := 1) rfl (.inl rfl) (by decide +kernel) (by decide +kernel)) (a_one (e_var (i := 2) rfl (.inl rfl) (by decide +kernel) (by decide +kernel)) (a_one (e_var (i := 3) rfl (.inl rfl) (by decide +kernel) (by decide +kernel)) (a_one (e_op .sub e_int (rd (e_var (i := 4) rfl (.inl rfl) (by decide +kernel) (by decide +kernel)))) a_nil (by rfl)) (by rfl)) (by rfl)) (by rfl)))) rfl (by decide) (by decide) (by intro _; rfl))) (by rfl))))
theorem ok__law_back (G : Md P w base tb K mg) : Callee P w K mg base 1 "_law_back" (SpM K mg tb [false] m__law_back) := by
  obtain ⟨f, fd, hm, F, hb⟩ := G.fn__law_back
  exact ⟨f, fd, _, hm, F.kp, hb, fn_def (more := []) F sc__law_back rfl (by decide) (by decide) (by decide) (bd__law_back G)⟩
abbrev N__law_further : List Str := ["row", "many", "kind", "at", "place", "way"]
theorem sc__law_further : FnScope N__law_further ["row", "many"] (defScope (topS 79)) := ⟨rfl, rfl, rfl, by decide +kernel, rfl, by decide +kernel, by decide +kernel⟩
theorem bd__law_further (G : Md P w base tb K mg) : Body P w K mg base tb N__law_further "_law_further" (defScope (topS 79)) 0 [] 0 (defBody (topS 79)) (fun _ => Rp K) b__law_further := fun f cdv A outer s H E H0 Z as hp C =>
    (ss_one (s_ret (e_tuple rfl G.b_tuple (rd (e_lc C (w_of (e_var (i := 0) rfl (.inl rfl) (by decide +kernel) (by decide +kernel))) (blkOk_by (show blkC N__law_further (defScope (topS 79)) _ [("kind", 2), ("at", 3), ("place", 4), ("way", 5)] = true by decide +kernel)) (fun _ _ _ _ _ => (g_tup C.blk.calm (g_cons (g_nm C.blk.nd (i := 2) rfl (.inl rfl) (.inr rfl)) (g_cons (g_nm C.blk.nd (i := 3) rfl (.inl rfl) (.inr rfl)) (g_cons (g_nm C.blk.nd (i := 4) rfl (.inl rfl) (.inr rfl)) (g_cons (g_nm C.blk.nd (i := 5) rfl (.inl rfl) (.inr rfl)) g_nil (by rfl)) (by rfl)) (by rfl)) (by rfl)) (by rfl) (by rfl))) (fun _ _ _ _ _ => ts_nil) (fun _ _ _ _ _ => (e_tup (a_one (e_var (i := 2) rfl (.inl rfl) (by decide +kernel) (by decide +kernel)) (a_one (e_op .add (e_var (i := 3) rfl (.inl rfl) (by decide +kernel) (by decide +kernel)) (rd (e_op .mul (e_var (i := 1) rfl (.inr (.inl rfl)) (by decide +kernel) (by decide +kernel)) (rd (e_var (i := 2) rfl (.inl rfl) (by decide +kernel) (by decide +kernel)))))) (a_one (e_var (i := 4) rfl (.inl rfl) (by decide +kernel) (by decide +kernel)) (a_one (e_var (i := 5) rfl (.inl rfl) (by decide +kernel) (by decide +kernel)) a_nil (by rfl)) (by rfl)) (by rfl)) (by rfl)))) rfl (by decide) (by decide) (by intro _; rfl))) (by rfl))))
theorem ok__law_further (G : Md P w base tb K mg) : Callee P w K mg base 1 "_law_further" (SpM K mg tb [false, false] m__law_further) := by
  obtain ⟨f, fd, hm, F, hb⟩ := G.fn__law_further
  exact ⟨f, fd, _, hm, F.kp, hb, fn_def (more := []) F sc__law_further rfl (by decide) (by decide) (by decide) (bd__law_further G)⟩
abbrev N__law_papers_right : List Str := ["bag", "book", "word", "many", "lines", "due", "row", "some", "first", "middle", "second", "last", "turned", "joined", "ahead", "behind", "placed", "lean", "one", "other", "paper", "kind", "at", "place", "way"]
theorem sc__law_papers_right : FnScope N__law_papers_right ["bag", "book", "word"] (defScope (topS 80)) := ⟨rfl, rfl, rfl, by decide +kernel, rfl, by decide +kernel, by decide +kernel⟩
theorem bd__law_papers_right (G : Md P w base tb K mg) : Body P w K mg base tb N__law_papers_right "_law_papers_right" (defScope (topS 80)) 10 [0, 7] 1 (defBody (topS 80)) (fun _ => Rp K) b__law_papers_right := fun f cdv A outer s H E H0 Z as hp C =>
    (ss_cons (s_tup (g_tup C.calm (g_cons (g_nm C.nd (i := 8) rfl (.inl rfl) (.inr rfl)) (g_cons (g_nm C.nd (i := 9) rfl (.inl rfl) (.inr rfl)) g_nil (by rfl)) (by rfl)) (by rfl) (by rfl)) (by decide) (e_call C (ok__law_paper G) (by decide) rfl (x_ow (i := 0) (j := 0) rfl rfl (.inl rfl) (x_sh (e_var (i := 1) rfl (.inl rfl) (by decide +kernel) (by decide +kernel)) (x_sh (e_var (i := 2) rfl (.inl rfl) (by decide +kernel) (by decide +kernel)) (x_sh e_int x_nil (by rfl)) (by rfl)) (by rfl)) (by rfl) (by decide +kernel) (by decide +kernel)) (by decide) (by decide +kernel) (by rfl) (by rfl)) (by rfl) (by rfl) (by rfl))
    (ss_cons (s_tup (g_tup C.calm (g_cons (g_nm C.nd (i := 10) rfl (.inl rfl) (.inr rfl)) (g_cons (g_nm C.nd (i := 11) rfl (.inl rfl) (.inr rfl)) g_nil (by rfl)) (by rfl)) (by rfl) (by rfl)) (by decide) (e_call C (ok__law_paper G) (by decide) rfl (x_ow (i := 0) (j := 0) rfl rfl (.inl rfl) (x_sh (e_var (i := 1) rfl (.inl rfl) (by decide +kernel) (by decide +kernel)) (x_sh (e_var (i := 9) rfl (.inl rfl) (by decide +kernel) (by decide +kernel)) (x_sh e_int x_nil (by rfl)) (by rfl)) (by rfl)) (by rfl) (by decide +kernel) (by decide +kernel)) (by decide) (by decide +kernel) (by rfl) (by rfl)) (by rfl) (by rfl) (by rfl))
    (ss_cons (s_set C.nd (i := 3) rfl (.inr rfl) (.inl rfl) (by decide) (e_len rfl G.b_len (rd (e_idx (e_var (i := 8) rfl (.inl rfl) (by decide +kernel) (by decide +kernel)) (rd e_int) (by intro _ _; rfl))) (by rfl)) (by rfl))
    (ss_cons (s_set C.nd (i := 4) rfl (.inl rfl) (.inr rfl) (by decide) (e_op .add (e_idx (e_var (i := 8) rfl (.inl rfl) (by decide +kernel) (by decide +kernel)) (rd e_int) (by intro _ _; rfl)) (rd (e_tuple rfl G.b_tuple (rd (e_lc C (w_of (e_idx (e_var (i := 10) rfl (.inl rfl) (by decide +kernel) (by decide +kernel)) (rd e_int) (by intro _ _; rfl))) (blkOk_by (show blkC N__law_papers_right (defScope (topS 80)) _ [("one", 18), ("other", 19), ("row", 6)] = true by decide +kernel)) (fun _ _ _ _ _ => (g_tup C.blk.calm (g_cons (g_nm C.blk.nd (i := 18) rfl (.inl rfl) (.inr rfl)) (g_cons (g_nm C.blk.nd (i := 19) rfl (.inl rfl) (.inr rfl)) (g_cons (g_nm C.blk.nd (i := 6) rfl (.inl rfl) (.inr rfl)) g_nil (by rfl)) (by rfl)) (by rfl)) (by rfl) (by rfl))) (fun _ _ _ _ _ => ts_nil) (fun _ _ _ _ _ => (e_tup (a_one (e_var (i := 18) rfl (.inl rfl) (by decide +kernel) (by decide +kernel)) (a_one (e_var (i := 19) rfl (.inl rfl) (by decide +kernel) (by decide +kernel)) (a_one (e_call C.blk (ok__law_further G) (by decide) rfl (x_sh (e_var (i := 6) rfl (.inl rfl) (by decide +kernel) (by decide +kernel)) (x_sh (e_var (i := 3) rfl (.inr (.inl rfl)) (by decide +kernel) (by decide +kernel)) x_nil (by rfl)) (by rfl)) (by decide) (by decide +kernel) (by rfl) (by rfl)) a_nil (by rfl)) (by rfl)) (by rfl)))) rfl (by decide) (by decide) (by intro _; rfl))) (by rfl)))) (by rfl))
    (ss_cons (s_set C.nd (i := 5) rfl (.inl rfl) (.inr rfl) (by decide) (e_tup (a_one (e_str (by decide +kernel)) (a_one (e_var (i := 4) rfl (.inl rfl) (by decide +kernel) (by decide +kernel)) (a_one (e_op .add (e_idx (e_var (i := 8) rfl (.inl rfl) (by decide +kernel) (by decide +kernel)) (rd e_int) (by intro _ _; rfl)) (rd (e_call C (ok__law_further G) (by decide) rfl (x_sh (e_idx (e_var (i := 10) rfl (.inl rfl) (by decide +kernel) (by decide +kernel)) (rd e_int) (by intro _ _; rfl)) (x_sh (e_var (i := 3) rfl (.inr (.inl rfl)) (by decide +kernel) (by decide +kernel)) x_nil (by rfl)) (by rfl)) (by decide) (by decide +kernel) (by rfl) (by rfl)))) a_nil (by rfl)) (by rfl)) (by rfl))) (by rfl))
    (ss_cons (s_par2 (q := (.sh 12 (eCall m_turned_paper [.sh (eVar 8)]))) (r := (.sh 13 (eCall m_joined_papers [.sh (eVar 8), .sh (eVar 10)]))) C (i := 12) (j := 13) rfl rfl (by decide) rfl rfl ⟨rfl, by decide⟩ ⟨rfl, by decide⟩ (e_call C (ok_turned_paper G) (by decide) rfl (x_sh (e_var (i := 8) rfl (.inl rfl) (by decide +kernel) (by decide +kernel)) x_nil (by rfl)) (by decide) (by decide +kernel) (by rfl) (by rfl)) (e_call C (ok_joined_papers G) (by decide) rfl (x_sh (e_var (i := 8) rfl (.inl rfl) (by decide +kernel) (by decide +kernel)) (x_sh (e_var (i := 10) rfl (.inl rfl) (by decide +kernel) (by decide +kernel)) x_nil (by rfl)) (by rfl)) (by decide) (by decide +kernel) (by rfl) (by rfl)) (by rfl) (by rfl) (by rfl) (by rfl))
    (ss_cons (s_if (t_not (t_tru (rd (e_call C (ok__law_alike G) (by decide) rfl (x_sh (e_lst (a_one (e_var (i := 12) rfl (.inl rfl) (by decide +kernel) (by decide +kernel)) (a_one (e_var (i := 13) rfl (.inl rfl) (by decide +kernel) (by decide +kernel)) a_nil (by rfl)) (by rfl))) (x_sh (e_lst (a_one (e_tup (a_one (e_str (by decide +kernel)) (a_one (e_idx (e_var (i := 8) rfl (.inl rfl) (by decide +kernel) (by decide +kernel)) (rd e_int) (by intro _ _; rfl)) (a_one (e_call C (ok__law_back G) (by decide) rfl (x_sh (e_idx (e_var (i := 8) rfl (.inl rfl) (by decide +kernel) (by decide +kernel)) (rd e_int) (by intro _ _; rfl)) x_nil (by rfl)) (by decide) (by decide +kernel) (by rfl) (by rfl)) a_nil (by rfl)) (by rfl)) (by rfl))) (a_one (e_var (i := 5) rfl (.inl rfl) (by decide +kernel) (by decide +kernel)) a_nil (by rfl)) (by rfl))) x_nil (by rfl)) (by rfl)) (by decide) (by decide +kernel) (by rfl) (by rfl))) (by intro _; rfl))) (ss_one (s_ret e_bl)) ss_nil)
    (ss_cons (s_tup (g_tup C.calm (g_cons (g_nm C.nd (i := 14) rfl (.inr rfl) (.inl rfl)) (g_cons (g_nm C.nd (i := 15) rfl (.inl rfl) (.inr rfl)) g_nil (by rfl)) (by rfl)) (by rfl) (by rfl)) (by decide) (e_tup (a_one (e_call C (ok__law_word G) (by decide) rfl (x_ow (i := 0) (j := 0) rfl rfl (.inl rfl) (x_sh (e_idx (e_var (i := 1) rfl (.inl rfl) (by decide +kernel) (by decide +kernel)) (rd e_int) (by intro _ _; rfl)) (x_sh e_int x_nil (by rfl)) (by rfl)) (by rfl) (by decide +kernel) (by decide +kernel)) (by decide) (by decide +kernel) (by rfl) (by rfl)) (a_one (e_call C (ok__law_word G) (by decide) rfl (x_ow (i := 0) (j := 0) rfl rfl (.inl rfl) (x_sh (e_idx (e_var (i := 1) rfl (.inl rfl) (by decide +kernel) (by decide +kernel)) (rd e_int) (by intro _ _; rfl)) (x_sh e_int x_nil (by rfl)) (by rfl)) (by rfl) (by decide +kernel) (by decide +kernel)) (by decide) (by decide +kernel) (by rfl) (by rfl)) a_nil (by rfl)) (by rfl))) (by rfl) (by rfl) (by rfl))
    (ss_cons (s_set C.nd (i := 6) rfl (.inl rfl) (.inr rfl) (by decide) (e_tuple rfl G.b_tuple (rd (e_lc C (w_of (e_idx (e_var (i := 8) rfl (.inl rfl) (by decide +kernel) (by decide +kernel)) (rd e_int) (by intro _ _; rfl))) (blkOk_by (show blkC N__law_papers_right (defScope (topS 80)) _ [("kind", 21), ("at", 22), ("place", 23), ("way", 24)] = true by decide +kernel)) (fun _ _ _ _ _ => (g_tup C.blk.calm (g_cons (g_nm C.blk.nd (i := 21) rfl (.inl rfl) (.inr rfl)) (g_cons (g_nm C.blk.nd (i := 22) rfl (.inl rfl) (.inr rfl)) (g_cons (g_nm C.blk.nd (i := 23) rfl (.inl rfl) (.inr rfl)) (g_cons (g_nm C.blk.nd (i := 24) rfl (.inl rfl) (.inr rfl)) g_nil (by rfl)) (by rfl)) (by rfl)) (by rfl)) (by rfl) (by rfl))) (fun _ _ _ _ _ => ts_nil) (fun _ _ _ _ _ => (e_tup (a_one (e_var (i := 21) rfl (.inl rfl) (by decide +kernel) (by decide +kernel)) (a_one (e_var (i := 22) rfl (.inl rfl) (by decide +kernel) (by decide +kernel)) (a_one (e_op .add (e_var (i := 23) rfl (.inl rfl) (by decide +kernel) (by decide +kernel)) (rd (e_len rfl G.b_len (rd (e_var (i := 14) rfl (.inr (.inl rfl)) (by decide +kernel) (by decide +kernel))) (by rfl)))) (a_one (e_var (i := 24) rfl (.inl rfl) (by decide +kernel) (by decide +kernel)) a_nil (by rfl)) (by rfl)) (by rfl)) (by rfl)))) rfl (by decide) (by decide) (by intro _; rfl))) (by rfl)) (by rfl))
    (ss_cons (s_par2 (q := (.sh 16 (eCall m_placed_paper [.sh (eVar 8), .sh (eVar 14)]))) (r := (.sh 17 (eCall m_lean_paper [.sh (eVar 13)]))) C (i := 16) (j := 17) rfl rfl (by decide) rfl rfl ⟨rfl, by decide⟩ ⟨rfl, by decide⟩ (e_call C (ok_placed_paper G) (by decide) rfl (x_sh (e_var (i := 8) rfl (.inl rfl) (by decide +kernel) (by decide +kernel)) (x_sh (e_var (i := 14) rfl (.inr (.inl rfl)) (by decide +kernel) (by decide +kernel)) x_nil (by rfl)) (by rfl)) (by decide) (by decide +kernel) (by rfl) (by rfl)) (e_call C (ok_lean_paper G) (by decide) rfl (x_sh (e_var (i := 13) rfl (.inl rfl) (by decide +kernel) (by decide +kernel)) x_nil (by rfl)) (by decide) (by decide +kernel) (by rfl) (by rfl)) (by rfl) (by rfl) (by rfl) (by rfl))
    (ss_cons (s_if (t_not (t_tru (rd (e_call C (ok__law_alike G) (by decide) rfl (x_sh (e_lst (a_one (e_var (i := 16) rfl (.inl rfl) (by decide +kernel) (by decide +kernel)) (a_one (e_var (i := 17) rfl (.inl rfl) (by decide +kernel) (by decide +kernel)) (a_one (e_call C (ok_lean_paper G) (by decide) rfl (x_sh (e_var (i := 17) rfl (.inl rfl) (by decide +kernel) (by decide +kernel)) x_nil (by rfl)) (by decide) (by decide +kernel) (by rfl) (by rfl)) a_nil (by rfl)) (by rfl)) (by rfl))) (x_sh (e_lst (a_one (e_tup (a_one (e_str (by decide +kernel)) (a_one (e_idx (e_var (i := 8) rfl (.inl rfl) (by decide +kernel) (by decide +kernel)) (rd e_int) (by intro _ _; rfl)) (a_one (e_var (i := 6) rfl (.inl rfl) (by decide +kernel) (by decide +kernel)) a_nil (by rfl)) (by rfl)) (by rfl))) (a_one (e_call C (ok__law_lean G) (by decide) rfl (x_sh (e_var (i := 5) rfl (.inl rfl) (by decide +kernel) (by decide +kernel)) x_nil (by rfl)) (by decide) (by decide +kernel) (by rfl) (by rfl)) (a_one (e_call C (ok__law_lean G) (by decide) rfl (x_sh (e_var (i := 5) rfl (.inl rfl) (by decide +kernel) (by decide +kernel)) x_nil (by rfl)) (by decide) (by decide +kernel) (by rfl) (by rfl)) a_nil (by rfl)) (by rfl)) (by rfl))) x_nil (by rfl)) (by rfl)) (by decide) (by decide +kernel) (by rfl) (by rfl))) (by intro _; rfl))) (ss_one (s_ret e_bl)) ss_nil)
    (ss_cons (s_own (i := 7) C.nd rfl (np_of hp (by decide)) rfl (.inl rfl) (.inr rfl) (f_lst (a_one (e_tup (a_one (e_var (i := 9) rfl (.inl rfl) (by decide +kernel) (by decide +kernel)) (a_one (e_var (i := 2) rfl (.inl rfl) (by decide +kernel) (by decide +kernel)) (a_one (e_var (i := 12) rfl (.inl rfl) (by decide +kernel) (by decide +kernel)) a_nil (by rfl)) (by rfl)) (by rfl))) (a_one (e_tup (a_one (e_var (i := 2) rfl (.inl rfl) (by decide +kernel) (by decide +kernel)) (a_one (e_var (i := 11) rfl (.inl rfl) (by decide +kernel) (by decide +kernel)) (a_one (e_var (i := 13) rfl (.inl rfl) (by decide +kernel) (by decide +kernel)) a_nil (by rfl)) (by rfl)) (by rfl))) (a_one (e_tup (a_one (e_var (i := 2) rfl (.inl rfl) (by decide +kernel) (by decide +kernel)) (a_one (e_var (i := 11) rfl (.inl rfl) (by decide +kernel) (by decide +kernel)) (a_one (e_var (i := 17) rfl (.inl rfl) (by decide +kernel) (by decide +kernel)) a_nil (by rfl)) (by rfl)) (by rfl))) (a_one (e_tup (a_one (e_var (i := 11) rfl (.inl rfl) (by decide +kernel) (by decide +kernel)) (a_one (e_var (i := 2) rfl (.inl rfl) (by decide +kernel) (by decide +kernel)) (a_one (e_call C (ok_turned_paper G) (by decide) rfl (x_sh (e_var (i := 17) rfl (.inl rfl) (by decide +kernel) (by decide +kernel)) x_nil (by rfl)) (by decide) (by decide +kernel) (by rfl) (by rfl)) a_nil (by rfl)) (by rfl)) (by rfl))) a_nil (by rfl)) (by rfl)) (by rfl)) (by rfl))) (by rfl))
    (ss_cons (s_mut (i := 7) mu_append PySem.F.slot_list_append PySem.F.type_list_append mt_append rfl rfl (.inl rfl) (a_one (e_tup (a_one (e_op .add (e_op .add (e_var (i := 14) rfl (.inr (.inl rfl)) (by decide +kernel) (by decide +kernel)) (rd (e_var (i := 2) rfl (.inl rfl) (by decide +kernel) (by decide +kernel)))) (rd (e_var (i := 15) rfl (.inl rfl) (by decide +kernel) (by decide +kernel)))) (a_one (e_op .add (e_op .add (e_var (i := 14) rfl (.inr (.inl rfl)) (by decide +kernel) (by decide +kernel)) (rd (e_var (i := 9) rfl (.inl rfl) (by decide +kernel) (by decide +kernel)))) (rd (e_var (i := 15) rfl (.inl rfl) (by decide +kernel) (by decide +kernel)))) (a_one (e_var (i := 16) rfl (.inl rfl) (by decide +kernel) (by decide +kernel)) a_nil (by rfl)) (by rfl)) (by rfl))) a_nil (by rfl)) (by rfl) (by rfl) (by rfl) (by rfl) (by rfl) (by rfl) (by decide +kernel) (by decide +kernel))
    (ss_cons (s_for C (passes_of rfl) (w_of (e_give (i := 7) (j := 1) rfl (np_of hp (by decide)) rfl (.inl rfl) (by decide +kernel) (by decide +kernel))) (g_tup C.calm (g_cons (g_nm C.nd (i := 18) rfl (.inl rfl) (.inr rfl)) (g_cons (g_nm C.nd (i := 19) rfl (.inl rfl) (.inr rfl)) (g_cons (g_nm C.nd (i := 20) rfl (.inl rfl) (.inr rfl)) g_nil (by rfl)) (by rfl)) (by rfl)) (by rfl) (by rfl)) (by decide) (ss_cons (s_if (PW.pt (t_or (t_not (t_tru (rd (e_call C (ok__law_shows G) (by decide) rfl (x_sh (e_var (i := 1) rfl (.inl rfl) (by decide +kernel) (by decide +kernel)) (x_sh (e_var (i := 18) rfl (.inl rfl) (by decide +kernel) (by decide +kernel)) (x_sh (e_var (i := 19) rfl (.inl rfl) (by decide +kernel) (by decide +kernel)) (x_sh (e_var (i := 20) rfl (.inl rfl) (by decide +kernel) (by decide +kernel)) x_nil (by rfl)) (by rfl)) (by rfl)) (by rfl)) (by decide) (by decide +kernel) (by rfl) (by rfl))) (by intro _; rfl))) (t_or1 (t_cmp .notN C (e_call C (ok_shows_alike G) (by decide) rfl (x_sh (e_var (i := 1) rfl (.inl rfl) (by decide +kernel) (by decide +kernel)) (x_sh (e_var (i := 18) rfl (.inl rfl) (by decide +kernel) (by decide +kernel)) (x_sh (e_var (i := 19) rfl (.inl rfl) (by decide +kernel) (by decide +kernel)) (x_sh (e_var (i := 20) rfl (.inl rfl) (by decide +kernel) (by decide +kernel)) x_nil (by rfl)) (by rfl)) (by rfl)) (by rfl)) (by decide) (by decide +kernel) (by rfl) (by rfl)) (rd e_bl) (by rfl))))) (ss_one (s_ret e_bl)) ss_nil)
    (ss_one (s_if (PW.pt (t_or (t_cmp .notN C (e_call C (ok_lines_fault G) (by decide) rfl (x_sh (e_var (i := 1) rfl (.inl rfl) (by decide +kernel) (by decide +kernel)) (x_sh (e_idx (e_var (i := 20) rfl (.inl rfl) (by decide +kernel) (by decide +kernel)) (rd e_int) (by intro _ _; rfl)) x_nil (by rfl)) (by rfl)) (by decide) (by decide +kernel) (by rfl) (by rfl)) (rd e_non) (by rfl)) (t_or1 (t_tru (rd (e_call C (ok_shows_alike G) (by decide) rfl (x_sh (e_var (i := 1) rfl (.inl rfl) (by decide +kernel) (by decide +kernel)) (x_sh (e_var (i := 18) rfl (.inl rfl) (by decide +kernel) (by decide +kernel)) (x_sh (e_op .add (e_var (i := 19) rfl (.inl rfl) (by decide +kernel) (by decide +kernel)) (rd (e_idx (e_idx (e_var (i := 1) rfl (.inl rfl) (by decide +kernel) (by decide +kernel)) (rd e_int) (by intro _ _; rfl)) (rd e_int) (by intro _ _; rfl)))) (x_sh (e_var (i := 20) rfl (.inl rfl) (by decide +kernel) (by decide +kernel)) x_nil (by rfl)) (by rfl)) (by rfl)) (by rfl)) (by decide) (by decide +kernel) (by rfl) (by rfl))) (by intro _; rfl))))) (ss_one (s_ret e_bl)) ss_nil))) (by intro _; rfl))
    (ss_one (s_ret (e_and (e_cmp .eq C (e_call C (ok_turned_paper G) (by decide) rfl (x_sh (e_var (i := 12) rfl (.inl rfl) (by decide +kernel) (by decide +kernel)) x_nil (by rfl)) (by decide) (by decide +kernel) (by rfl) (by rfl)) (rd (e_var (i := 8) rfl (.inl rfl) (by decide +kernel) (by decide +kernel))) (by rfl)) (e_one (e_cmp .le C (e_len rfl G.b_len (rd (e_idx (e_var (i := 17) rfl (.inl rfl) (by decide +kernel) (by decide +kernel)) (rd e_int) (by intro _ _; rfl))) (by rfl)) (rd (e_len rfl G.b_len (rd (e_idx (e_var (i := 13) rfl (.inl rfl) (by decide +kernel) (by decide +kernel)) (rd e_int) (by intro _ _; rfl))) (by rfl))) (by rfl))))))))))))))))))))
theorem ok__law_papers_right (G : Md P w base tb K mg) : Callee P w K mg base 11 "_law_papers_right" (SpM K mg tb [true, false, false] m__law_papers_right) := by
  obtain ⟨f, fd, hm, F, hb⟩ := G.fn__law_papers_right
  exact ⟨f, fd, _, hm, F.kp, hb, fn_def (more := [7]) F sc__law_papers_right rfl (by decide) (by decide) (by decide) (bd__law_papers_right G)⟩
abbrev N__law_steps_right : List Str := ["bag", "book", "word", "steps", "row", "other", "use"]
theorem sc__law_steps_right : FnScope N__law_steps_right ["bag", "book", "word"] (defScope (topS 81)) := ⟨rfl, rfl, rfl, by decide +kernel, rfl, by decide +kernel, by decide +kernel⟩
theorem bd__law_steps_right (G : Md P w base tb K mg) : Body P w K mg base tb N__law_steps_right "_law_steps_right" (defScope (topS 81)) 10 [0] 1 (defBody (topS 81)) (fun _ => Rp K) b__law_steps_right := fun f cdv A outer s H E H0 Z as hp C =>
    (ss_cons (s_tup (g_tup C.calm (g_cons (g_nm C.nd (i := 4) rfl (.inl rfl) (.inr rfl)) (g_cons (g_nm C.nd (i := 5) rfl (.inl rfl) (.inr rfl)) g_nil (by rfl)) (by rfl)) (by rfl) (by rfl)) (by decide) (e_call C (ok__law_walk G) (by decide) rfl (x_ow (i := 0) (j := 0) rfl rfl (.inl rfl) (x_sh (e_var (i := 1) rfl (.inl rfl) (by decide +kernel) (by decide +kernel)) (x_sh (e_tup a_nil) (x_sh (e_var (i := 2) rfl (.inl rfl) (by decide +kernel) (by decide +kernel)) (x_sh (e_call C (ok__law_take G) (by decide) rfl (x_ow (i := 0) (j := 0) rfl rfl (.inl rfl) (x_sh e_int x_nil (by rfl)) (by rfl) (by decide +kernel) (by decide +kernel)) (by decide) (by decide +kernel) (by rfl) (by rfl)) (x_sh e_int x_nil (by rfl)) (by rfl)) (by rfl)) (by rfl)) (by rfl)) (by rfl) (by decide +kernel) (by decide +kernel)) (by decide) (by decide +kernel) (by rfl) (by rfl)) (by rfl) (by rfl) (by rfl))
    (ss_cons (s_set C.nd (i := 3) rfl (.inl rfl) (.inr rfl) (by decide) (e_tuple rfl G.b_tuple (rd (e_lc C (w_of (e_var (i := 4) rfl (.inl rfl) (by decide +kernel) (by decide +kernel))) (blkOk_by (show blkC N__law_steps_right (defScope (topS 81)) _ [("use", 6)] = true by decide +kernel)) (fun _ _ _ _ _ => (g_nm C.blk.nd (i := 6) rfl (.inl rfl) (.inr rfl))) (fun _ _ _ _ _ => ts_nil) (fun _ _ _ _ _ => (e_sl (e_var (i := 6) rfl (.inl rfl) (by decide +kernel) (by decide +kernel)) (o_some e_int) o_none)) rfl (by decide) (by decide) (by intro _; rfl))) (by rfl)) (by rfl))
    (ss_one (s_ret (e_and (e_call C (ok__law_alike G) (by decide) rfl (x_sh (e_call C (ok_step_paper G) (by decide) rfl (x_sh (e_var (i := 3) rfl (.inl rfl) (by decide +kernel) (by decide +kernel)) x_nil (by rfl)) (by decide) (by decide +kernel) (by rfl) (by rfl)) (x_sh (e_tup (a_one (e_str (by decide +kernel)) (a_one (e_tup a_nil) (a_one (e_var (i := 4) rfl (.inl rfl) (by decide +kernel) (by decide +kernel)) a_nil (by rfl)) (by rfl)) (by rfl))) x_nil (by rfl)) (by rfl)) (by decide) (by decide +kernel) (by rfl) (by rfl)) (e_one (e_call C (ok_shows_alike G) (by decide) rfl (x_sh (e_var (i := 1) rfl (.inl rfl) (by decide +kernel) (by decide +kernel)) (x_sh (e_var (i := 2) rfl (.inl rfl) (by decide +kernel) (by decide +kernel)) (x_sh (e_var (i := 5) rfl (.inl rfl) (by decide +kernel) (by decide +kernel)) (x_sh (e_call C (ok_step_paper G) (by decide) rfl (x_sh (e_var (i := 3) rfl (.inl rfl) (by decide +kernel) (by decide +kernel)) x_nil (by rfl)) (by decide) (by decide +kernel) (by rfl) (by rfl)) x_nil (by rfl)) (by rfl)) (by rfl)) (by rfl)) (by decide) (by decide +kernel) (by rfl) (by rfl))))))))
theorem ok__law_steps_right (G : Md P w base tb K mg) : Callee P w K mg base 11 "_law_steps_right" (SpM K mg tb [true, false, false] m__law_steps_right) := by
  obtain ⟨f, fd, hm, F, hb⟩ := G.fn__law_steps_right
  exact ⟨f, fd, _, hm, F.kp, hb, fn_def (more := []) F sc__law_steps_right rfl (by decide) (by decide) (by decide) (bd__law_steps_right G)⟩
abbrev N__law_limits_right : List Str := ["bag", "book", "many", "found", "wide", "long", "both", "one", "other", "line", "row", "mine", "its"]
theorem sc__law_limits_right : FnScope N__law_limits_right ["bag", "book"] (defScope (topS 82)) := ⟨rfl, rfl, rfl, by decide +kernel, rfl, by decide +kernel, by decide +kernel⟩
theorem bd__law_limits_right (G : Md P w base tb K mg) {c : Addr} (L : LamAt base mg tb c "_law_limits_right.<locals>.<lambda>") : BodyC P w K mg base tb N__law_limits_right "_law_limits_right" (defScope (topS 82)) 6 [0] 1 (defBody (topS 82)) (fun _ => Rp K) b__law_limits_right (.ref c) := fun f A outer s H E H0 Z as hp C =>
    (ss_cons (s_tup (g_tup C.calm (g_cons (g_nm C.nd (i := 7) rfl (.inl rfl) (.inr rfl)) (g_cons (g_nm C.nd (i := 8) rfl (.inl rfl) (.inr rfl)) g_nil (by rfl)) (by rfl)) (by rfl) (by rfl)) (by decide) (e_idx (e_idx (e_var (i := 1) rfl (.inl rfl) (by decide +kernel) (by decide +kernel)) (rd e_int) (by intro _ _; rfl)) (rd e_int) (by intro _ _; rfl)) (by rfl) (by rfl) (by rfl))
    (ss_cons (s_tup (g_tup C.calm (g_cons (g_nm C.nd (i := 9) rfl (.inr rfl) (.inl rfl)) (g_cons (g_nm C.nd (i := 10) rfl (.inr rfl) (.inl rfl)) g_nil (by rfl)) (by rfl)) (by rfl) (by rfl)) (by decide) (e_tup (a_one (e_tup (a_one (e_var (i := 7) rfl (.inl rfl) (by decide +kernel) (by decide +kernel)) (a_one (e_var (i := 8) rfl (.inl rfl) (by decide +kernel) (by decide +kernel)) (a_one (e_tup (a_one (e_tup (a_one e_int (a_one e_int (a_one e_int (a_one e_int a_nil (by rfl)) (by rfl)) (by rfl)) (by rfl))) a_nil (by rfl))) a_nil (by rfl)) (by rfl)) (by rfl))) (a_one (e_tup (a_one (e_tup (a_one e_int (a_one e_int (a_one e_int (a_one e_int a_nil (by rfl)) (by rfl)) (by rfl)) (by rfl))) (a_one (e_tup (a_one e_int (a_one e_int (a_one e_int (a_one e_int a_nil (by rfl)) (by rfl)) (by rfl)) (by rfl))) a_nil (by rfl)) (by rfl))) a_nil (by rfl)) (by rfl))) (by rfl) (by rfl) (by rfl))
    (ss_cons (s_set C.nd (i := 2) rfl (.inl rfl) (.inr rfl) (by decide) (e_op .add e_int (rd (e_call C (ok__law_take G) (by decide) rfl (x_ow (i := 0) (j := 0) rfl rfl (.inl rfl) (x_sh e_int x_nil (by rfl)) (by rfl) (by decide +kernel) (by decide +kernel)) (by decide) (by decide +kernel) (by rfl) (by rfl)))) (by rfl))
    (ss_cons (s_tup (g_tup C.calm (g_cons (g_nm C.nd (i := 11) rfl (.inr rfl) (.inl rfl)) (g_cons (g_nm C.nd (i := 12) rfl (.inr rfl) (.inl rfl)) g_nil (by rfl)) (by rfl)) (by rfl) (by rfl)) (by decide) (e_tup (a_one (e_tup (a_one (e_str (by decide +kernel)) (a_one (e_op .mul (e_tup (a_one (e_var (i := 9) rfl (.inr (.inl rfl)) (by decide +kernel) (by decide +kernel)) a_nil (by rfl))) (rd (e_var (i := 2) rfl (.inl rfl) (by decide +kernel) (by decide +kernel)))) (a_one (e_var (i := 10) rfl (.inr (.inl rfl)) (by decide +kernel) (by decide +kernel)) a_nil (by rfl)) (by rfl)) (by rfl))) (a_one (e_tup (a_one (e_str (by decide +kernel)) (a_one (e_op .mul (e_tup (a_one (e_var (i := 9) rfl (.inr (.inl rfl)) (by decide +kernel) (by decide +kernel)) a_nil (by rfl))) (rd e_int)) (a_one (e_var (i := 10) rfl (.inr (.inl rfl)) (by decide +kernel) (by decide +kernel)) a_nil (by rfl)) (by rfl)) (by rfl))) a_nil (by rfl)) (by rfl))) (by rfl) (by rfl) (by rfl))
    (ss_cons (s_set C.nd (i := 3) rfl (.inl rfl) (.inr rfl) (by decide) (e_came (k := 4) C (came__law_came G) rfl sc__law_came rfl rfl (.inl rfl) rfl (fun _ => rfl) rfl L rfl (by decide) (LamX.lamS_by (by rfl)) rfl (fun _ _ _ _ _ => rfl) (by decide) (fun A outer s H E f' c' hr => (e_call (C.lam hr) (ok_joined_papers G) (by decide) rfl (x_sh (e_var (i := 11) rfl (.inr (.inr rfl)) (by decide +kernel) (by decide +kernel)) (x_sh (e_var (i := 12) rfl (.inr (.inr rfl)) (by decide +kernel) (by decide +kernel)) x_nil (by rfl)) (by rfl)) (by decide) (by decide +kernel) (by rfl) (by rfl))) (by decide +kernel) (by decide +kernel) (by decide +kernel) (by decide +kernel) (by decide +kernel)) (by rfl))
    (ss_cons (s_if (PW.pt (t_or (t_not (t_tru (rd (e_isi .tuple rfl G.b_isinstance rfl G.b_tuple (rd (e_var (i := 3) rfl (.inl rfl) (by decide +kernel) (by decide +kernel))) (by rfl))) (by intro _; rfl))) (t_or (t_cmp .ne C (e_len rfl G.b_len (rd (e_idx (e_var (i := 3) rfl (.inl rfl) (by decide +kernel) (by decide +kernel)) (rd e_int) (by intro _ _; rfl))) (by rfl)) (rd (e_op .add (e_var (i := 2) rfl (.inl rfl) (by decide +kernel) (by decide +kernel)) (rd e_int))) (by rfl)) (t_or1 (t_cmp .ne C (e_len rfl G.b_len (rd (e_idx (e_var (i := 3) rfl (.inl rfl) (by decide +kernel) (by decide +kernel)) (rd e_int) (by intro _ _; rfl))) (by rfl)) (rd e_int) (by rfl)))))) (ss_one (s_ret e_bl)) ss_nil)
    (ss_cons (s_set C.nd (i := 4) rfl (.inr rfl) (.inl rfl) (by decide) (e_tup (a_one (e_str (by decide +kernel)) (a_one (e_op .mul (e_tup (a_one (e_var (i := 9) rfl (.inr (.inl rfl)) (by decide +kernel) (by decide +kernel)) a_nil (by rfl))) (rd (e_op .sub e_int (rd (e_var (i := 2) rfl (.inl rfl) (by decide +kernel) (by decide +kernel)))))) (a_one (e_tup a_nil) a_nil (by rfl)) (by rfl)) (by rfl))) (by rfl))
    (ss_cons (s_if (t_cmp .ne C (e_came (k := 4) C (came__law_came G) rfl sc__law_came rfl rfl (.inl rfl) rfl (fun _ => rfl) rfl L rfl (by decide) (LamX.lamS_by (by rfl)) rfl (fun _ _ _ _ _ => rfl) (by decide) (fun A outer s H E f' c' hr => (e_call (C.lam hr) (ok_joined_papers G) (by decide) rfl (x_sh (e_var (i := 11) rfl (.inr (.inr rfl)) (by decide +kernel) (by decide +kernel)) (x_sh (e_var (i := 4) rfl (.inr (.inr rfl)) (by decide +kernel) (by decide +kernel)) x_nil (by rfl)) (by rfl)) (by decide) (by decide +kernel) (by rfl) (by rfl))) (by decide +kernel) (by decide +kernel) (by decide +kernel) (by decide +kernel) (by decide +kernel)) (rd (e_lst (a_one (e_str (by decide +kernel)) (a_one (e_str (by decide +kernel)) (a_one e_int a_nil (by rfl)) (by rfl)) (by rfl)))) (by rfl)) (ss_one (s_ret e_bl)) ss_nil)
    (ss_cons (s_set C.nd (i := 5) rfl (.inr rfl) (.inl rfl) (by decide) (e_tup (a_one (e_str (by decide +kernel)) (a_one (e_tup (a_one (e_var (i := 9) rfl (.inr (.inl rfl)) (by decide +kernel) (by decide +kernel)) a_nil (by rfl))) (a_one (e_op .mul (e_var (i := 10) rfl (.inr (.inl rfl)) (by decide +kernel) (by decide +kernel)) (rd e_int)) a_nil (by rfl)) (by rfl)) (by rfl))) (by rfl))
    (ss_cons (s_if (t_cmp .ne C (e_len rfl G.b_len (rd (e_idx (e_call C (ok_joined_papers G) (by decide) rfl (x_sh (e_var (i := 5) rfl (.inr (.inl rfl)) (by decide +kernel) (by decide +kernel)) (x_sh (e_var (i := 5) rfl (.inr (.inl rfl)) (by decide +kernel) (by decide +kernel)) x_nil (by rfl)) (by rfl)) (by decide) (by decide +kernel) (by rfl) (by rfl)) (rd e_int) (by intro _ _; rfl))) (by rfl)) (rd e_int) (by rfl)) (ss_one (s_ret e_bl)) ss_nil)
    (ss_cons (s_if (t_cmp .ne C (e_came (k := 4) C (came__law_came G) rfl sc__law_came rfl rfl (.inl rfl) rfl (fun _ => rfl) rfl L rfl (by decide) (LamX.lamS_by (by rfl)) rfl (fun _ _ _ _ _ => rfl) (by decide) (fun A outer s H E f' c' hr => (e_call (C.lam hr) (ok_joined_papers G) (by decide) rfl (x_sh (e_var (i := 5) rfl (.inr (.inr rfl)) (by decide +kernel) (by decide +kernel)) (x_sh (e_tup (a_one (e_str (by decide +kernel)) (a_one (e_tup (a_one (e_var (i := 9) rfl (.inr (.inr rfl)) (by decide +kernel) (by decide +kernel)) a_nil (by rfl))) (a_one (e_op .add (e_op .mul (e_var (i := 10) rfl (.inr (.inr rfl)) (by decide +kernel) (by decide +kernel)) (rd e_int)) (rd (e_var (i := 10) rfl (.inr (.inr rfl)) (by decide +kernel) (by decide +kernel)))) a_nil (by rfl)) (by rfl)) (by rfl))) x_nil (by rfl)) (by rfl)) (by decide) (by decide +kernel) (by rfl) (by rfl))) (by decide +kernel) (by decide +kernel) (by decide +kernel) (by decide +kernel) (by decide +kernel)) (rd (e_lst (a_one (e_str (by decide +kernel)) (a_one (e_str (by decide +kernel)) (a_one e_int a_nil (by rfl)) (by rfl)) (by rfl)))) (by rfl)) (ss_one (s_ret e_bl)) ss_nil)
    (ss_cons (s_set C.nd (i := 6) rfl (.inr rfl) (.inl rfl) (by decide) (e_tup (a_one (e_str (by decide +kernel)) (a_one (e_op .mul (e_tup (a_one (e_var (i := 9) rfl (.inr (.inl rfl)) (by decide +kernel) (by decide +kernel)) a_nil (by rfl))) (rd e_int)) (a_one (e_op .add (e_op .mul (e_var (i := 10) rfl (.inr (.inl rfl)) (by decide +kernel) (by decide +kernel)) (rd e_int)) (rd (e_var (i := 10) rfl (.inr (.inl rfl)) (by decide +kernel) (by decide +kernel)))) a_nil (by rfl)) (by rfl)) (by rfl))) (by rfl))
    (ss_cons (s_if (t_cmp .ne C (e_came (k := 4) C (came__law_came G) rfl sc__law_came rfl rfl (.inl rfl) rfl (fun _ => rfl) rfl L rfl (by decide) (LamX.lamS_by (by rfl)) rfl (fun _ _ _ _ _ => rfl) (by decide) (fun A outer s H E f' c' hr => (e_call (C.lam hr) (ok_joined_papers G) (by decide) rfl (x_sh (e_var (i := 5) rfl (.inr (.inr rfl)) (by decide +kernel) (by decide +kernel)) (x_sh (e_var (i := 6) rfl (.inr (.inr rfl)) (by decide +kernel) (by decide +kernel)) x_nil (by rfl)) (by rfl)) (by decide) (by decide +kernel) (by rfl) (by rfl))) (by decide +kernel) (by decide +kernel) (by decide +kernel) (by decide +kernel) (by decide +kernel)) (rd (e_lst (a_one (e_str (by decide +kernel)) (a_one (e_str (by decide +kernel)) (a_one e_int a_nil (by rfl)) (by rfl)) (by rfl)))) (by rfl)) (ss_one (s_ret e_bl)) ss_nil)
    (ss_one (s_ret (e_cmp .eq C (e_idx (e_call C (ok_lean_paper G) (by decide) rfl (x_sh (e_tup (a_one (e_str (by decide +kernel)) (a_one (e_op .mul (e_tup (a_one (e_var (i := 9) rfl (.inr (.inl rfl)) (by decide +kernel) (by decide +kernel)) a_nil (by rfl))) (rd e_int)) (a_one (e_var (i := 10) rfl (.inr (.inl rfl)) (by decide +kernel) (by decide +kernel)) a_nil (by rfl)) (by rfl)) (by rfl))) x_nil (by rfl)) (by decide) (by decide +kernel) (by rfl) (by rfl)) (rd e_int) (by intro _ _; rfl)) (rd (e_tup (a_one (e_var (i := 9) rfl (.inr (.inl rfl)) (by decide +kernel) (by decide +kernel)) a_nil (by rfl)))) (by rfl)))))))))))))))))
theorem ok__law_limits_right (G : Md P w base tb K mg) : Callee P w K mg base 7 "_law_limits_right" (SpM K mg tb [true, false] m__law_limits_right) := by
  obtain ⟨f, fd, c, hm, F, hb, L⟩ := G.fn__law_limits_right
  exact ⟨f, fd, _, hm, F.kp, hb, fn_defL (more := []) F sc__law_limits_right rfl (by decide) (by decide) (by decide) (bd__law_limits_right G L)⟩
abbrev N_law : List Str := ["script", "bag", "turn", "book", "word"]
theorem sc_law : FnScope N_law ["script"] (defScope (topS 83)) := ⟨rfl, rfl, rfl, by decide +kernel, rfl, by decide +kernel, by decide +kernel⟩
theorem ok_law (G : Md P w base tb K mg) (plain : ∀ ns : List Int, ∃ ω', b_law (List.replicate 5 none) (some (bagD ns) :: List.replicate 0 none) = .rt (.bool true) ω') {f : Addr} {fd : FuncData} (F : L2.Fun K "law" "law" (topS 83) f fd) : FnOk P w K mg base (L2.CX P w) 12 f fd ["script"] (spLaw K tb) :=
  fn_law (own := [1]) (rest := b_law) F sc_law (by decide) (by decide) rfl (fun f cdv A outer s H E H0 Z ns C => have hp : ([] : List Addr).length = 0 := rfl; ss_consBag (s_ownBag (i := 1) C.nd rfl (Nat.zero_le _) rfl (.inl rfl) (.inr rfl) (e_bag C (ok__law_bag G) (by decide) rfl rfl (.inl rfl) (by decide +kernel) (by decide +kernel) (by decide +kernel) (by rfl) (by rfl)) (by rfl))
    (ss_cons (s_for C (passes_of rfl) (w_range1 rfl G.b_range e_int (by rfl)) (g_nm C.nd (i := 2) rfl (.inl rfl) (.inr rfl)) (by decide) (ss_cons (s_set C.nd (i := 3) rfl (.inl rfl) (.inr rfl) (by decide) (e_call C (ok__law_wild_book G) (by decide) rfl (x_ow (i := 1) (j := 0) rfl rfl (.inl rfl) (x_sh (e_call C (ok__law_letters G) (by decide) rfl (x_ow (i := 1) (j := 0) rfl rfl (.inl rfl) x_nil (by rfl) (by decide +kernel) (by decide +kernel)) (by decide) (by decide +kernel) (by rfl) (by rfl)) x_nil (by rfl)) (by rfl) (by decide +kernel) (by decide +kernel)) (by decide) (by decide +kernel) (by rfl) (by rfl)) (by rfl))
    (ss_cons (s_set C.nd (i := 4) rfl (.inl rfl) (.inr rfl) (by decide) (e_call C (ok__law_word G) (by decide) rfl (x_ow (i := 1) (j := 0) rfl rfl (.inl rfl) (x_sh (e_idx (e_var (i := 3) rfl (.inl rfl) (by decide +kernel) (by decide +kernel)) (rd e_int) (by intro _ _; rfl)) (x_sh e_int x_nil (by rfl)) (by rfl)) (by rfl) (by decide +kernel) (by decide +kernel)) (by decide) (by decide +kernel) (by rfl) (by rfl)) (by rfl))
    (ss_one (s_if (PW.pt (t_or (t_not (t_tru (rd (e_call C (ok__law_papers_right G) (by decide) rfl (x_ow (i := 1) (j := 0) rfl rfl (.inl rfl) (x_sh (e_var (i := 3) rfl (.inl rfl) (by decide +kernel) (by decide +kernel)) (x_sh (e_var (i := 4) rfl (.inl rfl) (by decide +kernel) (by decide +kernel)) x_nil (by rfl)) (by rfl)) (by rfl) (by decide +kernel) (by decide +kernel)) (by decide) (by decide +kernel) (by rfl) (by rfl))) (by intro _; rfl))) (t_or1 (t_not (t_tru (rd (e_call C (ok__law_steps_right G) (by decide) rfl (x_ow (i := 1) (j := 0) rfl rfl (.inl rfl) (x_sh (e_var (i := 3) rfl (.inl rfl) (by decide +kernel) (by decide +kernel)) (x_sh (e_var (i := 4) rfl (.inl rfl) (by decide +kernel) (by decide +kernel)) x_nil (by rfl)) (by rfl)) (by rfl) (by decide +kernel) (by decide +kernel)) (by decide) (by decide +kernel) (by rfl) (by rfl))) (by intro _; rfl)))))) (ss_one (s_ret e_bl)) ss_nil)))) (by intro _; rfl))
    (ss_one (s_ret (e_call C (ok__law_limits_right G) (by decide) rfl (x_ow (i := 1) (j := 0) rfl rfl (.inl rfl) (x_sh (e_var (i := 3) rfl (.inl rfl) (by decide +kernel) (by decide +kernel)) x_nil (by rfl)) (by rfl) (by decide +kernel) (by decide +kernel)) (by decide) (by decide +kernel) (by rfl) (by rfl)))))) plain
end
end K00

set_option Elab.async false
set_option linter.all false
set_option maxRecDepth 100000
set_option maxHeartbeats 0
namespace K00
open PySem PySem.Spec PyProof.Rows L2 Wc He
def clsS (i j : Nat) : Stmt := match topS i with
  | .ClassDef _ _ _ b _ _ _ _ _ _ _ => b.getD j (.Pass ⟨0, 0, 0, 0⟩)
  | s => s
def fb0 : List Fa := [.glo (Str.ofString "is_integer"), .glo (Str.ofString "is_within"), .glo (Str.ofString "is_string"), .glo (Str.ofString "is_tuple_of"), .glo (Str.ofString "is_word"), .glo (Str.ofString "key"), .glo (Str.ofString "is_less"), .glo (Str.ofString "places_of"), .glo (Str.ofString "with_part"), .glo (Str.ofString "back_uses"), .glo (Str.ofString "couple_used"), .glo (Str.ofString "after_line_use"), .glo (Str.ofString "after_row"), .glo (Str.ofString "does_lead"), .glo (Str.ofString "line_fault"), .glo (Str.ofString "lines_fault"), .glo (Str.ofString "are_lines"), .glo (Str.ofString "shows_alike"), .glo (Str.ofString "roomy"), .glo (Str.ofString "turned_paper"), .glo (Str.ofString "further"), .glo (Str.ofString "lines_further"), .glo (Str.ofString "joined_papers"), .glo (Str.ofString "placed_paper"), .glo (Str.ofString "lines_in"), .glo (Str.ofString "needed_lines"), .glo (Str.ofString "renumbered"), .glo (Str.ofString "lean_paper"), .glo (Str.ofString "step_paper"), .glo (Str.ofString "_law_take"), .glo (Str.ofString "_law_some"), .glo (Str.ofString "_law_mixed"), .glo (Str.ofString "_law_alike"), .glo (Str.ofString "_law_is_int"), .glo (Str.ofString "_law_order")]
def fb1 : List Fa := [.glo (Str.ofString "_law_less"), .glo (Str.ofString "_law_letters"), .glo (Str.ofString "_law_word"), .glo (Str.ofString "_law_pair"), .glo (Str.ofString "_law_stands"), .glo (Str.ofString "_law_walked"), .glo (Str.ofString "_law_are_lines"), .glo (Str.ofString "_law_shows"), .glo (Str.ofString "_law_uses_on"), .glo (Str.ofString "_law_walk"), .glo (Str.ofString "_law_lines"), .glo (Str.ofString "_law_paper"), .glo (Str.ofString "_law_lean"), .glo (Str.ofString "_law_wild_book"), .glo (Str.ofString "_law_back"), .glo (Str.ofString "_law_further"), .glo (Str.ofString "_law_papers_right"), .glo (Str.ofString "_law_steps_right"), .glo (Str.ofString "_law_limits_right"), .glo (Str.ofString "_law_came"), .glo (Str.ofString "_law_bag"), .glo (Str.ofString "law"), .glo (Str.ofString "Breaks"), .glo (Str.ofString "NoName"), .glo (Str.ofString "Nothing"), .glo (Str.ofString "Refused"), .glo (Str.ofString "TooMany"), .free (Str.ofString "abs"), .free (Str.ofString "all"), .free (Str.ofString "bool"), .free (Str.ofString "enumerate"), .free (Str.ofString "int"), .free (Str.ofString "isinstance"), .free (Str.ofString "len"), .free (Str.ofString "list")]
def fb2 : List Fa := [.free (Str.ofString "range"), .free (Str.ofString "sorted"), .free (Str.ofString "str"), .free (Str.ofString "tuple"), .free (Str.ofString "zip"), .free (Str.ofString "super"), .str (Str.ofString "ALIKE") (Str.ofString "alike"), .int (Str.ofString "FOUR") 4, .int (Str.ofString "LAWS") 2, .int (Str.ofString "LAW_complete") 0, .int (Str.ofString "LAW_lines") 0, .int (Str.ofString "LETTERS") 1, .int (Str.ofString "LINE_complete") 1, .int (Str.ofString "LINE_lines") 1, .int (Str.ofString "MOST_LINES") 400, .int (Str.ofString "MOST_USES") 2000, .int (Str.ofString "MOST_WORD") 200, .int (Str.ofString "THREE_alike") 3, .int (Str.ofString "THREE_lines") 3]
def fb : List Fa := fb0 ++ fb1 ++ fb2
def fx : List Fa := xTl.map fun p => Fa.exm (Str.ofString p.1.1) (Str.ofString p.1.2) p.2
def fc__law_came : List Fa := (l__law_came.map (·.1)).flatMap fun a => (l__law_came.map (·.1)).map fun b => Fa.exm (Str.ofString a) (Str.ofString b) (a == b)
def fa : List Fa := fb ++ (fx ++ fc__law_came)
def dw_is_integer : DefW := ⟨((Str.ofString "is_integer"), none), (Str.ofString "is_integer"), (Str.ofString "is_integer"), topS 8, []⟩
def dw_is_within : DefW := ⟨((Str.ofString "is_within"), none), (Str.ofString "is_within"), (Str.ofString "is_within"), topS 9, []⟩
def dw_is_string : DefW := ⟨((Str.ofString "is_string"), none), (Str.ofString "is_string"), (Str.ofString "is_string"), topS 10, []⟩
def dw_is_tuple_of : DefW := ⟨((Str.ofString "is_tuple_of"), none), (Str.ofString "is_tuple_of"), (Str.ofString "is_tuple_of"), topS 11, []⟩
def dw_is_word : DefW := ⟨((Str.ofString "is_word"), none), (Str.ofString "is_word"), (Str.ofString "is_word"), topS 13, []⟩
def dw_key : DefW := ⟨((Str.ofString "key"), none), (Str.ofString "key"), (Str.ofString "key"), topS 14, []⟩
def dw_is_less : DefW := ⟨((Str.ofString "is_less"), none), (Str.ofString "is_less"), (Str.ofString "is_less"), topS 15, []⟩
def dw_places_of : DefW := ⟨((Str.ofString "places_of"), none), (Str.ofString "places_of"), (Str.ofString "places_of"), topS 16, []⟩
def dw_with_part : DefW := ⟨((Str.ofString "with_part"), none), (Str.ofString "with_part"), (Str.ofString "with_part"), topS 17, []⟩
def dw_back_uses : DefW := ⟨((Str.ofString "back_uses"), none), (Str.ofString "back_uses"), (Str.ofString "back_uses"), topS 23, []⟩
def dw_couple_used : DefW := ⟨((Str.ofString "couple_used"), none), (Str.ofString "couple_used"), (Str.ofString "couple_used"), topS 30, []⟩
def dw_after_line_use : DefW := ⟨((Str.ofString "after_line_use"), none), (Str.ofString "after_line_use"), (Str.ofString "after_line_use"), topS 31, []⟩
def dw_after_row : DefW := ⟨((Str.ofString "after_row"), none), (Str.ofString "after_row"), (Str.ofString "after_row"), topS 32, []⟩
def dw_does_lead : DefW := ⟨((Str.ofString "does_lead"), none), (Str.ofString "does_lead"), (Str.ofString "does_lead"), topS 33, []⟩
def dw_line_fault : DefW := ⟨((Str.ofString "line_fault"), none), (Str.ofString "line_fault"), (Str.ofString "line_fault"), topS 34, []⟩
def dw_lines_fault : DefW := ⟨((Str.ofString "lines_fault"), none), (Str.ofString "lines_fault"), (Str.ofString "lines_fault"), topS 35, []⟩
def dw_are_lines : DefW := ⟨((Str.ofString "are_lines"), none), (Str.ofString "are_lines"), (Str.ofString "are_lines"), topS 36, []⟩
def dw_shows_alike : DefW := ⟨((Str.ofString "shows_alike"), none), (Str.ofString "shows_alike"), (Str.ofString "shows_alike"), topS 40, []⟩
def dw_roomy : DefW := ⟨((Str.ofString "roomy"), none), (Str.ofString "roomy"), (Str.ofString "roomy"), topS 44, []⟩
def dw_turned_paper : DefW := ⟨((Str.ofString "turned_paper"), none), (Str.ofString "turned_paper"), (Str.ofString "turned_paper"), topS 45, []⟩
def dw_further : DefW := ⟨((Str.ofString "further"), none), (Str.ofString "further"), (Str.ofString "further"), topS 46, []⟩
def dw_lines_further : DefW := ⟨((Str.ofString "lines_further"), none), (Str.ofString "lines_further"), (Str.ofString "lines_further"), topS 47, []⟩
def dw_joined_papers : DefW := ⟨((Str.ofString "joined_papers"), none), (Str.ofString "joined_papers"), (Str.ofString "joined_papers"), topS 48, []⟩
def dw_placed_paper : DefW := ⟨((Str.ofString "placed_paper"), none), (Str.ofString "placed_paper"), (Str.ofString "placed_paper"), topS 49, []⟩
def dw_lines_in : DefW := ⟨((Str.ofString "lines_in"), none), (Str.ofString "lines_in"), (Str.ofString "lines_in"), topS 50, []⟩
def dw_needed_lines : DefW := ⟨((Str.ofString "needed_lines"), none), (Str.ofString "needed_lines"), (Str.ofString "needed_lines"), topS 51, []⟩
def dw_renumbered : DefW := ⟨((Str.ofString "renumbered"), none), (Str.ofString "renumbered"), (Str.ofString "renumbered"), topS 52, []⟩
def dw_lean_paper : DefW := ⟨((Str.ofString "lean_paper"), none), (Str.ofString "lean_paper"), (Str.ofString "lean_paper"), topS 53, []⟩
def dw_step_paper : DefW := ⟨((Str.ofString "step_paper"), none), (Str.ofString "step_paper"), (Str.ofString "step_paper"), topS 54, []⟩
def dw__law_take : DefW := ⟨((Str.ofString "_law_take"), none), (Str.ofString "_law_take"), (Str.ofString "_law_take"), topS 57, []⟩
def dw__law_some : DefW := ⟨((Str.ofString "_law_some"), none), (Str.ofString "_law_some"), (Str.ofString "_law_some"), topS 58, []⟩
def dw__law_mixed : DefW := ⟨((Str.ofString "_law_mixed"), none), (Str.ofString "_law_mixed"), (Str.ofString "_law_mixed"), topS 59, []⟩
def dw__law_alike : DefW := ⟨((Str.ofString "_law_alike"), none), (Str.ofString "_law_alike"), (Str.ofString "_law_alike"), topS 60, []⟩
def dw__law_is_int : DefW := ⟨((Str.ofString "_law_is_int"), none), (Str.ofString "_law_is_int"), (Str.ofString "_law_is_int"), topS 61, []⟩
def dw__law_order : DefW := ⟨((Str.ofString "_law_order"), none), (Str.ofString "_law_order"), (Str.ofString "_law_order"), topS 63, []⟩
def dw__law_less : DefW := ⟨((Str.ofString "_law_less"), none), (Str.ofString "_law_less"), (Str.ofString "_law_less"), topS 64, []⟩
def dw__law_letters : DefW := ⟨((Str.ofString "_law_letters"), none), (Str.ofString "_law_letters"), (Str.ofString "_law_letters"), topS 65, []⟩
def dw__law_word : DefW := ⟨((Str.ofString "_law_word"), none), (Str.ofString "_law_word"), (Str.ofString "_law_word"), topS 66, []⟩
def dw__law_pair : DefW := ⟨((Str.ofString "_law_pair"), none), (Str.ofString "_law_pair"), (Str.ofString "_law_pair"), topS 67, []⟩
def dw__law_stands : DefW := ⟨((Str.ofString "_law_stands"), none), (Str.ofString "_law_stands"), (Str.ofString "_law_stands"), topS 68, []⟩
def dw__law_walked : DefW := ⟨((Str.ofString "_law_walked"), none), (Str.ofString "_law_walked"), (Str.ofString "_law_walked"), topS 69, []⟩
def dw__law_are_lines : DefW := ⟨((Str.ofString "_law_are_lines"), none), (Str.ofString "_law_are_lines"), (Str.ofString "_law_are_lines"), topS 70, []⟩
def dw__law_shows : DefW := ⟨((Str.ofString "_law_shows"), none), (Str.ofString "_law_shows"), (Str.ofString "_law_shows"), topS 71, []⟩
def dw__law_uses_on : DefW := ⟨((Str.ofString "_law_uses_on"), none), (Str.ofString "_law_uses_on"), (Str.ofString "_law_uses_on"), topS 72, []⟩
def dw__law_walk : DefW := ⟨((Str.ofString "_law_walk"), none), (Str.ofString "_law_walk"), (Str.ofString "_law_walk"), topS 73, []⟩
def dw__law_lines : DefW := ⟨((Str.ofString "_law_lines"), none), (Str.ofString "_law_lines"), (Str.ofString "_law_lines"), topS 74, []⟩
def dw__law_paper : DefW := ⟨((Str.ofString "_law_paper"), none), (Str.ofString "_law_paper"), (Str.ofString "_law_paper"), topS 75, []⟩
def dw__law_lean : DefW := ⟨((Str.ofString "_law_lean"), none), (Str.ofString "_law_lean"), (Str.ofString "_law_lean"), topS 76, []⟩
def dw__law_wild_book : DefW := ⟨((Str.ofString "_law_wild_book"), none), (Str.ofString "_law_wild_book"), (Str.ofString "_law_wild_book"), topS 77, []⟩
def dw__law_back : DefW := ⟨((Str.ofString "_law_back"), none), (Str.ofString "_law_back"), (Str.ofString "_law_back"), topS 78, []⟩
def dw__law_further : DefW := ⟨((Str.ofString "_law_further"), none), (Str.ofString "_law_further"), (Str.ofString "_law_further"), topS 79, []⟩
def dw__law_papers_right : DefW := ⟨((Str.ofString "_law_papers_right"), none), (Str.ofString "_law_papers_right"), (Str.ofString "_law_papers_right"), topS 80, []⟩
def dw__law_steps_right : DefW := ⟨((Str.ofString "_law_steps_right"), none), (Str.ofString "_law_steps_right"), (Str.ofString "_law_steps_right"), topS 81, []⟩
def dw__law_limits_right : DefW := ⟨((Str.ofString "_law_limits_right"), none), (Str.ofString "_law_limits_right"), (Str.ofString "_law_limits_right"), topS 82, []⟩
def dw__law_came : DefW := ⟨((Str.ofString "_law_came"), none), (Str.ofString "_law_came"), (Str.ofString "_law_came"), topS 62, []⟩
def dw__law_bag : DefW := ⟨((Str.ofString "_law_bag"), none), (Str.ofString "_law_bag"), (Str.ofString "_law_bag"), topS 56, []⟩
def dw_law : DefW := ⟨((Str.ofString "law"), none), (Str.ofString "law"), (Str.ofString "law"), topS 83, []⟩
def dc_TooMany : DefW := ⟨((Str.ofString "TooMany"), some (Str.ofString "__init__")), (Str.ofString "__init__"), (Str.ofString "TooMany.__init__"), clsS 6 0, [(Str.ofString "__class__")]⟩
def fn0 : List DefW := [dw_is_integer, dw_is_within, dw_is_string, dw_is_tuple_of, dw_is_word, dw_key, dw_is_less, dw_places_of, dw_with_part, dw_back_uses, dw_couple_used, dw_after_line_use, dw_after_row, dw_does_lead, dw_line_fault, dw_lines_fault, dw_are_lines, dw_shows_alike, dw_roomy, dw_turned_paper, dw_further, dw_lines_further, dw_joined_papers, dw_placed_paper, dw_lines_in, dw_needed_lines, dw_renumbered, dw_lean_paper, dw_step_paper, dw__law_take, dw__law_some, dw__law_mixed, dw__law_alike, dw__law_is_int, dw__law_order]
def fn1 : List DefW := [dw__law_less, dw__law_letters, dw__law_word, dw__law_pair, dw__law_stands, dw__law_walked, dw__law_are_lines, dw__law_shows, dw__law_uses_on, dw__law_walk, dw__law_lines, dw__law_paper, dw__law_lean, dw__law_wild_book, dw__law_back, dw__law_further, dw__law_papers_right, dw__law_steps_right, dw__law_limits_right, dw__law_came, dw__law_bag, dw_law, dc_TooMany]
def fn : List DefW := fn0 ++ fn1
def tf : List Defn := [((Str.ofString "_law_limits_right"), none)]
def P : Program := PySem.Challenge.pw_wordclaims_k00_whole_papers_turned_joine
def exl : List (PySem.W.Frag → Bool) := [fun K => decide ((tf.map fun p => (cT K p).2).Nodup),
  fun K => supB P K (Str.ofString "TooMany") && xfsB K (Str.ofString "TooMany") [(Str.ofString "what"), (Str.ofString "limit")],
  fun K => xfsB K (Str.ofString "Refused") (["why"].map Str.ofString),
  fun K => xfsB K (Str.ofString "NoName") (["name"].map Str.ofString),
  fun K => xfsB K (Str.ofString "Breaks") (["index"].map Str.ofString),
  fun K => xfsB K (Str.ofString "TooMany") (["what", "limit"].map Str.ofString)]
def ex (K : PySem.W.Frag) : Bool := exl.all fun f => f K
def tb (K : PySem.W.Frag) : List (Addr × Str) := [((cT K ((Str.ofString "_law_limits_right"), none)).2, (Str.ofString "_law_limits_right.<locals>.<lambda>"))]
section
variable {w : World} {K : PySem.W.Frag} {mg : Str → Option Value} {base h : Heap}
theorem ex_at (c : SaysW fa fn tf ex h K) (i : Nat) {f : PySem.W.Frag → Bool} (e : exl[i]? = some f := by rfl) : f K = true := List.all_eq_true.mp c.more f (List.mem_of_getElem? e)
theorem fb_at (c : SaysW fa fn tf ex h K) (i : Nat) {f : Fa} (e : fb[i]? = some f := by rfl) : f.ok K = true := c.fs f (List.mem_append_left _ (List.mem_of_getElem? e))
theorem fx_at (c : SaysW fa fn tf ex h K) {f : Fa} (m : f ∈ fx) : f.ok K = true := c.fs f (List.mem_append_right _ (List.mem_append_left _ m))
theorem fc_at__law_came (c : SaysW fa fn tf ex h K) {f : Fa} (m : f ∈ fc__law_came) : f.ok K = true := c.fs f (List.mem_append_right _ (List.mem_append_right _ m))
theorem x_TooMany (X : K.In base) (N : base.Ns mainGlobals mg) (c : SaysW fa fn tf ex h K) : ExcM P w K mg base (Str.ofString "TooMany") (["what", "limit"].map Str.ofString) := by
  obtain ⟨h1, h2⟩ := c.ds dc_TooMany (List.mem_of_getElem? (i := 57) rfl)
  obtain ⟨oc, od, kV, doc, pm, an, cdv, ct, osl, cl, lk, hcd, kp, hcl⟩ := dc_TooMany.fun h2 h1
  obtain ⟨s1, s2⟩ := ba (ex_at c 1)
  obtain ⟨_, hf⟩ := xfsB_ok s2
  obtain ⟨cc, rfl⟩ : ∃ cc, cl = [((Str.ofString "__class__"), cc)] := by
    cases cl with
    | nil => cases hcl
    | cons a r =>
      obtain ⟨z, cc⟩ := a
      have e1 : z = (Str.ofString "__class__") := (List.cons.inj hcl).1
      have e2 : r = [] := List.map_eq_nil_iff.mp (List.cons.inj hcl).2
      subst e1 e2
      exact ⟨cc, rfl⟩
  obtain ⟨cda, e, SK, tI, fI⟩ := supB_ok s1 lk rfl (free_ok X N (fb_at c 75 (f := .free (Str.ofString "super")))) (by rfl)
  have e' : cdv = .ref cda := e
  subst e'
  exact ⟨_, _, _, ["self", "what", "limit"], (glo_ok X N (fb_at c 61 (f := .glo (Str.ofString "TooMany")))), SK.exc, fI, tI, .all fun us hl => (match us, hl with | [_, _, _], _ => rfl), sup2 SK lk hcd ⟨rfl, rfl, rfl, by decide +kernel, rfl, by decide +kernel, by decide +kernel, by decide +kernel⟩ rfl rfl rfl rfl (hf (Str.ofString "what") (by simp)) (hf (Str.ofString "limit") (by simp)) (by decide +kernel) (by decide +kernel) (by decide +kernel) (by decide +kernel) (fun env => rfl)⟩
def clsL : List String := ["Breaks", "NoName", "Nothing", "Refused", "TooMany"]
theorem tb_one (K : PySem.W.Frag) (nd : (tf.map fun p => (cT K p).2).Nodup) : ∀ p ∈ tb K, ∀ r ∈ tb K, p.1 = r.1 → p.2 = r.2 := by
  have e : (tb K).map (·.1) = tf.map fun p => (cT K p).2 := rfl
  rw [← e] at nd
  intro p hp r hr h
  obtain ⟨i, hi⟩ := List.getElem?_of_mem hp
  obtain ⟨j, hj⟩ := List.getElem?_of_mem hr
  have h1 : ((tb K).map (·.1))[i]? = some p.1 := by rw [List.getElem?_map, hi]; rfl
  have h2 : ((tb K).map (·.1))[j]? = some r.1 := by rw [List.getElem?_map, hj]; rfl
  obtain ⟨l1, g1⟩ := List.getElem?_eq_some_iff.mp h1
  obtain ⟨l2, g2⟩ := List.getElem?_eq_some_iff.mp h2
  have : i = j := (List.getElem_inj nd).mp (g1.trans (h.trans g2.symm))
  subst this
  rw [hi] at hj
  cases hj
  rfl
theorem gc_of (X : K.In base) (N : base.Ns mainGlobals mg) (c : SaysW fa fn tf ex h K) : ∀ x ∈ clsL, mg (Str.ofString x) = some (.ref (ga K (Str.ofString x))) := by
  intro x hx
  simp only [clsL, List.mem_cons, List.not_mem_nil, or_false] at hx
  rcases hx with rfl | rfl | rfl | rfl | rfl
  · exact (glo_ok X N (fb_at c 57 (f := .glo (Str.ofString "Breaks"))))
  · exact (glo_ok X N (fb_at c 58 (f := .glo (Str.ofString "NoName"))))
  · exact (glo_ok X N (fb_at c 59 (f := .glo (Str.ofString "Nothing"))))
  · exact (glo_ok X N (fb_at c 60 (f := .glo (Str.ofString "Refused"))))
  · exact (glo_ok X N (fb_at c 61 (f := .glo (Str.ofString "TooMany"))))
theorem md_of (X : K.In base) (N : base.Ns mainGlobals mg) (c : SaysW fa fn tf ex h K) (TB : ∀ p ∈ tf, LamX.TabB base mg (cT K p).1 (cT K p).2) : Md P w base (tb K) K mg := by
  have gc := gc_of X N c
  have nd : (tf.map fun p => (cT K p).2).Nodup := of_decide_eq_true (ex_at c 0)
  exact {
    xt := xtab_of xTl (fun p hp => by
      have m : Fa.exm (Str.ofString p.1.1) (Str.ofString p.1.2) p.2 ∈ fx := List.mem_map_of_mem (f := fun p : (String × String) × Bool => Fa.exm (Str.ofString p.1.1) (Str.ofString p.1.2) p.2) hp
      have g : ∀ x ∈ clsL, mg (Str.ofString x) = some (.ref (ga K (Str.ofString x))) := gc
      have gg : ∀ p ∈ xTl, p.1.1 ∈ clsL ∧ p.1.2 ∈ clsL := by decide +kernel
      exact ⟨g _ (gg p hp).1, g _ (gg p hp).2, fx_at c m⟩)
    x_TooMany := x_TooMany X N c
    k_Breaks := ⟨_, (glo_ok X N (fb_at c 57 (f := .glo (Str.ofString "Breaks"))))⟩
    k_NoName := ⟨_, (glo_ok X N (fb_at c 58 (f := .glo (Str.ofString "NoName"))))⟩
    k_Nothing := ⟨_, (glo_ok X N (fb_at c 59 (f := .glo (Str.ofString "Nothing"))))⟩
    k_Refused := ⟨_, (glo_ok X N (fb_at c 60 (f := .glo (Str.ofString "Refused"))))⟩
    k_TooMany := ⟨_, (glo_ok X N (fb_at c 61 (f := .glo (Str.ofString "TooMany"))))⟩
    xf_Refused := fun C hC => by
      have e := (glo_ok X N (fb_at c 60 (f := .glo (Str.ofString "Refused")))).symm.trans hC
      cases e
      exact xfsB_ok (ex_at c 2)
    xf_NoName := fun C hC => by
      have e := (glo_ok X N (fb_at c 58 (f := .glo (Str.ofString "NoName")))).symm.trans hC
      cases e
      exact xfsB_ok (ex_at c 3)
    xf_Breaks := fun C hC => by
      have e := (glo_ok X N (fb_at c 57 (f := .glo (Str.ofString "Breaks")))).symm.trans hC
      cases e
      exact xfsB_ok (ex_at c 4)
    xf_TooMany := fun C hC => by
      have e := (glo_ok X N (fb_at c 61 (f := .glo (Str.ofString "TooMany")))).symm.trans hC
      cases e
      exact xfsB_ok (ex_at c 5)
    ct__law_came := fun a ha b hb A B hA hB => by
      have m : Fa.exm (Str.ofString a) (Str.ofString b) (a == b) ∈ fc__law_came := List.mem_flatMap.mpr ⟨a, ha, List.mem_map_of_mem (f := fun b => Fa.exm (Str.ofString a) (Str.ofString b) (a == b)) hb⟩
      have gg : ∀ x ∈ l__law_came.map (·.1), x ∈ clsL := by decide +kernel
      have e1 := (gc a (gg a ha)).symm.trans hA
      have e2 := (gc b (gg b hb)).symm.trans hB
      cases e1
      cases e2
      exact exm_ok (fc_at__law_came c m)
    fn__law_came := by
      obtain ⟨fd, F⟩ := c.def_ 54 (d := dw__law_came)
      exact ⟨_, fd, (glo_ok X N (fb_at c 54 (f := .glo (Str.ofString "_law_came")))), F, F.binds fun _ _ _ _ _ _ us hl => match us, hl with | [_], _ => rfl⟩
    fn__law_bag := by
      obtain ⟨fd, F⟩ := c.def_ 55 (d := dw__law_bag)
      exact ⟨_, fd, (glo_ok X N (fb_at c 55 (f := .glo (Str.ofString "_law_bag")))), F, F.binds fun _ _ _ _ _ _ us hl => match us, hl with | [_], _ => rfl⟩
    b_abs := free_ok X N (fb_at c 62 (f := .free (Str.ofString "abs")))
    b_all := free_ok X N (fb_at c 63 (f := .free (Str.ofString "all")))
    b_bool := free_ok X N (fb_at c 64 (f := .free (Str.ofString "bool")))
    b_enumerate := free_ok X N (fb_at c 65 (f := .free (Str.ofString "enumerate")))
    b_int := free_ok X N (fb_at c 66 (f := .free (Str.ofString "int")))
    b_isinstance := free_ok X N (fb_at c 67 (f := .free (Str.ofString "isinstance")))
    b_len := free_ok X N (fb_at c 68 (f := .free (Str.ofString "len")))
    b_list := free_ok X N (fb_at c 69 (f := .free (Str.ofString "list")))
    b_range := free_ok X N (fb_at c 70 (f := .free (Str.ofString "range")))
    b_sorted := free_ok X N (fb_at c 71 (f := .free (Str.ofString "sorted")))
    b_str := free_ok X N (fb_at c 72 (f := .free (Str.ofString "str")))
    b_tuple := free_ok X N (fb_at c 73 (f := .free (Str.ofString "tuple")))
    b_zip := free_ok X N (fb_at c 74 (f := .free (Str.ofString "zip")))
    c_ALIKE := str_ok X N (fb_at c 76 (f := .str (Str.ofString "ALIKE") (Str.ofString "alike")))
    c_FOUR := int_ok X N (fb_at c 77 (f := .int (Str.ofString "FOUR") 4))
    c_LAWS := int_ok X N (fb_at c 78 (f := .int (Str.ofString "LAWS") 2))
    c_LAW_complete := int_ok X N (fb_at c 79 (f := .int (Str.ofString "LAW_complete") 0))
    c_LAW_lines := int_ok X N (fb_at c 80 (f := .int (Str.ofString "LAW_lines") 0))
    c_LETTERS := int_ok X N (fb_at c 81 (f := .int (Str.ofString "LETTERS") 1))
    c_LINE_complete := int_ok X N (fb_at c 82 (f := .int (Str.ofString "LINE_complete") 1))
    c_LINE_lines := int_ok X N (fb_at c 83 (f := .int (Str.ofString "LINE_lines") 1))
    c_MOST_LINES := int_ok X N (fb_at c 84 (f := .int (Str.ofString "MOST_LINES") 400))
    c_MOST_USES := int_ok X N (fb_at c 85 (f := .int (Str.ofString "MOST_USES") 2000))
    c_MOST_WORD := int_ok X N (fb_at c 86 (f := .int (Str.ofString "MOST_WORD") 200))
    c_THREE_alike := int_ok X N (fb_at c 87 (f := .int (Str.ofString "THREE_alike") 3))
    c_THREE_lines := int_ok X N (fb_at c 88 (f := .int (Str.ofString "THREE_lines") 3))
    fn_is_integer := by
      obtain ⟨fd, F⟩ := c.def_ 0 (d := dw_is_integer)
      exact ⟨_, fd, (glo_ok X N (fb_at c 0 (f := .glo (Str.ofString "is_integer")))), F, F.binds fun _ _ _ _ _ _ us hl => match us, hl with | [_], _ => rfl⟩
    fn_is_within := by
      obtain ⟨fd, F⟩ := c.def_ 1 (d := dw_is_within)
      exact ⟨_, fd, (glo_ok X N (fb_at c 1 (f := .glo (Str.ofString "is_within")))), F, F.binds fun _ _ _ _ _ _ us hl => match us, hl with | [_, _, _], _ => rfl⟩
    fn_is_string := by
      obtain ⟨fd, F⟩ := c.def_ 2 (d := dw_is_string)
      exact ⟨_, fd, (glo_ok X N (fb_at c 2 (f := .glo (Str.ofString "is_string")))), F, F.binds fun _ _ _ _ _ _ us hl => match us, hl with | [_], _ => rfl⟩
    fn_is_tuple_of := by
      obtain ⟨fd, F⟩ := c.def_ 3 (d := dw_is_tuple_of)
      exact ⟨_, fd, (glo_ok X N (fb_at c 3 (f := .glo (Str.ofString "is_tuple_of")))), F, F.binds fun _ _ _ _ _ _ us hl => match us, hl with | [_, _], _ => rfl⟩
    fn_is_word := by
      obtain ⟨fd, F⟩ := c.def_ 4 (d := dw_is_word)
      exact ⟨_, fd, (glo_ok X N (fb_at c 4 (f := .glo (Str.ofString "is_word")))), F, F.binds fun _ _ _ _ _ _ us hl => match us, hl with | [_, _, _], _ => rfl⟩
    fn_key := by
      obtain ⟨fd, F⟩ := c.def_ 5 (d := dw_key)
      exact ⟨_, fd, (glo_ok X N (fb_at c 5 (f := .glo (Str.ofString "key")))), F, F.binds fun _ _ _ _ _ _ us hl => match us, hl with | [_], _ => rfl⟩
    fn_is_less := by
      obtain ⟨fd, F⟩ := c.def_ 6 (d := dw_is_less)
      exact ⟨_, fd, (glo_ok X N (fb_at c 6 (f := .glo (Str.ofString "is_less")))), F, F.binds fun _ _ _ _ _ _ us hl => match us, hl with | [_, _], _ => rfl⟩
    fn_places_of := by
      obtain ⟨fd, F⟩ := c.def_ 7 (d := dw_places_of)
      exact ⟨_, fd, (glo_ok X N (fb_at c 7 (f := .glo (Str.ofString "places_of")))), F, F.binds fun _ _ _ _ _ _ us hl => match us, hl with | [_, _], _ => rfl⟩
    fn_with_part := by
      obtain ⟨fd, F⟩ := c.def_ 8 (d := dw_with_part)
      exact ⟨_, fd, (glo_ok X N (fb_at c 8 (f := .glo (Str.ofString "with_part")))), F, F.binds fun _ _ _ _ _ _ us hl => match us, hl with | [_, _, _, _], _ => rfl⟩
    fn_back_uses := by
      obtain ⟨fd, F⟩ := c.def_ 9 (d := dw_back_uses)
      exact ⟨_, fd, (glo_ok X N (fb_at c 9 (f := .glo (Str.ofString "back_uses")))), F, F.binds fun _ _ _ _ _ _ us hl => match us, hl with | [_], _ => rfl⟩
    fn_couple_used := by
      obtain ⟨fd, F⟩ := c.def_ 10 (d := dw_couple_used)
      exact ⟨_, fd, (glo_ok X N (fb_at c 10 (f := .glo (Str.ofString "couple_used")))), F, F.binds fun _ _ _ _ _ _ us hl => match us, hl with | [_, _, _], _ => rfl⟩
    fn_after_line_use := by
      obtain ⟨fd, F⟩ := c.def_ 11 (d := dw_after_line_use)
      exact ⟨_, fd, (glo_ok X N (fb_at c 11 (f := .glo (Str.ofString "after_line_use")))), F, F.binds fun _ _ _ _ _ _ us hl => match us, hl with | [_, _, _, _], _ => rfl⟩
    fn_after_row := by
      obtain ⟨fd, F⟩ := c.def_ 12 (d := dw_after_row)
      exact ⟨_, fd, (glo_ok X N (fb_at c 12 (f := .glo (Str.ofString "after_row")))), F, F.binds fun _ _ _ _ _ _ us hl => match us, hl with | [_, _, _, _], _ => rfl⟩
    fn_does_lead := by
      obtain ⟨fd, F⟩ := c.def_ 13 (d := dw_does_lead)
      exact ⟨_, fd, (glo_ok X N (fb_at c 13 (f := .glo (Str.ofString "does_lead")))), F, F.binds fun _ _ _ _ _ _ us hl => match us, hl with | [_, _, _, _, _], _ => rfl⟩
    fn_line_fault := by
      obtain ⟨fd, F⟩ := c.def_ 14 (d := dw_line_fault)
      exact ⟨_, fd, (glo_ok X N (fb_at c 14 (f := .glo (Str.ofString "line_fault")))), F, F.binds fun _ _ _ _ _ _ us hl => match us, hl with | [_, _, _], _ => rfl⟩
    fn_lines_fault := by
      obtain ⟨fd, F⟩ := c.def_ 15 (d := dw_lines_fault)
      exact ⟨_, fd, (glo_ok X N (fb_at c 15 (f := .glo (Str.ofString "lines_fault")))), F, F.binds fun _ _ _ _ _ _ us hl => match us, hl with | [_, _], _ => rfl⟩
    fn_are_lines := by
      obtain ⟨fd, F⟩ := c.def_ 16 (d := dw_are_lines)
      exact ⟨_, fd, (glo_ok X N (fb_at c 16 (f := .glo (Str.ofString "are_lines")))), F, F.binds fun _ _ _ _ _ _ us hl => match us, hl with | [_, _], _ => rfl⟩
    fn_shows_alike := by
      obtain ⟨fd, F⟩ := c.def_ 17 (d := dw_shows_alike)
      exact ⟨_, fd, (glo_ok X N (fb_at c 17 (f := .glo (Str.ofString "shows_alike")))), F, F.binds fun _ _ _ _ _ _ us hl => match us, hl with | [_, _, _, _], _ => rfl⟩
    fn_roomy := by
      obtain ⟨fd, F⟩ := c.def_ 18 (d := dw_roomy)
      exact ⟨_, fd, (glo_ok X N (fb_at c 18 (f := .glo (Str.ofString "roomy")))), F, F.binds fun _ _ _ _ _ _ us hl => match us, hl with | [_, _], _ => rfl⟩
    fn_turned_paper := by
      obtain ⟨fd, F⟩ := c.def_ 19 (d := dw_turned_paper)
      exact ⟨_, fd, (glo_ok X N (fb_at c 19 (f := .glo (Str.ofString "turned_paper")))), F, F.binds fun _ _ _ _ _ _ us hl => match us, hl with | [_], _ => rfl⟩
    fn_further := by
      obtain ⟨fd, F⟩ := c.def_ 20 (d := dw_further)
      exact ⟨_, fd, (glo_ok X N (fb_at c 20 (f := .glo (Str.ofString "further")))), F, F.binds fun _ _ _ _ _ _ us hl => match us, hl with | [_, _], _ => rfl⟩
    fn_lines_further := by
      obtain ⟨fd, F⟩ := c.def_ 21 (d := dw_lines_further)
      exact ⟨_, fd, (glo_ok X N (fb_at c 21 (f := .glo (Str.ofString "lines_further")))), F, F.binds fun _ _ _ _ _ _ us hl => match us, hl with | [_, _], _ => rfl⟩
    fn_joined_papers := by
      obtain ⟨fd, F⟩ := c.def_ 22 (d := dw_joined_papers)
      exact ⟨_, fd, (glo_ok X N (fb_at c 22 (f := .glo (Str.ofString "joined_papers")))), F, F.binds fun _ _ _ _ _ _ us hl => match us, hl with | [_, _], _ => rfl⟩
    fn_placed_paper := by
      obtain ⟨fd, F⟩ := c.def_ 23 (d := dw_placed_paper)
      exact ⟨_, fd, (glo_ok X N (fb_at c 23 (f := .glo (Str.ofString "placed_paper")))), F, F.binds fun _ _ _ _ _ _ us hl => match us, hl with | [_, _], _ => rfl⟩
    fn_lines_in := by
      obtain ⟨fd, F⟩ := c.def_ 24 (d := dw_lines_in)
      exact ⟨_, fd, (glo_ok X N (fb_at c 24 (f := .glo (Str.ofString "lines_in")))), F, F.binds fun _ _ _ _ _ _ us hl => match us, hl with | [_], _ => rfl⟩
    fn_needed_lines := by
      obtain ⟨fd, F⟩ := c.def_ 25 (d := dw_needed_lines)
      exact ⟨_, fd, (glo_ok X N (fb_at c 25 (f := .glo (Str.ofString "needed_lines")))), F, F.binds fun _ _ _ _ _ _ us hl => match us, hl with | [_, _], _ => rfl⟩
    fn_renumbered := by
      obtain ⟨fd, F⟩ := c.def_ 26 (d := dw_renumbered)
      exact ⟨_, fd, (glo_ok X N (fb_at c 26 (f := .glo (Str.ofString "renumbered")))), F, F.binds fun _ _ _ _ _ _ us hl => match us, hl with | [_, _], _ => rfl⟩
    fn_lean_paper := by
      obtain ⟨fd, F⟩ := c.def_ 27 (d := dw_lean_paper)
      exact ⟨_, fd, (glo_ok X N (fb_at c 27 (f := .glo (Str.ofString "lean_paper")))), F, F.binds fun _ _ _ _ _ _ us hl => match us, hl with | [_], _ => rfl⟩
    fn_step_paper := by
      obtain ⟨fd, F⟩ := c.def_ 28 (d := dw_step_paper)
      exact ⟨_, fd, (glo_ok X N (fb_at c 28 (f := .glo (Str.ofString "step_paper")))), F, F.binds fun _ _ _ _ _ _ us hl => match us, hl with | [_], _ => rfl⟩
    fn__law_take := by
      obtain ⟨fd, F⟩ := c.def_ 29 (d := dw__law_take)
      exact ⟨_, fd, (glo_ok X N (fb_at c 29 (f := .glo (Str.ofString "_law_take")))), F, F.binds fun _ _ _ _ _ _ us hl => match us, hl with | [_, _], _ => rfl⟩
    fn__law_some := by
      obtain ⟨fd, F⟩ := c.def_ 30 (d := dw__law_some)
      exact ⟨_, fd, (glo_ok X N (fb_at c 30 (f := .glo (Str.ofString "_law_some")))), F, F.binds fun _ _ _ _ _ _ us hl => match us, hl with | [_, _], _ => rfl⟩
    fn__law_mixed := by
      obtain ⟨fd, F⟩ := c.def_ 31 (d := dw__law_mixed)
      exact ⟨_, fd, (glo_ok X N (fb_at c 31 (f := .glo (Str.ofString "_law_mixed")))), F, F.binds fun _ _ _ _ _ _ us hl => match us, hl with | [_, _], _ => rfl⟩
    fn__law_alike := by
      obtain ⟨fd, F⟩ := c.def_ 32 (d := dw__law_alike)
      exact ⟨_, fd, (glo_ok X N (fb_at c 32 (f := .glo (Str.ofString "_law_alike")))), F, F.binds fun _ _ _ _ _ _ us hl => match us, hl with | [_, _], _ => rfl⟩
    fn__law_is_int := by
      obtain ⟨fd, F⟩ := c.def_ 33 (d := dw__law_is_int)
      exact ⟨_, fd, (glo_ok X N (fb_at c 33 (f := .glo (Str.ofString "_law_is_int")))), F, F.binds fun _ _ _ _ _ _ us hl => match us, hl with | [_], _ => rfl⟩
    fn__law_order := by
      obtain ⟨fd, F⟩ := c.def_ 34 (d := dw__law_order)
      exact ⟨_, fd, (glo_ok X N (fb_at c 34 (f := .glo (Str.ofString "_law_order")))), F, F.binds fun _ _ _ _ _ _ us hl => match us, hl with | [_], _ => rfl⟩
    fn__law_less := by
      obtain ⟨fd, F⟩ := c.def_ 35 (d := dw__law_less)
      exact ⟨_, fd, (glo_ok X N (fb_at c 35 (f := .glo (Str.ofString "_law_less")))), F, F.binds fun _ _ _ _ _ _ us hl => match us, hl with | [_, _], _ => rfl⟩
    fn__law_letters := by
      obtain ⟨fd, F⟩ := c.def_ 36 (d := dw__law_letters)
      exact ⟨_, fd, (glo_ok X N (fb_at c 36 (f := .glo (Str.ofString "_law_letters")))), F, F.binds fun _ _ _ _ _ _ us hl => match us, hl with | [_], _ => rfl⟩
    fn__law_word := by
      obtain ⟨fd, F⟩ := c.def_ 37 (d := dw__law_word)
      exact ⟨_, fd, (glo_ok X N (fb_at c 37 (f := .glo (Str.ofString "_law_word")))), F, F.binds fun _ _ _ _ _ _ us hl => match us, hl with | [_, _, _], _ => rfl⟩
    fn__law_pair := by
      obtain ⟨fd, F⟩ := c.def_ 38 (d := dw__law_pair)
      exact ⟨_, fd, (glo_ok X N (fb_at c 38 (f := .glo (Str.ofString "_law_pair")))), F, F.binds fun _ _ _ _ _ _ us hl => match us, hl with | [_, _, _], _ => rfl⟩
    fn__law_stands := by
      obtain ⟨fd, F⟩ := c.def_ 39 (d := dw__law_stands)
      exact ⟨_, fd, (glo_ok X N (fb_at c 39 (f := .glo (Str.ofString "_law_stands")))), F, F.binds fun _ _ _ _ _ _ us hl => match us, hl with | [_, _], _ => rfl⟩
    fn__law_walked := by
      obtain ⟨fd, F⟩ := c.def_ 40 (d := dw__law_walked)
      exact ⟨_, fd, (glo_ok X N (fb_at c 40 (f := .glo (Str.ofString "_law_walked")))), F, F.binds fun _ _ _ _ _ _ us hl => match us, hl with | [_, _, _, _], _ => rfl⟩
    fn__law_are_lines := by
      obtain ⟨fd, F⟩ := c.def_ 41 (d := dw__law_are_lines)
      exact ⟨_, fd, (glo_ok X N (fb_at c 41 (f := .glo (Str.ofString "_law_are_lines")))), F, F.binds fun _ _ _ _ _ _ us hl => match us, hl with | [_, _], _ => rfl⟩
    fn__law_shows := by
      obtain ⟨fd, F⟩ := c.def_ 42 (d := dw__law_shows)
      exact ⟨_, fd, (glo_ok X N (fb_at c 42 (f := .glo (Str.ofString "_law_shows")))), F, F.binds fun _ _ _ _ _ _ us hl => match us, hl with | [_, _, _, _], _ => rfl⟩
    fn__law_uses_on := by
      obtain ⟨fd, F⟩ := c.def_ 43 (d := dw__law_uses_on)
      exact ⟨_, fd, (glo_ok X N (fb_at c 43 (f := .glo (Str.ofString "_law_uses_on")))), F, F.binds fun _ _ _ _ _ _ us hl => match us, hl with | [_, _, _, _], _ => rfl⟩
    fn__law_walk := by
      obtain ⟨fd, F⟩ := c.def_ 44 (d := dw__law_walk)
      exact ⟨_, fd, (glo_ok X N (fb_at c 44 (f := .glo (Str.ofString "_law_walk")))), F, F.binds fun _ _ _ _ _ _ us hl => match us, hl with | [_, _, _, _, _, _], _ => rfl⟩
    fn__law_lines := by
      obtain ⟨fd, F⟩ := c.def_ 45 (d := dw__law_lines)
      exact ⟨_, fd, (glo_ok X N (fb_at c 45 (f := .glo (Str.ofString "_law_lines")))), F, F.binds fun _ _ _ _ _ _ us hl => match us, hl with | [_, _, _], _ => rfl⟩
    fn__law_paper := by
      obtain ⟨fd, F⟩ := c.def_ 46 (d := dw__law_paper)
      exact ⟨_, fd, (glo_ok X N (fb_at c 46 (f := .glo (Str.ofString "_law_paper")))), F, F.binds fun _ _ _ _ _ _ us hl => match us, hl with | [_, _, _, _], _ => rfl⟩
    fn__law_lean := by
      obtain ⟨fd, F⟩ := c.def_ 47 (d := dw__law_lean)
      exact ⟨_, fd, (glo_ok X N (fb_at c 47 (f := .glo (Str.ofString "_law_lean")))), F, F.binds fun _ _ _ _ _ _ us hl => match us, hl with | [_], _ => rfl⟩
    fn__law_wild_book := by
      obtain ⟨fd, F⟩ := c.def_ 48 (d := dw__law_wild_book)
      exact ⟨_, fd, (glo_ok X N (fb_at c 48 (f := .glo (Str.ofString "_law_wild_book")))), F, F.binds fun _ _ _ _ _ _ us hl => match us, hl with | [_, _], _ => rfl⟩
    fn__law_back := by
      obtain ⟨fd, F⟩ := c.def_ 49 (d := dw__law_back)
      exact ⟨_, fd, (glo_ok X N (fb_at c 49 (f := .glo (Str.ofString "_law_back")))), F, F.binds fun _ _ _ _ _ _ us hl => match us, hl with | [_], _ => rfl⟩
    fn__law_further := by
      obtain ⟨fd, F⟩ := c.def_ 50 (d := dw__law_further)
      exact ⟨_, fd, (glo_ok X N (fb_at c 50 (f := .glo (Str.ofString "_law_further")))), F, F.binds fun _ _ _ _ _ _ us hl => match us, hl with | [_, _], _ => rfl⟩
    fn__law_papers_right := by
      obtain ⟨fd, F⟩ := c.def_ 51 (d := dw__law_papers_right)
      exact ⟨_, fd, (glo_ok X N (fb_at c 51 (f := .glo (Str.ofString "_law_papers_right")))), F, F.binds fun _ _ _ _ _ _ us hl => match us, hl with | [_, _, _], _ => rfl⟩
    fn__law_steps_right := by
      obtain ⟨fd, F⟩ := c.def_ 52 (d := dw__law_steps_right)
      exact ⟨_, fd, (glo_ok X N (fb_at c 52 (f := .glo (Str.ofString "_law_steps_right")))), F, F.binds fun _ _ _ _ _ _ us hl => match us, hl with | [_, _, _], _ => rfl⟩
    fn__law_limits_right := by
      obtain ⟨fd, F, FL⟩ := c.defL 53 (d := dw__law_limits_right)
      refine ⟨_, fd, _, (glo_ok X N (fb_at c 53 (f := .glo (Str.ofString "_law_limits_right")))), FL, F.binds (fun _ _ _ _ _ _ us hl => match us, hl with | [_, _], _ => rfl), (cT K ((Str.ofString "_law_limits_right"), none)).2, TB ((Str.ofString "_law_limits_right"), none) (by simp [tf]), by simp [tb], fun p hp e => ?_⟩
      exact tb_one K nd p hp ((cT K ((Str.ofString "_law_limits_right"), none)).2, (Str.ofString "_law_limits_right.<locals>.<lambda>")) (by simp [tb]) e
  }
end
abbrev R : PySem.W.OpenRow := PySem.W.OpenLaw.row PySem.Challenge.rw_wordclaims_k00_whole_papers_turned_joine
abbrev hk : PySem.W.Hook := hookW 5 fa fn tf ex
def ob (s : PySem.W.SharedT) : AlW := obsW 5 fa fn tf ex (HandSHeadRun.getT s)
theorem ob_eq (s : PySem.W.SharedT) : ob s = hk.obs s.abs := obsW_eq (HandSHeadRun.getT_eq s)
def loose0 : List PySem.Str := [(Str.ofString "WordError"), (Str.ofString "NoName"), (Str.ofString "Refused"), (Str.ofString "Breaks"), (Str.ofString "Nothing"), (Str.ofString "TooMany"), (Str.ofString "is_integer"), (Str.ofString "is_within"), (Str.ofString "is_string"), (Str.ofString "is_tuple_of"), (Str.ofString "is_word"), (Str.ofString "key"), (Str.ofString "is_less"), (Str.ofString "places_of"), (Str.ofString "with_part"), (Str.ofString "LAWS"), (Str.ofString "LETTERS"), (Str.ofString "LAW_complete"), (Str.ofString "LINE_complete"), (Str.ofString "back_uses"), (Str.ofString "LAW_lines"), (Str.ofString "LINE_lines"), (Str.ofString "FOUR"), (Str.ofString "THREE_lines"), (Str.ofString "MOST_WORD"), (Str.ofString "couple_used"), (Str.ofString "after_line_use"), (Str.ofString "after_row"), (Str.ofString "does_lead"), (Str.ofString "line_fault"), (Str.ofString "lines_fault"), (Str.ofString "are_lines"), (Str.ofString "ALIKE"), (Str.ofString "THREE_alike"), (Str.ofString "shows_alike")]
def loose1 : List PySem.Str := [(Str.ofString "MOST_LINES"), (Str.ofString "MOST_USES"), (Str.ofString "roomy"), (Str.ofString "turned_paper"), (Str.ofString "further"), (Str.ofString "lines_further"), (Str.ofString "joined_papers"), (Str.ofString "placed_paper"), (Str.ofString "lines_in"), (Str.ofString "needed_lines"), (Str.ofString "renumbered"), (Str.ofString "lean_paper"), (Str.ofString "step_paper"), (Str.ofString "_law_bag"), (Str.ofString "_law_take"), (Str.ofString "_law_some"), (Str.ofString "_law_mixed"), (Str.ofString "_law_alike"), (Str.ofString "_law_is_int"), (Str.ofString "_law_came"), (Str.ofString "_law_order"), (Str.ofString "_law_less"), (Str.ofString "_law_letters"), (Str.ofString "_law_word"), (Str.ofString "_law_pair"), (Str.ofString "_law_stands"), (Str.ofString "_law_walked"), (Str.ofString "_law_are_lines"), (Str.ofString "_law_shows"), (Str.ofString "_law_uses_on"), (Str.ofString "_law_walk"), (Str.ofString "_law_lines"), (Str.ofString "_law_paper"), (Str.ofString "_law_lean"), (Str.ofString "_law_wild_book")]
def loose2 : List PySem.Str := [(Str.ofString "_law_back"), (Str.ofString "_law_further"), (Str.ofString "_law_papers_right"), (Str.ofString "_law_steps_right"), (Str.ofString "_law_limits_right")]
def loose : List PySem.Str := loose0 ++ loose1 ++ loose2
theorem run (w : World) : HandSHeadRun.RunEq R (PySem.W.view R.prog [83]) hk ob 20000 loose w := by
  intro os
  kernel_rfl
theorem F_of (w : World) (mg : Str → Option Value) (fa' : Addr) (h : Heap) (Y : hk.says w h) (N : h.Ns mainGlobals mg) (hmg : mg (Str.ofString "law") = some (.ref fa')) : ∃ K : PySem.W.Frag, K.In h ∧ LamX.LawAtS PySem.Challenge.rw_wordclaims_k00_whole_papers_turned_joine w K (L2.CX P w) 12 63 "script" mg fa' h := by
  obtain ⟨K, X, c⟩ := Y
  have c : SaysW fa fn tf ex h K := c
  obtain ⟨fd, F⟩ := c.def_ 56 (d := dw_law)
  have e : ga K (Str.ofString "law") = fa' := by
    have := (glo_ok X N (fb_at c 56 (f := .glo (Str.ofString "law")))).symm.trans hmg
    cases this
    rfl
  refine ⟨K, X, fd, tf.map (cT K), spLaw K (tb K), ?_, ?_, ?_, ?_, ?_, ?_⟩
  · intro p hp
    obtain ⟨d, hd, rfl⟩ := List.mem_map.mp hp
    exact c.empty d hd
  · intro p hp
    obtain ⟨d, hd, rfl⟩ := List.mem_map.mp hp
    exact c.out d hd
  · intro p hp
    obtain ⟨d, hd, rfl⟩ := List.mem_map.mp hp
    exact PySem.W.codeHd_of_K X (c.hd d hd)
  · obtain ⟨oc, od, kV, doc, pm, an, cdv, ct, osl, rfl, lk, hcd⟩ := F.ex
    exact fun s u => .of_eq rfl
  · intro H a ns hl _ hT hS
    refine ⟨a, ns, rfl, hS, by show ns.length ≤ 16777216; omega, fun p hp => ?_, fun _ => rfl⟩
    have : p.1 ∈ (tb K).map (·.1) := List.mem_map_of_mem hp
    have e2 : (tb K).map (·.1) = (tf.map (cT K)).map (·.2) := rfl
    rw [e2] at this
    obtain ⟨r, hr, er⟩ := List.mem_map.mp this
    exact ⟨#[], er ▸ hT r hr, trivial, fun pos cv hc => by cases hc⟩
  · intro base X2 N2 TB
    subst e
    exact ok_law (md_of X2 N2 c fun p hp => TB _ (List.mem_map_of_mem hp)) law_plain F
end K00
open PySem PySem.W PySem.Calls PyProof.Rows
theorem PySem.Challenge.cw_wordclaims_k00_whole_papers_turned_joine_holds : PySem.Challenge.rw_wordclaims_k00_whole_papers_turned_joine.Holds := by
  w_on; o_law
  refine HandSHeadRun.head_any (r := OpenLaw.row PySem.Challenge.rw_wordclaims_k00_whole_papers_turned_joine) (q := view (OpenLaw.row PySem.Challenge.rw_wordclaims_k00_whole_papers_turned_joine).prog [83]) (H := K00.hk) (ob := K00.ob) (M := 20000) (loose := K00.loose) (d := HandSHeadRun.topDef (OpenLaw.row PySem.Challenge.rw_wordclaims_k00_whole_papers_turned_joine).prog 83) (kwd := []) K00.ob_eq
    (by kernel_rfl) (fun s => by kernel_rfl) K00.run (by kernel_rfl) (by kernel_rfl) (by kernel_rfl) (by rfl) (by first | assumption | decide +kernel) (by decide +kernel) ⟨rfl, rfl, rfl, rfl, rfl, by decide +kernel⟩ ?hw ?hc
  case hw => w_witness2
  case hc =>
    refine LamX.walk_ofTsE (l := PySem.Challenge.rw_wordclaims_k00_whole_papers_turned_joine) (n := 63) (k := 12) (x := "script") (CX := fun w => L2.CX PySem.Challenge.pw_wordclaims_k00_whole_papers_turned_joine w) rfl (by decide) (by kernel_rfl) ⟨rfl, by decide, by decide⟩ ?F (fun _ _ _ _ _ z => by obtain ⟨_, _, _, _, _, _, _, _, _, _, _, _, z⟩ := z; exact z)
    intro w mg fa h Y G hmg0
    have hmg : mg ("law" : PySem.Str) = some (.ref fa) := by
      have e : (HandSHeadRun.topDef (OpenLaw.row PySem.Challenge.rw_wordclaims_k00_whole_papers_turned_joine).prog 83).name = ("law" : PySem.Str) := by kernel_rfl
      rw [← e]
      exact hmg0
    exact K00.F_of w mg fa h Y G hmg
