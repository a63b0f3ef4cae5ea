import PyProof.Rows.All
import PySem.Challenge.RW_lanternserver_k63_targets_conditions_ran
import Wide.All
import OpenK.AllK
import Wide.FinOn
import HandS.ForMost
import HandS.ForExc
import HandS.TupAny
import HandS.TupMul
import HandS.IsInst
import HandS.Deep
import HandS.DeepEq
import HandS.Flow
import HandS.FStr
import HandS.RaiseMore
import HandS.SetKeys
import HandS.Zip
import HandS.Style
import HandS.Wide
import KE.GoesEnum
import HandS.SortInts
import HandS.ListItems
set_option Elab.async false
set_option linter.all false
set_option maxRecDepth 100000
set_option maxHeartbeats 4000000
/-! Core language, evaluator. -/
namespace MP
open PySem L2

abbrev D := PyData

/-- a value: data, or an object of the store -/
inductive W where
  | d (x : D) | r (i : Nat)
/-- an object of the store -/
inductive O where
  | lst (xs : List W)
  | dk (kvs : List (Key × W))
  | dt (kvs : List (List Key × W))
  | ins (c : Nat) (fs : List (Str × W))
abbrev Sto := List O
abbrev Sl := List (Option W)
structure Ex where
  cls : Nat
  fs : List (Str × D)
inductive Out (α : Type) where
  | ok (a : α) (S : Sto)
  | ex (e : Ex) (S : Sto)
abbrev M (α : Type) := Sto → Option (Out α)

@[inline] def ret {α : Type} (a : α) : M α := fun S => some (.ok a S)
def bad {α : Type} : M α := fun _ => none
def bnd {α β : Type} (x : M α) (f : α → M β) : M β := fun S =>
  match x S with
  | none => none
  | some (.ok a S') => f a S'
  | some (.ex e S') => some (.ex e S')
/-- a pure partial step -/
def opt {α : Type} : Option α → M α
  | some a => ret a
  | none => bad

inductive B2 where
  | add | sub | mul | fdiv | mod | pow | band | bor
  deriving DecidableEq
inductive C2 where
  | eq | ne | lt | le | gt | ge | isn | isnn | inn | nin
  deriving DecidableEq
inductive B1 where
  | len | tuple | list | int | abs | str | fmt | repr | ord | all | any | sum | min | max | sorted | range
  | isI (T : String)
  deriving DecidableEq
inductive Me where
  | append | setdefault | get | pop | items | index | join | split | startswith | upper
  deriving DecidableEq
inductive IK where
  | seq | rng | enum | zip
  deriving DecidableEq
/-- a target -/
inductive P where
  | nm (i : Nat)
  | tup (is : List Nat)
inductive E where
  | k (x : D)
  | v (i : Nat)
  | tup (es : List E)
  | lst (es : List E)
  | nl (es : List E)
  | ndk | ndt
  | bin (op : B2) (a b : E)
  | neg (a : E)
  | cmp (op : C2) (a b : E)
  | chain (o1 o2 : C2) (a b c : E)
  | and2 (a b : E)
  | or2 (a b : E)
  | not1 (a : E)
  | ite (c a b : E)
  | sub (a i : E)
  | slc (a : E) (lo hi : Option E)
  | rev (a : E)
  | call (f : Nat) (es : List E)
  | bi (f : B1) (es : List E)
  | me (m : Me) (o : E) (es : List E)
  | lc (elt : E) (p : P) (ik : IK) (src : List E) (cond : List E) (own : List Nat)
  | lc2 (elt : E) (p : P) (ik : IK) (src : List E) (cond : List E) (p1 : P) (ik1 : IK) (src1 : List E) (cond1 : List E) (own own1 : List Nat)
  | fs (es : List E)
  | attr (o : E) (f : Str)
  | mcall (o : E) (m : Str) (es : List E)
  | new (c : Nat) (es : List E)
inductive Sm where
  | ex (e : E)
  | asg (p : P) (e : E)
  | par (is : List Nat) (es : List E)
  | aug (i : Nat) (op : B2) (e : E)
  | setI (o i : E) (e : E)
  | setA (o : E) (f : Str) (e : E)
  | ite (c : E) (a b : List Sm)
  | whl (c : E) (b : List Sm)
  | for (p : P) (ik : IK) (src : List E) (b : List Sm)
  | rt (e : E)
  | rtN
  | brk | cont | pass
  | bad

/-! ### values -/
/-- the type of a datum -/
def tyName : D → String
  | .none => "NoneType" | .bool _ => "bool" | .int _ => "int" | .str _ => "str" | .list _ => "list" | .tuple _ => "tuple" | .dict _ => "dict"
def isI (T : String) (d : D) : Option Bool := L2.kitB (tyName d) T
/-- the line of sizes -/
abbrev SZ : Nat := 16777216
def truD : D → Option Bool
  | .none => some false
  | .bool b => some b
  | .int i => some (i != 0)
  | .str x => if x.length ≤ SZ then some ((x.length : Int) != 0) else none
  | .list xs => some (!xs.isEmpty)
  | .tuple xs => some (!xs.isEmpty)
  | .dict _ => none
def truW (w : W) : M Bool := fun S =>
  match w with
  | .d x => (truD x).map fun b => .ok b S
  | .r i => match S[i]? with
    | some (.lst xs) => some (.ok (!xs.isEmpty) S)
    | some (.dk kvs) => some (.ok (!kvs.isEmpty) S)
    | _ => none
def binD : B2 → D → D → Option D
  | .add, .int i, .int j => some (.int (i + j))
  | .add, .str x, .str y => if x.length + y.length ≤ SZ then some (.str (x ++ y)) else none
  | .add, .tuple xs, .tuple ys => if xs.length + ys.length ≤ SZ then some (.tuple (xs ++ ys)) else none
  | .add, .list xs, .list ys => if xs.length + ys.length ≤ SZ then some (.list (xs ++ ys)) else none
  | .sub, .int i, .int j => some (.int (i - j))
  | .mul, .int i, .int j => if (-(2 ^ 64) < i ∧ i < 2 ^ 64) ∨ (-(2 ^ 64) < j ∧ j < 2 ^ 64) then some (.int (i * j)) else none
  | .mul, .tuple xs, .int k => if xs ≠ [] ∧ 2 ≤ k ∧ (xs.length : Int) * k ≤ 1000000 then some (.tuple (List.replicate k.toNat xs).flatten) else none
  | .fdiv, .int i, .int j => if 0 < j ∧ j < 18446744073709551616 then some (.int (i / j)) else none
  | .mod, .int i, .int j => if 0 < j then some (.int (i % j)) else none
  | .pow, .int i, .int j => if 0 ≤ j ∧ j ≤ 1000000 ∧ i.natAbs < 2 ^ 64 then some (.int (i ^ j.toNat)) else none
  | .band, .int i, .int j => some (.int (Builtin.bitAnd i j))
  | .bor, .int i, .int j => some (.int (Builtin.bitOr i j))
  | _, _, _ => none
def negW : W → M W
  | .d (.int i) => ret (.d (.int (-i)))
  | _ => bad
def binW (op : B2) : W → W → M W
  | .d x, .d y => bnd (opt (binD op x y)) fun z => ret (.d z)
  | _, _ => bad
def eqD : D → D → Option Bool
  | .str x, .str y => some (x == y)
  | .int x, .int y => some (x == y)
  | x, y => if SeqAt.shaped x = true ∧ SeqAt.shaped y = true then some (PyData.eqv x y) else none
def intsOf : List D → Option (List Int)
  | [] => some []
  | .int i :: r => (intsOf r).map (i :: ·)
  | _ :: _ => none
def ltD : D → D → Option Bool
  | .int i, .int j => some (decide (i < j))
  | .tuple xs, .tuple ys => match intsOf xs, intsOf ys with
    | some a, some b => some (HT.lexLt a b)
    | _, _ => none
  | _, _ => none
def leD : D → D → Option Bool
  | .int i, .int j => some (decide (i ≤ j))
  | _, _ => none
def isNone : W → Bool
  | .d .none => true
  | _ => false
def keyD : D → Option Key
  | .int i => some (.inl i)
  | .str x => some (.inr x)
  | _ => none
def keysD : List D → Option (List Key)
  | [] => some []
  | x :: r => match keyD x, keysD r with
    | some k, some ks => some (k :: ks)
    | _, _ => none
def look {κ β : Type} [DecidableEq κ] (k : κ) : List (κ × β) → Option β
  | [] => none
  | (j, x) :: r => if j = k then some x else look k r
def put {κ β : Type} [DecidableEq κ] (kvs : List (κ × β)) (k : κ) (x : β) : List (κ × β) :=
  if kvs.any (fun kv => decide (kv.1 = k)) then kvs.map fun kv => if kv.1 = k then (kv.1, x) else kv else kvs ++ [(k, x)]
/-- a text of one sign -/
def sign1 (z : Str) : Option Nat := match z.cps.toList with
  | [c] => some c
  | _ => none
theorem sign1_eq {z : Str} {c : Nat} (h : sign1 z = some c) : z = ⟨#[c]⟩ := by
  obtain ⟨⟨l⟩⟩ := z
  unfold sign1 at h
  split at h
  · rename_i c' e
    cases h
    have e : l = [c] := e
    rw [e]
  · cases h
def inD (x : D) : D → Option Bool
  | .list ys => if SeqAt.shaped x = true ∧ SeqAt.shaped (.list ys) = true then some (ys.any fun z => PyData.eqv z x) else none
  | .tuple ys => if SeqAt.shaped x = true ∧ SeqAt.shaped (.tuple ys) = true then some (ys.any fun z => PyData.eqv z x) else none
  | .str z => match x with
    | .str y => (sign1 y).map fun c => decide (c ∈ z.cps.toList)
    | _ => none
  | _ => none
def cmpW (op : C2) (x y : W) : M Bool := fun S =>
  match op, x, y with
  | .eq, .d x, .d y => (eqD x y).map fun b => .ok b S
  | .ne, .d x, .d y => (eqD x y).map fun b => .ok (!b) S
  | .lt, .d x, .d y => (ltD x y).map fun b => .ok b S
  | .gt, .d (.int x), .d (.int y) => some (.ok (decide (y < x)) S)
  | .le, .d x, .d y => (leD x y).map fun b => .ok b S
  | .ge, .d (.int x), .d (.int y) => some (.ok (decide (y ≤ x)) S)
  | .isn, x, .d .none => some (.ok (isNone x) S)
  | .isnn, x, .d .none => some (.ok (!isNone x) S)
  | .inn, .d x, .d y => (inD x y).map fun b => .ok b S
  | .nin, .d x, .d y => (inD x y).map fun b => .ok (!b) S
  | .inn, .d x, .r i => match S[i]? with
    | some (.dk kvs) => match keyD x with
      | some k => some (.ok (look k kvs).isSome S)
      | none => none
    | _ => none
  | .nin, .d x, .r i => match S[i]? with
    | some (.dk kvs) => match keyD x with
      | some k => some (.ok (!(look k kvs).isSome) S)
      | none => none
    | _ => none
  | _, _, _ => none
def cmpV (op : C2) (x y : W) : M W := bnd (cmpW op x y) fun c => ret (.d (.bool c))
def subW (o i : W) : M W := fun S =>
  match o, i with
  | .d (.list xs), .d (.int k) => (L2.atI xs k).map fun x => .ok (.d x) S
  | .d (.tuple xs), .d (.int k) => (L2.atI xs k).map fun x => .ok (.d x) S
  | .d (.str z), .d (.int k) => if z.length ≤ SZ then (L2.atI z.cps.toList k).map fun c => .ok (.d (.str ⟨#[c]⟩)) S else none
  | .r i, .d k => match S[i]? with
    | some (.lst xs) => match k with
      | .int k => (L2.atI xs k).map fun x => .ok x S
      | _ => none
    | some (.dk kvs) => match keyD k with
      | some k => (look k kvs).map fun x => .ok x S
      | none => none
    | _ => none
  | _, _ => none
def cut {α : Type} (xs : List α) (lo hi : Option Int) : List α := (xs.drop (HT.sIx xs.length 0 lo)).take (HT.sIx xs.length xs.length hi - HT.sIx xs.length 0 lo)
def slcW (o : W) (lo hi : Option Int) : M W := fun S =>
  match o with
  | .d (.list xs) => some (.ok (.d (.list (cut xs lo hi))) S)
  | .d (.tuple xs) => some (.ok (.d (.tuple (cut xs lo hi))) S)
  | .d (.str z) => if z.length ≤ SZ then some (.ok (.d (.str (cutS z lo hi))) S) else none
  | _ => none
def dataOf : List W → Option (List D)
  | [] => some []
  | .d x :: r => (dataOf r).map (x :: ·)
  | .r _ :: _ => none
def bools : List D → Option (List Bool)
  | [] => some []
  | .bool b :: r => (bools r).map (b :: ·)
  | _ :: _ => none
/-- repr's own conditions -/
def reprD (x : D) : Option Str :=
  if x.showable = true ∧ x.hasDict = false ∧ x.depth ≤ 60 ∧ x.shown.length ≤ SZ then some x.shown else none
def strD : D → Option Str
  | .str x => some x
  | .int i => if i.natAbs.log2 < 1920 then some (toString i) else none
  | _ => none
def fmtD : D → Option Str
  | .str x => if x.length ≤ SZ then some x else none
  | .int i => if i.natAbs.log2 < 1920 then some (toString i) else none
  | _ => none
/-- the texts of an f-string, one behind the other -/
def joinD : List D → Str → Option Str
  | [], acc => some acc
  | .str y :: r, acc => if (acc ++ y).length ≤ SZ then joinD r (acc ++ y) else none
  | _ :: _, _ => none
def minL : List Int → Option Int
  | [] => none
  | x :: r => some (r.foldl (fun a b => if b < a then b else a) x)
def maxL : List Int → Option Int
  | [] => none
  | x :: r => some (r.foldl (fun a b => if b > a then b else a) x)
def b1D : B1 → List D → Option D
  | .len, [.str z] => if z.length ≤ SZ then some (.int z.length) else none
  | .len, [.list xs] => some (.int xs.length)
  | .len, [.tuple xs] => some (.int xs.length)
  | .tuple, [.list xs] => some (.tuple xs)
  | .tuple, [.tuple xs] => some (.tuple xs)
  | .list, [.list xs] => some (.list xs)
  | .list, [.tuple xs] => some (.list xs)
  | .int, [.int i] => some (.int i)
  | .int, [.bool b] => some (.int (if b then 1 else 0))
  | .abs, [.int i] => some (.int (if i < 0 then -i else i))
  | .str, [x] => (strD x).map .str
  | .fmt, [x] => (fmtD x).map .str
  | .repr, [x] => (reprD x).map .str
  | .ord, [.str z] => (sign1 z).map fun c => .int (c : Nat)
  | .all, [.list xs] => (bools xs).map fun bs => .bool (bs.all id)
  | .any, [.list xs] => (bools xs).map fun bs => .bool (bs.any id)
  | .sum, [.list xs] => (intsOf xs).map fun ns => .int ns.sum
  | .min, [.int i, .int j] => some (.int (if j < i then j else i))
  | .max, [.int i, .int j] => some (.int (if j > i then j else i))
  | .isI T, [x] => (isI T x).map .bool
  | _, _ => none
def b1W (f : B1) (ws : List W) : M W := fun S =>
  match f, ws with
  | .len, [.r i] => match S[i]? with
    | some (.lst xs) => some (.ok (.d (.int xs.length)) S)
    | some (.dk kvs) => some (.ok (.d (.int kvs.length)) S)
    | _ => none
  | .tuple, [.r i] => match S[i]? with
    | some (.lst xs) => (dataOf xs).map fun ys => .ok (.d (.tuple ys)) S
    | _ => none
  | f, ws => match dataOf ws with
    | some xs => (b1D f xs).map fun y => .ok (.d y) S
    | none => none
def meW (m : Me) (o : W) (ws : List W) : M W := fun S =>
  match m, o, ws with
  | .append, .r i, [w] => match S[i]? with
    | some (.lst xs) => if xs.length < SZ then some (.ok (.d .none) (S.set i (.lst (xs ++ [w])))) else none
    | _ => none
  | .setdefault, .r i, [.d k, w] => match S[i]?, keyD k with
    | some (.dk kvs), some k => if kvs.length < SZ then
        match look k kvs with
        | some x => some (.ok x S)
        | none => some (.ok w (S.set i (.dk (kvs ++ [(k, w)]))))
      else none
    | _, _ => none
  | _, _, _ => none
def setW (o i w : W) : M Unit := fun S =>
  match o, i with
  | .r n, .d k => match S[n]? with
    | some (.lst xs) => match k with
      | .int k => match ixN xs.length k with
        | some j => some (.ok () (S.set n (.lst (xs.set j w))))
        | none => none
      | _ => none
    | some (.dk kvs) => match keyD k with
      | some k => if kvs.length < SZ then some (.ok () (S.set n (.dk (put kvs k w)))) else none
      | none => none
    | _ => none
  | _, _ => none
def alloc (o : O) : M W := fun S => some (.ok (.r S.length) (S ++ [o]))

/-! ### targets, sources -/
def bindL : List Nat → List D → Sl → Option Sl
  | [], [], ρ => some ρ
  | i :: is, x :: xs, ρ => bindL is xs (ρ.set i (some (.d x)))
  | _, _, _ => none
def bindP : P → W → Sl → Option Sl
  | .nm i, w, ρ => some (ρ.set i (some w))
  | .tup is, .d (.tuple xs), ρ => bindL is xs ρ
  | .tup _, _, _ => none
def P.slots : P → List Nat
  | .nm i => [i]
  | .tup is => is
def enumD : Nat → List D → List D
  | _, [] => []
  | n, x :: r => .tuple [.int (n : Nat), x] :: enumD (n + 1) r
def zipD : List D → List D → List D
  | x :: xs, y :: ys => .tuple [x, y] :: zipD xs ys
  | _, _ => []
def itemsOf : IK → List W → Option (List D)
  | .seq, [.d (.list xs)] => some xs
  | .seq, [.d (.tuple xs)] => some xs
  | .seq, [.d (.str z)] => some (z.cps.toList.map fun c => .str ⟨#[c]⟩)
  | .rng, [.d (.int n)] => if -(2 ^ 62) ≤ n ∧ n < 2 ^ 62 then some ((List.range n.toNat).map fun (i : Nat) => .int (i : Int)) else none
  | .rng, [.d (.int a), .d (.int b)] => if -(2 ^ 62) ≤ a ∧ a < 2 ^ 62 ∧ -(2 ^ 62) ≤ b ∧ b < 2 ^ 62 then some ((List.range (b - a).toNat).map fun (i : Nat) => .int (a + (i : Int))) else none
  | .enum, [.d (.list xs)] => some (enumD 0 xs)
  | .enum, [.d (.tuple xs)] => some (enumD 0 xs)
  | .zip, [.d (.list xs), .d (.list ys)] => some (zipD xs ys)
  | .zip, [.d (.tuple xs), .d (.tuple ys)] => some (zipD xs ys)
  | _, _ => none
def wipeW (ρ : Sl) : List Nat → Sl
  | [] => ρ
  | v :: vs => (wipeW ρ vs).set v none

/-! ### the evaluator -/
def srcM (ik : IK) (m : M (List W)) : M (List D) := bnd m fun ws => opt (itemsOf ik ws)
/-- what the defs do -/
abbrev FT := Nat → List W → M W
/-- the comprehension's loop: turn hands back the element, or that it is left out -/
def lcM (turn : D → M (Option D)) : List D → M (List D)
  | [] => ret []
  | x :: r => bnd (turn x) fun y => bnd (lcM turn r) fun ys => ret (match y with
    | some z => z :: ys
    | none => ys)
def lcM2 (turn : D → M (List D)) : List D → M (List D)
  | [] => ret []
  | x :: r => bnd (turn x) fun y => bnd (lcM2 turn r) fun ys => ret (y ++ ys)
def sizeOk (xs : List D) : M W := if xs.length ≤ SZ then ret (.d (.list xs)) else bad
def getV (ρ : Sl) (i : Nat) : M W := match ρ[i]? with
  | some (some w) => ret w
  | _ => bad
def asD : W → M D
  | .d x => ret x
  | .r _ => bad
def asOI : Option W → Option (Option Int)
  | none => some none
  | some (.d (.int i)) => some (some i)
  | _ => none
section
variable (F : FT)
mutual
def ev : E → Sl → M W
  | .k x, _ => ret (.d x)
  | .v i, ρ => getV ρ i
  | .tup es, ρ => bnd (evs es ρ) fun ws => match dataOf ws with
    | some xs => if xs.length ≤ SZ then ret (.d (.tuple xs)) else bad
    | none => bad
  | .lst es, ρ => bnd (evs es ρ) fun ws => match dataOf ws with
    | some xs => if xs.length ≤ SZ then ret (.d (.list xs)) else bad
    | none => bad
  | .nl es, ρ => bnd (evs es ρ) fun ws => if ws.length ≤ SZ then alloc (.lst ws) else bad
  | .ndk, _ => alloc (.dk [])
  | .ndt, _ => alloc (.dt [])
  | .bin op a b, ρ => bnd (ev a ρ) fun x => bnd (ev b ρ) fun y => binW op x y
  | .neg a, ρ => bnd (ev a ρ) fun x => negW x
  | .cmp op a b, ρ => bnd (ev a ρ) fun x => bnd (ev b ρ) fun y => cmpV op x y
  | .chain o1 o2 a b c, ρ => bnd (ev a ρ) fun x => bnd (ev b ρ) fun y => bnd (cmpW o1 x y) fun t =>
      if t = true then bnd (ev c ρ) fun z => cmpV o2 y z else ret (.d (.bool false))
  | .and2 a b, ρ => bnd (ev a ρ) fun x => bnd (truW x) fun t => if t = true then ev b ρ else ret x
  | .or2 a b, ρ => bnd (ev a ρ) fun x => bnd (truW x) fun t => if t = true then ret x else ev b ρ
  | .not1 a, ρ => bnd (ev a ρ) fun x => bnd (truW x) fun t => ret (.d (.bool (!t)))
  | .ite c a b, ρ => bnd (ev c ρ) fun x => bnd (truW x) fun t => if t = true then ev a ρ else ev b ρ
  | .sub a i, ρ => bnd (ev a ρ) fun x => bnd (ev i ρ) fun y => subW x y
  | .slc a lo hi, ρ => bnd (ev a ρ) fun x => bnd (evo lo ρ) fun l => bnd (evo hi ρ) fun h => match asOI l, asOI h with
    | some l, some h => slcW x l h
    | _, _ => bad
  | .rev a, ρ => bnd (ev a ρ) fun x => match x with
    | .d (.list xs) => ret (.d (.list xs.reverse))
    | .d (.tuple xs) => ret (.d (.tuple xs.reverse))
    | _ => bad
  | .call f es, ρ => bnd (evs es ρ) fun ws => F f ws
  | .bi f es, ρ => bnd (evs es ρ) fun ws => b1W f ws
  | .me m o es, ρ => bnd (ev o ρ) fun x => bnd (evs es ρ) fun ws => meW m x ws
  | .lc elt p ik src cond own, ρ => bnd (srcM ik (evs src ρ)) fun items => bnd (lcM (fun x => bnd (opt (bindP p (.d x) (wipeW ρ own))) fun ρ' =>
        bnd (evc cond ρ') fun t => if t = true then bnd (ev elt ρ') fun y => bnd (asD y) fun z => ret (some z) else ret none) items) sizeOk
  | .lc2 elt p ik src cond p1 ik1 src1 cond1 own own1, ρ => bnd (srcM ik (evs src ρ)) fun items => bnd (lcM2 (fun x => bnd (opt (bindP p (.d x) (wipeW ρ own))) fun ρ' =>
        bnd (evc cond ρ') fun t => if t = true then
            bnd (srcM ik1 (evs src1 ρ')) fun items1 => lcM (fun x1 => bnd (opt (bindP p1 (.d x1) (wipeW ρ' own1))) fun ρ2 =>
                bnd (evc cond1 ρ2) fun t1 => if t1 = true then bnd (ev elt ρ2) fun y => bnd (asD y) fun z => ret (some z) else ret none) items1
          else ret []) items) sizeOk
  | .fs es, ρ => bnd (evs es ρ) fun ws => match dataOf ws with
    | none => bad
    | some xs => match joinD xs Str.empty with
      | none => bad
      | some z => ret (.d (.str z))
  | .attr o f, ρ => bnd (ev o ρ) fun x => fun S => match x with
    | .r i => match S[i]? with
      | some (.ins _ fs) => (fs.lookup f).map fun w => .ok w S
      | _ => none
    | _ => none
  | .mcall _ _ _, _ => bad
  | .new _ _, _ => bad
def evs : List E → Sl → M (List W)
  | [], _ => ret []
  | e :: es, ρ => bnd (ev e ρ) fun w => bnd (evs es ρ) fun ws => ret (w :: ws)
def evo : Option E → Sl → M (Option W)
  | none, _ => ret none
  | some e, ρ => bnd (ev e ρ) fun w => ret (some w)
def evc : List E → Sl → M Bool
  | [], _ => ret true
  | [c], ρ => bnd (ev c ρ) truW
  | _, _ => bad
end
end

inductive Fl where
  | nx (ρ : Sl) | rt (w : W) | bk (ρ : Sl) | ct (ρ : Sl)
/-- turns of a while -/
def whileM (c : Sl → M Bool) (b : Sl → M Fl) : Nat → Sl → M Fl
  | 0, _ => bad
  | n + 1, ρ => bnd (c ρ) fun t => if t = true then bnd (b ρ) fun f => match f with
      | .nx ρ' => whileM c b n ρ'
      | .ct ρ' => whileM c b n ρ'
      | .bk ρ' => ret (.nx ρ')
      | .rt w => ret (.rt w)
    else ret (.nx ρ)
def forM (p : P) (b : Sl → M Fl) : List D → Sl → M Fl
  | [], ρ => ret (.nx ρ)
  | x :: r, ρ => bnd (opt (bindP p (.d x) ρ)) fun ρ' => bnd (b ρ') fun f => match f with
      | .nx ρ2 => forM p b r ρ2
      | .ct ρ2 => forM p b r ρ2
      | .bk ρ2 => ret (.nx ρ2)
      | .rt w => ret (.rt w)
/-- more turns than any while of ours takes -/
def WF : Nat := 1000000
section
variable (F : FT)
mutual
def ex : Sm → Sl → M Fl
  | .ex e, ρ => bnd (ev F e ρ) fun _ => ret (.nx ρ)
  | .asg p e, ρ => bnd (ev F e ρ) fun w => bnd (opt (bindP p w ρ)) fun ρ' => ret (.nx ρ')
  | .par is es, ρ => bnd (evs F es ρ) fun ws => if ws.length = is.length then ret (.nx ((is.zip ws).foldl (fun r z => r.set z.1 (some z.2)) ρ)) else bad
  | .aug i op e, ρ => bnd (getV ρ i) fun x => bnd (ev F e ρ) fun y => bnd (binW op x y) fun z => ret (.nx (ρ.set i (some z)))
  | .setI o i e, ρ => bnd (ev F e ρ) fun w => bnd (ev F o ρ) fun x => bnd (ev F i ρ) fun y => bnd (setW x y w) fun _ => ret (.nx ρ)
  | .setA _ _ _, _ => bad
  | .ite c a b, ρ => bnd (ev F c ρ) fun x => bnd (truW x) fun t => if t = true then exs a ρ else exs b ρ
  | .whl c b, ρ => whileM (fun ρ => bnd (ev F c ρ) truW) (fun ρ => exs b ρ) WF ρ
  | .for p ik src b, ρ => bnd (srcM ik (evs F src ρ)) fun items => forM p (fun ρ => exs b ρ) items ρ
  | .rt e, ρ => bnd (ev F e ρ) fun w => ret (.rt w)
  | .rtN, _ => ret (.rt (.d .none))
  | .brk, ρ => ret (.bk ρ)
  | .cont, ρ => ret (.ct ρ)
  | .pass, ρ => ret (.nx ρ)
  | .bad, _ => bad
def exs : List Sm → Sl → M Fl
  | [], ρ => ret (.nx ρ)
  | s :: r, ρ => bnd (ex s ρ) fun f => match f with
    | .nx ρ' => exs r ρ'
    | f => ret f
end
end

structure Fd where
  np : Nat
  nsl : Nat
  body : List Sm
def W.below (n : Nat) : W → Bool
  | .d _ => true
  | .r i => decide (i < n)
def O.below (n : Nat) : O → Bool
  | .lst xs => xs.all (W.below n)
  | .dk kvs => kvs.all fun p => p.2.below n
  | .dt kvs => kvs.all fun p => p.2.below n
  | .ins _ fs => fs.all fun p => p.2.below n
/-- what a call leaves of the store -/
def leave (n : Nat) (w : W) (S : Sto) : Sto :=
  if S.length ≤ n then S else match w with
    | .d _ => if (S.take n).all (O.below n) = true then S.take n else S
    | .r _ => S
def finB (n : Nat) (w : W) : M W := fun S => some (.ok w (leave n w S))
def runB (F : FT) (fd : Fd) (ws : List W) : M W := fun S =>
  if ws.length = fd.np then
    bnd (exs F fd.body (ws.map some ++ List.replicate (fd.nsl - ws.length) none)) (fun f => match f with
      | .nx _ => finB S.length (.d .none)
      | .rt w => finB S.length w
      | _ => bad) S
  else none
def callT (Γ : Nat → Option Fd) : Nat → FT
  | 0, _, _ => bad
  | d + 1, f, ws => match Γ f with
    | some fd => runB (callT Γ d) fd ws
    | none => bad
end MP

/-! What the evaluator's values and store say of the abstract heap. -/
namespace MP
open PySem L2 PySem.Spec PyProof.Rows
abbrev Sg := L2.St

/-! ### outcomes -/
def post {α : Type} (r : Option (Out α)) (q : α → Sto → Prop) : Prop :=
  match r with
  | some (.ok a S) => q a S
  | _ => False
theorem post_bnd {α β : Type} (x : M α) (f : α → M β) (S : Sto) (q : β → Sto → Prop) : post (bnd x f S) q = post (x S) (fun a S' => post (f a S') q) := by
  unfold bnd
  cases x S with
  | none => rfl
  | some o => cases o <;> rfl
theorem post.imp {α : Type} {r : Option (Out α)} {q q' : α → Sto → Prop} (h : post r q) (k : ∀ a S, q a S → q' a S) : post r q' := by
  cases r with
  | none => exact h
  | some o => cases o with
    | ok a S => exact k a S h
    | ex e S => exact h
theorem post_ret {α : Type} (a : α) (S : Sto) (q : α → Sto → Prop) : post (ret a S) q = q a S := rfl
theorem post_bad {α : Type} (S : Sto) (q : α → Sto → Prop) : post (bad S) q = False := rfl

/-- the store's addresses; lists that are being made -/
structure Zs where
  l : List Addr
  t : List Addr
def Zs.fr (z : Zs) (a : Addr) : Prop := a ∉ z.l ∧ a ∉ z.t
/-! ### data -/
def LstAt (K : PySem.W.Frag) (η : Zs) (H : Hp) (a : Addr) (xs : List V) : Prop := (Rd H a (.lst xs) ∧ η.fr a) ∨ SqL K (fun _ => none) a xs
def TupAt (K : PySem.W.Frag) (η : Zs) (H : Hp) (a : Addr) (xs : List V) : Prop := (H a = some (.tup xs) ∧ η.fr a) ∨ SqT K (fun _ => none) a xs
mutual
inductive Rp (K : PySem.W.Frag) (η : Zs) (H : Hp) : V → D → Prop
  | non : Rp K η H .non .none
  | bl (b : Bool) : Rp K η H (.bl b) (.bool b)
  | int (i : Int) : Rp K η H (.int i) (.int i)
  | str (x : Str) : Rp K η H (.str x) (.str x)
  | lst {a : Addr} {xs : List V} {ds : List D} : LstAt K η H a xs → RpAll K η H xs ds → Rp K η H (.ref a) (.list ds)
  | tup {a : Addr} {xs : List V} {ds : List D} : TupAt K η H a xs → RpAll K η H xs ds → Rp K η H (.ref a) (.tuple ds)
inductive RpAll (K : PySem.W.Frag) (η : Zs) (H : Hp) : List V → List D → Prop
  | nil : RpAll K η H [] []
  | cons {v : V} {vs : List V} {d : D} {ds : List D} : Rp K η H v d → RpAll K η H vs ds → RpAll K η H (v :: vs) (d :: ds)
end
structure Grow (η : Zs) (H : Hp) (η' : Zs) (H' : Hp) : Prop where
  pre : ∃ more, η'.l = η.l ++ more
  keep : ∀ a o, H a = some o → a ∉ η.l → H' a = some o ∧ a ∉ η'.l
  tm : ∀ a o, H a = some o → a ∉ η.l → a ∉ η.t → a ∉ η'.t
  tk : ∀ a, a ∈ η.t → a ∈ η'.t
theorem Grow.refl (η : Zs) (H : Hp) : Grow η H η H := ⟨⟨[], by simp⟩, fun a o h n => ⟨h, n⟩, fun _ _ _ _ n => n, fun _ n => n⟩
theorem Grow.trans {η η1 η2 : Zs} {H H1 H2 : Hp} (g : Grow η H η1 H1) (h : Grow η1 H1 η2 H2) : Grow η H η2 H2 := by
  obtain ⟨⟨m1, e1⟩, k1, t1, u1⟩ := g
  obtain ⟨⟨m2, e2⟩, k2, t2, u2⟩ := h
  refine ⟨⟨m1 ++ m2, by rw [e2, e1, List.append_assoc]⟩, fun a o q n => ?_, fun a o q n n2 => ?_, fun a m => u2 a (u1 a m)⟩
  · obtain ⟨q1, n1⟩ := k1 a o q n
    exact k2 a o q1 n1
  · obtain ⟨q1, n1⟩ := k1 a o q n
    exact t2 a o q1 n1 (t1 a o q n n2)
theorem Grow.at {η η' : Zs} {H H' : Hp} (g : Grow η H η' H') {i : Nat} {a : Addr} (h : η.l[i]? = some a) : η'.l[i]? = some a := by
  obtain ⟨⟨m, e⟩, _⟩ := g
  rw [e]
  obtain ⟨hi, _⟩ := List.getElem?_eq_some_iff.mp h
  rw [List.getElem?_append_left hi]
  exact h
section
variable {K : PySem.W.Frag} {η η' : Zs} {H H' : Hp}
theorem LstAt.grow {a : Addr} {xs : List V} (g : Grow η H η' H') (h : LstAt K η H a xs) : LstAt K η' H' a xs := by
  rcases h with ⟨r | ⟨o, r⟩, n, n2⟩ | h
  · obtain ⟨q, m⟩ := g.keep a _ r n
    exact .inl ⟨.inl q, m, g.tm a _ r n n2⟩
  · obtain ⟨q, m⟩ := g.keep a _ r n
    exact .inl ⟨.inr ⟨o, q⟩, m, g.tm a _ r n n2⟩
  · exact .inr h
theorem TupAt.grow {a : Addr} {xs : List V} (g : Grow η H η' H') (h : TupAt K η H a xs) : TupAt K η' H' a xs := by
  rcases h with ⟨r, n, n2⟩ | r
  · obtain ⟨q, m⟩ := g.keep a _ r n
    exact .inl ⟨q, m, g.tm a _ r n n2⟩
  · exact .inr r
mutual
theorem Rp.grow (g : Grow η H η' H') : ∀ (d : D) (v : V), Rp K η H v d → Rp K η' H' v d
  | .none, _, h => by cases h; exact .non
  | .bool b, _, h => by cases h; exact .bl b
  | .int i, _, h => by cases h; exact .int i
  | .str x, _, h => by cases h; exact .str x
  | .list ds, _, h => by
    cases h with
    | lst a b => exact .lst (a.grow g) (RpAll.grow g ds _ b)
  | .tuple ds, _, h => by
    cases h with
    | tup a b => exact .tup (a.grow g) (RpAll.grow g ds _ b)
  | .dict _, _, h => by cases h
theorem RpAll.grow (g : Grow η H η' H') : ∀ (ds : List D) (vs : List V), RpAll K η H vs ds → RpAll K η' H' vs ds
  | [], _, h => by cases h; exact .nil
  | d :: ds, _, h => by
    cases h with
    | cons a b => exact .cons (Rp.grow g d _ a) (RpAll.grow g ds _ b)
end
theorem LstAt.sq {a : Addr} {xs : List V} (h : LstAt K η H a xs) : SqL K H a xs := by
  rcases h with ⟨r, _⟩ | r
  · exact .inl r
  · rcases r with (r | ⟨_, r⟩) | r
    · cases r
    · cases r
    · exact .inr r
theorem TupAt.sq {a : Addr} {xs : List V} (h : TupAt K η H a xs) : SqT K H a xs := by
  rcases h with ⟨r, _⟩ | r
  · exact .inl (.inl r)
  · rcases r with (r | ⟨_, r⟩) | r
    · cases r
    · cases r
    · exact .inr r
mutual
theorem Rp.dp : ∀ (d : D) (v : V), Rp K η H v d → Dp K H v d
  | .none, _, h => by cases h; exact .non
  | .bool b, _, h => by cases h; exact .bl b
  | .int i, _, h => by cases h; exact .int i
  | .str x, _, h => by cases h; exact .str x
  | .list ds, _, h => by
    cases h with
    | lst a b => exact .lst a.sq (RpAll.dp ds _ b)
  | .tuple ds, _, h => by
    cases h with
    | tup a b => exact .tup a.sq (RpAll.dp ds _ b)
  | .dict _, _, h => by cases h
theorem RpAll.dp : ∀ (ds : List D) (vs : List V), RpAll K η H vs ds → DpAll K H vs ds
  | [], _, h => by cases h; exact .nil
  | d :: ds, _, h => by
    cases h with
    | cons a b => exact .cons (Rp.dp d _ a) (RpAll.dp ds _ b)
end
theorem RpAll.length : ∀ {vs : List V} {ds : List D}, RpAll K η H vs ds → vs.length = ds.length
  | _, _, .nil => rfl
  | _, _, .cons _ t => by rw [List.length_cons, List.length_cons, RpAll.length t]
theorem RpAll.append : ∀ {vs ws : List V} {ds es : List D}, RpAll K η H vs ds → RpAll K η H ws es → RpAll K η H (vs ++ ws) (ds ++ es)
  | _, _, _, _, .nil, s => s
  | _, _, _, _, .cons r t, s => .cons r (RpAll.append t s)
theorem RpAll.get : ∀ {vs : List V} {ds : List D} {i : Nat} {d : D}, RpAll K η H vs ds → ds[i]? = some d → ∃ v, vs[i]? = some v ∧ Rp K η H v d
  | _, _, _, _, .nil, e => by simp at e
  | _, _, 0, _, .cons r _, e => by simp at e; subst e; exact ⟨_, rfl, r⟩
  | _, _, i + 1, d, .cons _ t, e => by
    obtain ⟨v, h1, h2⟩ := RpAll.get (i := i) (d := d) t (by simpa using e)
    exact ⟨v, by simpa using h1, h2⟩
theorem RpAll.getV : ∀ {vs : List V} {ds : List D} {i : Nat} {v : V}, RpAll K η H vs ds → vs[i]? = some v → ∃ d, ds[i]? = some d ∧ Rp K η H v d
  | _, _, _, _, .nil, e => by simp at e
  | _, _, 0, _, .cons r _, e => by simp at e; subst e; exact ⟨_, rfl, r⟩
  | _, _, i + 1, d, .cons _ t, e => by
    obtain ⟨v, h1, h2⟩ := RpAll.getV (i := i) (v := d) t (by simpa using e)
    exact ⟨v, by simpa using h1, h2⟩
theorem RpAll.take : ∀ {vs : List V} {ds : List D} (n : Nat), RpAll K η H vs ds → RpAll K η H (vs.take n) (ds.take n)
  | _, _, 0, _ => .nil
  | _, _, _ + 1, .nil => .nil
  | _, _, n + 1, .cons r t => .cons r (RpAll.take n t)
theorem RpAll.drop : ∀ {vs : List V} {ds : List D} (n : Nat), RpAll K η H vs ds → RpAll K η H (vs.drop n) (ds.drop n)
  | _, _, 0, r => r
  | _, _, _ + 1, .nil => .nil
  | _, _, n + 1, .cons _ t => RpAll.drop n t
theorem RpAll.rep {vs : List V} {ds : List D} (h : RpAll K η H vs ds) : ∀ k : Nat, RpAll K η H (List.replicate k vs).flatten (List.replicate k ds).flatten
  | 0 => .nil
  | k + 1 => by
    rw [List.replicate_succ, List.replicate_succ, List.flatten_cons, List.flatten_cons]
    exact h.append (RpAll.rep h k)
theorem RpAll.rev {vs : List V} {ds : List D} (h : RpAll K η H vs ds) : RpAll K η H vs.reverse ds.reverse := by
  suffices ∀ {vs : List V} {ds : List D}, RpAll K η H vs ds → ∀ {ws : List V} {es : List D}, RpAll K η H ws es → RpAll K η H (vs.reverse ++ ws) (ds.reverse ++ es) by
    have q := this h .nil
    simpa using q
  intro vs ds h
  induction vs generalizing ds with
  | nil => cases h; intro ws es h; simpa using h
  | cons v vs ih =>
    cases h with
    | cons r t =>
      intro ws es h
      have q := ih t (RpAll.cons r h)
      simpa using q
theorem RpAll.cut {vs : List V} {ds : List D} (h : RpAll K η H vs ds) (lo hi : Option Int) : RpAll K η H (cutV vs lo hi) (MP.cut ds lo hi) := by
  unfold cutV MP.cut
  rw [h.length]
  exact (h.drop _).take _
theorem RpAll.atI {vs : List V} {ds : List D} {i : Int} {d : D} (h : RpAll K η H vs ds) (e : L2.atI ds i = some d) : ∃ v, L2.atI vs i = some v ∧ Rp K η H v d := by
  unfold L2.atI at e ⊢
  rw [h.length]
  cases q : ixN ds.length i with
  | none => rw [q] at e; cases e
  | some j =>
    rw [q] at e
    exact h.get e
theorem RpAll.ints : ∀ {vs : List V} {ds : List D} {ns : List Int}, RpAll K η H vs ds → intsOf ds = some ns → vs = ns.map V.int
  | _, _, ns, .nil, e => by cases e; rfl
  | _, _, ns, .cons (d := d) r t, e => by
    cases r with
    | int i =>
      unfold intsOf at e
      obtain ⟨m, e1, e2⟩ := Option.map_eq_some_iff.mp e
      subst e2
      rw [RpAll.ints t e1]; rfl
    | _ => cases e
theorem RpAll.bools : ∀ {vs : List V} {ds : List D} {ns : List Bool}, RpAll K η H vs ds → MP.bools ds = some ns → vs = ns.map V.bl
  | _, _, ns, .nil, e => by cases e; rfl
  | _, _, ns, .cons (d := d) r t, e => by
    cases r with
    | bl i =>
      unfold MP.bools at e
      obtain ⟨m, e1, e2⟩ := Option.map_eq_some_iff.mp e
      subst e2
      rw [RpAll.bools t e1]; rfl
    | _ => cases e
end

/-! ### values, store, slots -/
inductive RW (K : PySem.W.Frag) (η : Zs) (H : Hp) : V → W → Prop
  | d {v : V} {x : D} : Rp K η H v x → RW K η H v (.d x)
  | r {i : Nat} {a : Addr} : η.l[i]? = some a → RW K η H (.ref a) (.r i)
inductive RWs (K : PySem.W.Frag) (η : Zs) (H : Hp) : List V → List W → Prop
  | nil : RWs K η H [] []
  | cons {v : V} {vs : List V} {w : W} {ws : List W} : RW K η H v w → RWs K η H vs ws → RWs K η H (v :: vs) (w :: ws)
inductive KR (K : PySem.W.Frag) (η : Zs) (H : Hp) {κ : Type} : List (κ × V) → List (κ × W) → Prop
  | nil : KR K η H [] []
  | cons {k : κ} {v : V} {vs : List (κ × V)} {w : W} {ws : List (κ × W)} : RW K η H v w → KR K η H vs ws → KR K η H ((k, v) :: vs) ((k, w) :: ws)
section
variable {K : PySem.W.Frag} {η η' : Zs} {H H' : Hp}
theorem RW.grow (g : Grow η H η' H') {v : V} {w : W} (h : RW K η H v w) : RW K η' H' v w := by
  cases h with
  | d r => exact .d (Rp.grow g _ _ r)
  | r e => exact .r (g.at e)
theorem RWs.grow (g : Grow η H η' H') : ∀ {vs : List V} {ws : List W}, RWs K η H vs ws → RWs K η' H' vs ws
  | _, _, .nil => .nil
  | _, _, .cons r t => .cons (r.grow g) (RWs.grow g t)
theorem KR.grow {κ : Type} (g : Grow η H η' H') : ∀ {vs : List (κ × V)} {ws : List (κ × W)}, KR K η H vs ws → KR K η' H' vs ws
  | _, _, .nil => .nil
  | _, _, .cons r t => .cons (r.grow g) (KR.grow g t)
theorem RWs.length : ∀ {vs : List V} {ws : List W}, RWs K η H vs ws → vs.length = ws.length
  | _, _, .nil => rfl
  | _, _, .cons _ t => by rw [List.length_cons, List.length_cons, RWs.length t]
theorem RWs.data : ∀ {vs : List V} {ws : List W} {ds : List D}, RWs K η H vs ws → dataOf ws = some ds → RpAll K η H vs ds
  | _, _, _, .nil, e => by cases e; exact .nil
  | _, _, _, .cons r t, e => by
    cases r with
    | d q =>
      unfold dataOf at e
      obtain ⟨m, e1, e2⟩ := Option.map_eq_some_iff.mp e
      subst e2
      exact .cons q (RWs.data t e1)
    | r _ => cases e
theorem RWs.get : ∀ {vs : List V} {ws : List W} {i : Nat} {w : W}, RWs K η H vs ws → ws[i]? = some w → ∃ v, vs[i]? = some v ∧ RW K η H v w
  | _, _, _, _, .nil, e => by simp at e
  | _, _, 0, _, .cons r _, e => by simp at e; subst e; exact ⟨_, rfl, r⟩
  | _, _, i + 1, d, .cons _ t, e => by
    obtain ⟨v, h1, h2⟩ := RWs.get (i := i) (w := d) t (by simpa using e)
    exact ⟨v, by simpa using h1, h2⟩
theorem RWs.atI {vs : List V} {ws : List W} {i : Int} {d : W} (h : RWs K η H vs ws) (e : L2.atI ws i = some d) : ∃ v, L2.atI vs i = some v ∧ RW K η H v d := by
  unfold L2.atI at e ⊢
  rw [h.length]
  cases q : ixN ws.length i with
  | none => rw [q] at e; cases e
  | some j =>
    rw [q] at e
    exact h.get e
theorem RWs.append : ∀ {vs us : List V} {ws ys : List W}, RWs K η H vs ws → RWs K η H us ys → RWs K η H (vs ++ us) (ws ++ ys)
  | _, _, _, _, .nil, s => s
  | _, _, _, _, .cons r t, s => .cons r (RWs.append t s)
theorem RWs.set {v : V} {w : W} (r : RW K η H v w) : ∀ {vs : List V} {ws : List W} (i : Nat), RWs K η H vs ws → RWs K η H (vs.set i v) (ws.set i w)
  | _, _, _, .nil => .nil
  | _, _, 0, .cons _ t => .cons r t
  | _, _, i + 1, .cons q t => .cons q (RWs.set r i t)
theorem KR.look {κ : Type} [DecidableEq κ] {k : κ} : ∀ {vs : List (κ × V)} {ws : List (κ × W)}, KR K η H vs ws → (∀ w, MP.look k ws = some w → ∃ v, valV vs k = some v ∧ RW K η H v w) ∧ (MP.look k ws = none → valV vs k = none)
  | _, _, .nil => ⟨fun w e => (by unfold MP.look at e; cases e), fun _ => rfl⟩
  | _, _, .cons (k := j) (v := v) (vs := vs) (w := w) (ws := ws) r t => by
    obtain ⟨i1, i2⟩ := KR.look (k := k) t
    by_cases e : j = k
    · rw [valV_pos e]
      unfold MP.look
      rw [if_pos e]
      exact ⟨fun w' q => by cases q; exact ⟨v, rfl, r⟩, fun q => by cases q⟩
    · rw [valV_neg e]
      unfold MP.look
      rw [if_neg e]
      exact ⟨i1, i2⟩
theorem KR.any {κ : Type} [DecidableEq κ] {k : κ} : ∀ {vs : List (κ × V)} {ws : List (κ × W)}, KR K η H vs ws → (vs.any fun kv => decide (kv.1 = k)) = ws.any fun kv => decide (kv.1 = k)
  | _, _, .nil => rfl
  | _, _, .cons r t => by rw [List.any_cons, List.any_cons, KR.any t]
theorem KR.repl {κ : Type} [DecidableEq κ] {k : κ} {v : V} {w : W} (r : RW K η H v w) : ∀ {vs : List (κ × V)} {ws : List (κ × W)}, KR K η H vs ws →
    KR K η H (vs.map fun kv => if kv.1 = k then (kv.1, v) else kv) (ws.map fun kv => if kv.1 = k then (kv.1, w) else kv)
  | _, _, .nil => .nil
  | _, _, .cons (k := j) q t => by
    rw [List.map_cons, List.map_cons]
    by_cases e : j = k
    · rw [if_pos e, if_pos e]; exact .cons r (KR.repl r t)
    · rw [if_neg e, if_neg e]; exact .cons q (KR.repl r t)
theorem KR.snoc {κ : Type} {k : κ} {v : V} {w : W} (r : RW K η H v w) : ∀ {vs : List (κ × V)} {ws : List (κ × W)}, KR K η H vs ws → KR K η H (vs ++ [(k, v)]) (ws ++ [(k, w)])
  | _, _, .nil => .cons r .nil
  | _, _, .cons q t => .cons q (KR.snoc r t)
theorem KR.put {κ : Type} [DecidableEq κ] {k : κ} {v : V} {w : W} (r : RW K η H v w) {vs : List (κ × V)} {ws : List (κ × W)} (h : KR K η H vs ws) : KR K η H (putK vs k v) (MP.put ws k w) := by
  unfold putK MP.put
  rw [h.any]
  split
  · exact h.repl r
  · exact h.snoc r
theorem KR.length {κ : Type} : ∀ {vs : List (κ × V)} {ws : List (κ × W)}, KR K η H vs ws → vs.length = ws.length
  | _, _, .nil => rfl
  | _, _, .cons _ t => by rw [List.length_cons, List.length_cons, KR.length t]
end
/-- an object of the store, as it stands -/
def OR (K : PySem.W.Frag) (ca : Nat → Addr) (η : Zs) (H : Hp) (a : Addr) : O → Prop
  | .lst ws => ∃ vs, H a = some (.lst vs) ∧ RWs K η H vs ws
  | .dk kvs => ∃ vs, H a = some (.dK vs) ∧ KR K η H vs kvs
  | .dt kvs => ∃ vs, H a = some (.dT vs) ∧ KR K η H vs kvs
  | .ins c fs => ∃ dx vs, H a = some (.ins (ca c) dx vs) ∧ KR K η H vs fs
structure SR (K : PySem.W.Frag) (ca : Nat → Addr) (η : Zs) (H : Hp) (S : Sto) : Prop where
  len : η.l.length = S.length
  nd : η.l.Nodup
  tmp : ∀ a ∈ η.t, a ∉ η.l ∧ ∃ u, H a = some u
  obj : ∀ (i : Nat) (a : Addr) (o : O), η.l[i]? = some a → S[i]? = some o → OR K ca η H a o
def ER (K : PySem.W.Frag) (η : Zs) (H : Hp) (σ : Sg) (ρ : Sl) : Prop := σ.length = ρ.length ∧ ∀ (i : Nat) (w : W), ρ[i]? = some (some w) → ∃ v, σ[i]? = some (some v) ∧ RW K η H v w
section
variable {K : PySem.W.Frag} {ca : Nat → Addr} {η η' : Zs} {H H' : Hp} {S : Sto}
theorem ER.grow (g : Grow η H η' H') {σ : Sg} {ρ : Sl} (h : ER K η H σ ρ) : ER K η' H' σ ρ := ⟨h.1, fun i w e => let ⟨v, e1, r⟩ := h.2 i w e; ⟨v, e1, r.grow g⟩⟩
theorem ER.set {σ : Sg} {ρ : Sl} (h : ER K η H σ ρ) {v : V} {w : W} (r : RW K η H v w) (i : Nat) : ER K η H (σ.set i (some v)) (ρ.set i (some w)) := by
  refine ⟨by rw [List.length_set, List.length_set]; exact h.1, fun j w' e => ?_⟩
  by_cases hj : i = j
  · subst hj
    by_cases hl : i < ρ.length
    · rw [List.getElem?_set_self hl] at e
      cases e
      rw [List.getElem?_set_self (by rw [h.1]; exact hl)]
      exact ⟨v, rfl, r⟩
    · rw [List.getElem?_eq_none (by simpa using hl)] at e
      cases e
  · rw [List.getElem?_set_ne hj] at e ⊢
    exact h.2 j w' e
theorem ER.wipe {σ : Sg} {ρ : Sl} (h : ER K η H σ ρ) : ∀ vs : List Nat, ER K η H (wipe σ vs) (wipeW ρ vs)
  | [] => h
  | u :: us => by
    have ih := ER.wipe h us
    unfold L2.wipe wipeW
    refine ⟨by rw [List.length_set, List.length_set]; exact ih.1, fun j w' e => ?_⟩
    by_cases hj : u = j
    · subst hj
      by_cases hl : u < (wipeW ρ us).length
      · rw [List.getElem?_set_self hl] at e; cases e
      · rw [List.getElem?_eq_none (by simpa using hl)] at e; cases e
    · rw [List.getElem?_set_ne hj] at e ⊢
      exact ih.2 j w' e
theorem OR.there {a : Addr} {o : O} (h : OR K ca η H a o) : ∃ u, H a = some u := by
  cases o with
  | lst _ => exact ⟨_, h.choose_spec.1⟩
  | dk _ => exact ⟨_, h.choose_spec.1⟩
  | dt _ => exact ⟨_, h.choose_spec.1⟩
  | ins _ _ => obtain ⟨dx, vs, e, _⟩ := h; exact ⟨_, e⟩
theorem SR.there (h : SR K ca η H S) {a : Addr} (m : a ∈ η.l) : ∃ u, H a = some u := by
  obtain ⟨i, hi, e⟩ := List.getElem_of_mem m
  have hs : i < S.length := by rw [← h.len]; exact hi
  exact (h.obj i a S[i] (by rw [List.getElem?_eq_getElem hi, e]) (List.getElem?_eq_getElem hs)).there
theorem SR.fresh (h : SR K ca η H S) {p : Addr} (hp : H p = none) : η.fr p := by
  refine ⟨fun m => ?_, fun m => ?_⟩
  · obtain ⟨u, e⟩ := h.there m
    rw [hp] at e; cases e
  · obtain ⟨_, u, e⟩ := h.tmp p m
    rw [hp] at e; cases e
theorem OR.grow (g : Grow η H η' H') {a : Addr} {o : O} (h : OR K ca η H a o) (e : H' a = H a) : OR K ca η' H' a o := by
  cases o with
  | lst _ => obtain ⟨vs, q, r⟩ := h; exact ⟨vs, e.trans q, r.grow g⟩
  | dk _ => obtain ⟨vs, q, r⟩ := h; exact ⟨vs, e.trans q, r.grow g⟩
  | dt _ => obtain ⟨vs, q, r⟩ := h; exact ⟨vs, e.trans q, r.grow g⟩
  | ins _ _ => obtain ⟨dx, vs, q, r⟩ := h; exact ⟨dx, vs, e.trans q, r.grow g⟩
/-- something new that is no object of the store -/
theorem grow_new (h : SR K ca η H S) {p : Addr} {o : HO} (hp : H p = none) : Grow η H η (upd H p o) := ⟨⟨[], by simp⟩, fun a u e n => ⟨by rw [upd_ne (ne_of_none e hp)]; exact e, n⟩, fun _ _ _ _ n => n, fun _ n => n⟩
theorem SR.new (h : SR K ca η H S) {p : Addr} {o : HO} (hp : H p = none) : SR K ca η (upd H p o) S := by
  refine ⟨h.len, h.nd, fun a m => ?_, fun i a u e1 e2 => ?_⟩
  · obtain ⟨n, u, e⟩ := h.tmp a m
    exact ⟨n, u, by rw [upd_ne (ne_of_none e hp)]; exact e⟩
  · have q := h.obj i a u e1 e2
    obtain ⟨z, ez⟩ := q.there
    exact q.grow (grow_new h hp) (upd_ne (ne_of_none ez hp))
def Zs.add (z : Zs) (p : Addr) : Zs := ⟨z.l ++ [p], z.t⟩
/-- a new object of the store -/
theorem grow_alloc (h : SR K ca η H S) {p : Addr} {o : HO} (hp : H p = none) : Grow η H (η.add p) (upd H p o) :=
  ⟨⟨[p], rfl⟩, fun a u e n => ⟨by rw [upd_ne (ne_of_none e hp)]; exact e, fun m => by
    rcases List.mem_append.mp m with m | m
    · exact n m
    · rw [List.mem_singleton.mp m, hp] at e; cases e⟩, fun _ _ _ _ n => n, fun _ n => n⟩
theorem SR.alloc (h : SR K ca η H S) {p : Addr} {ho : HO} {o : O} (hp : H p = none) (ho' : OR K ca (η.add p) (upd H p ho) p o) : SR K ca (η.add p) (upd H p ho) (S ++ [o]) := by
  have np := h.fresh hp
  refine ⟨by unfold Zs.add; rw [List.length_append, List.length_append, h.len]; rfl, ?_, fun a m => ?_, fun i a u e1 e2 => ?_⟩
  · unfold Zs.add
    rw [List.nodup_append]
    refine ⟨h.nd, by simp, fun a ha b hb => ?_⟩
    rw [List.mem_singleton.mp hb]
    intro e
    rw [e] at ha
    exact np.1 ha
  · obtain ⟨n, u, e⟩ := h.tmp a m
    refine ⟨fun m2 => ?_, u, by rw [upd_ne (ne_of_none e hp)]; exact e⟩
    rcases List.mem_append.mp m2 with m2 | m2
    · exact n m2
    · rw [List.mem_singleton.mp m2, hp] at e; cases e
  · unfold Zs.add at e1
    by_cases hi : i < η.l.length
    · rw [List.getElem?_append_left hi] at e1
      rw [List.getElem?_append_left (by rw [← h.len]; exact hi)] at e2
      have q := h.obj i a u e1 e2
      obtain ⟨z, ez⟩ := q.there
      exact q.grow (grow_alloc h hp) (upd_ne (ne_of_none ez hp))
    · have hi' : i = η.l.length := by
        have hb : i < (η.l ++ [p]).length := (List.getElem?_eq_some_iff.mp e1).1
        rw [List.length_append, List.length_singleton] at hb
        omega
      subst hi'
      rw [List.getElem?_append_right (Nat.le_refl _), Nat.sub_self] at e1
      rw [h.len, List.getElem?_append_right (Nat.le_refl _), Nat.sub_self] at e2
      cases e1
      cases e2
      exact ho'
theorem nodup_at {l : List Addr} (h : l.Nodup) {i j : Nat} {a : Addr} (e1 : l[i]? = some a) (e2 : l[j]? = some a) : i = j := by
  obtain ⟨h1, q1⟩ := List.getElem?_eq_some_iff.mp e1
  obtain ⟨h2, q2⟩ := List.getElem?_eq_some_iff.mp e2
  exact (List.getElem_inj h).mp (q1.trans q2.symm)
/-- an object of the store is written -/
theorem grow_set (h : SR K ca η H S) {i : Nat} {a : Addr} {o : HO} (ha : η.l[i]? = some a) : Grow η H η (upd H a o) :=
  ⟨⟨[], by simp⟩, fun b u e n => ⟨by rw [upd_ne (fun z : b = a => n (by rw [z]; exact List.mem_of_getElem? ha))]; exact e, n⟩, fun _ _ _ _ n => n, fun _ n => n⟩
theorem SR.set (h : SR K ca η H S) {i : Nat} {a : Addr} {ho : HO} {o : O} (ha : η.l[i]? = some a) (ho' : OR K ca η (upd H a ho) a o) : SR K ca η (upd H a ho) (S.set i o) := by
  refine ⟨by rw [List.length_set]; exact h.len, h.nd, fun b m => ?_, fun j b u e1 e2 => ?_⟩
  · obtain ⟨n, u, e⟩ := h.tmp b m
    exact ⟨n, u, by rw [upd_ne (fun z : b = a => n (by rw [z]; exact List.mem_of_getElem? ha))]; exact e⟩
  by_cases hj : i = j
  · subst hj
    rw [ha] at e1
    cases e1
    have hl : i < S.length := by rw [← h.len]; exact (List.getElem?_eq_some_iff.mp ha).1
    rw [List.getElem?_set_self hl] at e2
    cases e2
    exact ho'
  · rw [List.getElem?_set_ne hj] at e2
    have q := h.obj j b u e1 e2
    refine q.grow (grow_set h ha) (upd_ne fun z => hj ?_)
    subst z
    exact nodup_at h.nd ha e1
theorem SR.at (h : SR K ca η H S) {i : Nat} {a : Addr} {o : O} (ha : η.l[i]? = some a) (e : S[i]? = some o) : OR K ca η H a o := h.obj i a o ha e
/-! ### a list that is being made -/
def Zs.tmp (z : Zs) (p : Addr) : Zs := ⟨z.l, p :: z.t⟩
def Zs.drp (z : Zs) (p : Addr) : Zs := ⟨z.l, z.t.filter fun a => decide (a ≠ p)⟩
theorem grow_tmp {p : Addr} {o : HO} (hp : H p = none) : Grow η H (η.tmp p) (upd H p o) :=
  ⟨⟨[], by simp [Zs.tmp]⟩, fun a u e n => ⟨by rw [upd_ne (ne_of_none e hp)]; exact e, n⟩, fun a u e n n2 m => (List.mem_cons.mp m).elim (fun z => by rw [z, hp] at e; cases e) n2, fun a m => List.mem_cons_of_mem _ m⟩
mutual
theorem Rp.drp {p : Addr} : ∀ (d : D) (v : V), Rp K η H v d → Rp K (η.drp p) H v d
  | .none, _, h => by cases h; exact .non
  | .bool b, _, h => by cases h; exact .bl b
  | .int i, _, h => by cases h; exact .int i
  | .str x, _, h => by cases h; exact .str x
  | .list ds, _, h => by
    cases h with
    | lst a b => exact .lst (a.elim (fun a => .inl ⟨a.1, a.2.1, fun m => a.2.2 (List.mem_filter.mp m).1⟩) .inr) (RpAll.drp ds _ b)
  | .tuple ds, _, h => by
    cases h with
    | tup a b =>
      refine .tup ?_ (RpAll.drp ds _ b)
      rcases a with ⟨r, n, n2⟩ | r
      · exact .inl ⟨r, n, fun m => n2 (List.mem_filter.mp m).1⟩
      · exact .inr r
  | .dict _, _, h => by cases h
theorem RpAll.drp {p : Addr} : ∀ (ds : List D) (vs : List V), RpAll K η H vs ds → RpAll K (η.drp p) H vs ds
  | [], _, h => by cases h; exact .nil
  | d :: ds, _, h => by
    cases h with
    | cons a b => exact .cons (Rp.drp d _ a) (RpAll.drp ds _ b)
end
mutual
/-- the list itself is written -/
theorem Rp.wr {p : Addr} {o : HO} (hp : p ∈ η.t) : ∀ (d : D) (v : V), Rp K η H v d → Rp K η (upd H p o) v d
  | .none, _, h => by cases h; exact .non
  | .bool b, _, h => by cases h; exact .bl b
  | .int i, _, h => by cases h; exact .int i
  | .str x, _, h => by cases h; exact .str x
  | .list ds, _, h => by
    cases h with
    | @lst a _ _ x b =>
      refine .lst ?_ (RpAll.wr hp ds _ b)
      rcases x with ⟨r, n, n2⟩ | r
      · have ne : a ≠ p := fun z => n2 (by rw [z]; exact hp)
        rcases r with r | ⟨ob, r⟩
        · exact .inl ⟨.inl (by rw [upd_ne ne]; exact r), n, n2⟩
        · exact .inl ⟨.inr ⟨ob, by rw [upd_ne ne]; exact r⟩, n, n2⟩
      · exact .inr r
  | .tuple ds, _, h => by
    cases h with
    | @tup a _ _ x b =>
      refine .tup ?_ (RpAll.wr hp ds _ b)
      rcases x with ⟨r, n, n2⟩ | r
      · have ne : a ≠ p := fun z => n2 (by rw [z]; exact hp)
        exact .inl ⟨by rw [upd_ne ne]; exact r, n, n2⟩
      · exact .inr r
  | .dict _, _, h => by cases h
theorem RpAll.wr {p : Addr} {o : HO} (hp : p ∈ η.t) : ∀ (ds : List D) (vs : List V), RpAll K η H vs ds → RpAll K η (upd H p o) vs ds
  | [], _, h => by cases h; exact .nil
  | d :: ds, _, h => by
    cases h with
    | cons a b => exact .cons (Rp.wr hp d _ a) (RpAll.wr hp ds _ b)
end
section
variable {p : Addr} {o : HO}
theorem RW.drp {v : V} {w : W} (h : RW K η H v w) : RW K (η.drp p) H v w := by
  cases h with
  | d r => exact .d (Rp.drp _ _ r)
  | r e => exact .r e
theorem RWs.drp : ∀ {vs : List V} {ws : List W}, RWs K η H vs ws → RWs K (η.drp p) H vs ws
  | _, _, .nil => .nil
  | _, _, .cons a b => .cons a.drp (RWs.drp b)
theorem KR.drp {κ : Type} : ∀ {vs : List (κ × V)} {ws : List (κ × W)}, KR K η H vs ws → KR K (η.drp p) H vs ws
  | _, _, .nil => .nil
  | _, _, .cons a b => .cons a.drp (KR.drp b)
theorem OR.drp {a : Addr} {u : O} (h : OR K ca η H a u) : OR K ca (η.drp p) H a u := by
  cases u with
  | lst _ => obtain ⟨vs, q, r⟩ := h; exact ⟨vs, q, r.drp⟩
  | dk _ => obtain ⟨vs, q, r⟩ := h; exact ⟨vs, q, r.drp⟩
  | dt _ => obtain ⟨vs, q, r⟩ := h; exact ⟨vs, q, r.drp⟩
  | ins _ _ => obtain ⟨dx, vs, q, r⟩ := h; exact ⟨dx, vs, q, r.drp⟩
theorem SR.drp (h : SR K ca η H S) : SR K ca (η.drp p) H S :=
  ⟨h.len, h.nd, fun a m => h.tmp a (List.mem_filter.mp m).1, fun i a u e1 e2 => (h.obj i a u e1 e2).drp⟩
theorem SR.up (h : SR K ca η H S) (hp : H p = none) : SR K ca (η.tmp p) (upd H p o) S := by
  refine ⟨h.len, h.nd, fun a m => ?_, fun i a u e1 e2 => ?_⟩
  · rcases List.mem_cons.mp m with e | m
    · subst e
      exact ⟨(h.fresh hp).1, o, upd_same⟩
    · obtain ⟨n, u, e⟩ := h.tmp a m
      exact ⟨n, u, by rw [upd_ne (ne_of_none e hp)]; exact e⟩
  · have q := h.obj i a u e1 e2
    obtain ⟨z, ez⟩ := q.there
    exact q.grow (grow_tmp hp) (upd_ne (ne_of_none ez hp))
theorem RW.wr (hp : p ∈ η.t) {v : V} {w : W} (h : RW K η H v w) : RW K η (upd H p o) v w := by
  cases h with
  | d r => exact .d (Rp.wr hp _ _ r)
  | r e => exact .r e
theorem RWs.wr (hp : p ∈ η.t) : ∀ {vs : List V} {ws : List W}, RWs K η H vs ws → RWs K η (upd H p o) vs ws
  | _, _, .nil => .nil
  | _, _, .cons a b => .cons (a.wr hp) (RWs.wr hp b)
theorem KR.wr {κ : Type} (hp : p ∈ η.t) : ∀ {vs : List (κ × V)} {ws : List (κ × W)}, KR K η H vs ws → KR K η (upd H p o) vs ws
  | _, _, .nil => .nil
  | _, _, .cons a b => .cons (a.wr hp) (KR.wr hp b)
theorem OR.wr (hp : p ∈ η.t) {a : Addr} {u : O} (ne : a ≠ p) (h : OR K ca η H a u) : OR K ca η (upd H p o) a u := by
  cases u with
  | lst _ => obtain ⟨vs, q, r⟩ := h; exact ⟨vs, by rw [upd_ne ne]; exact q, r.wr hp⟩
  | dk _ => obtain ⟨vs, q, r⟩ := h; exact ⟨vs, by rw [upd_ne ne]; exact q, r.wr hp⟩
  | dt _ => obtain ⟨vs, q, r⟩ := h; exact ⟨vs, by rw [upd_ne ne]; exact q, r.wr hp⟩
  | ins _ _ => obtain ⟨dx, vs, q, r⟩ := h; exact ⟨dx, vs, by rw [upd_ne ne]; exact q, r.wr hp⟩
theorem SR.wr (h : SR K ca η H S) (hp : p ∈ η.t) : SR K ca η (upd H p o) S := by
  refine ⟨h.len, h.nd, fun a m => ?_, fun i a u e1 e2 => (h.obj i a u e1 e2).wr hp fun z => ?_⟩
  · obtain ⟨n, u, e⟩ := h.tmp a m
    by_cases z : a = p
    · subst z; exact ⟨n, o, upd_same⟩
    · exact ⟨n, u, by rw [upd_ne z]; exact e⟩
  · subst z
    exact (h.tmp _ hp).1 (List.mem_of_getElem? e1)
theorem ER.wr {σ : Sg} {ρ : Sl} (h : ER K η H σ ρ) (hp : p ∈ η.t) : ER K η (upd H p o) σ ρ := ⟨h.1, fun i w e => let ⟨v, e1, r⟩ := h.2 i w e; ⟨v, e1, r.wr hp⟩⟩
theorem grow_drp {η0 : Zs} {H0 : Hp} (g : Grow η0 H0 η H) (hp : p ∉ η0.t) : Grow η0 H0 (η.drp p) H :=
  ⟨g.pre, g.keep, fun a u e n n2 m => g.tm a u e n n2 (List.mem_filter.mp m).1, fun a m => List.mem_filter.mpr ⟨g.tk a m, decide_eq_true fun z => hp (by rw [← z]; exact m)⟩⟩
end
end
end MP

/-! Operations: what the model does at represented values. -/
namespace MP
open PySem L2 PySem.Spec PyProof.Rows
/-- what is asked of the surroundings -/
structure Ck (X : Cx) : Prop where
  calm : X.calm = true
  nd : X.N.Nodup
  hu : X.A.units + 150 < cLine
  gd : X.A.guards = some []
section
variable (K : PySem.W.Frag) (ca : Nat → Addr)
def qW (K : PySem.W.Frag) (ca : Nat → Addr) (η : Zs) (H : Hp) (Q : VK) : W → Sto → Prop := fun w S' => ∀ v H' η', Grow η H η' H' → SR K ca η' H' S' → RW K η' H' v w → Q v H'
def rW1 (m : W → M W) : V → Hp → VK → Prop := fun x H Q => ∃ η S w, SR K ca η H S ∧ RW K η H x w ∧ post (m w S) (qW K ca η H Q)
def rW2 (m : W → W → M W) : R2 := fun x y H Q => ∃ η S w1 w2, SR K ca η H S ∧ RW K η H x w1 ∧ RW K η H y w2 ∧ post (m w1 w2 S) (qW K ca η H Q)
def rWs (m : List W → M W) : List V → Hp → VK → Prop := fun xs H Q => ∃ η S ws, SR K ca η H S ∧ RWs K η H xs ws ∧ post (m ws S) (qW K ca η H Q)
end
section
variable {K : PySem.W.Frag} {ca : Nat → Addr} {η η' : Zs} {H H' : Hp} {S : Sto} {Q : VK}
/-- plain data, nothing new -/
theorem qW.same {w : W} (h : qW K ca η H Q w S) (sr : SR K ca η H S) {v : V} (r : RW K η H v w) : Q v H := h v H η (Grow.refl _ _) sr r
/-- a new tuple -/
theorem qW.tup {ds : List D} {vs : List V} {p : Addr} (h : qW K ca η H Q (.d (.tuple ds)) S) (sr : SR K ca η H S) (r : RpAll K η H vs ds) (hp : H p = none) : Q (.ref p) (upd H p (.tup vs)) :=
  h _ _ η (grow_new sr hp) (sr.new hp) (.d (.tup (.inl ⟨upd_same, sr.fresh hp⟩) (RpAll.grow (grow_new sr hp) _ _ r)))
theorem qW.lst {ds : List D} {vs : List V} {p : Addr} (h : qW K ca η H Q (.d (.list ds)) S) (sr : SR K ca η H S) (r : RpAll K η H vs ds) (hp : H p = none) : Q (.ref p) (upd H p (.lst vs)) :=
  h _ _ η (grow_new sr hp) (sr.new hp) (.d (.lst (.inl ⟨.inl upd_same, sr.fresh hp⟩) (RpAll.grow (grow_new sr hp) _ _ r)))
theorem post_opt {α β : Type} (o : Option α) (f : α → M β) (q : β → Sto → Prop) (h : post (bnd (opt o) f S) q) : ∃ a, o = some a ∧ post (f a S) q := by
  cases o with
  | none => exact h.elim
  | some a => exact ⟨a, rfl, h⟩
theorem post_map {α β : Type} (o : Option α) (f : α → β) (q : β → Sto → Prop) (h : post (o.map fun a => Out.ok (f a) S) q) : ∃ a, o = some a ∧ q (f a) S := by
  cases o with
  | none => exact h.elim
  | some a => exact ⟨a, rfl, h⟩
theorem ite_some {α : Type} {c : Prop} [Decidable c] {a b : α} (h : (if c then some a else none) = some b) : c ∧ a = b := by
  by_cases hc : c
  · rw [if_pos hc] at h; exact ⟨hc, Option.some.inj h⟩
  · rw [if_neg hc] at h; cases h
theorem szl {n : Nat} (h : n ≤ SZ) : n ≤ sizeLine := by rw [sizeLine_eq]; exact h
theorem szl' {n : Nat} (h : n < SZ) : n < sizeLine := by rw [sizeLine_eq]; exact h
end

section
variable {X : Cx} {ca : Nat → Addr}
theorem OpR.of {f : Value → Value → Sem Value} {r r' : R2} (h : OpR X f r) (k : ∀ x y H Q, r' x y H Q → r x y H Q) : OpR X f r' := fun pins s σ H x y v u Q I rx ry q => h pins s σ H x y v u Q I rx ry (k x y H Q q)
/-- list + list, whatever way they are known -/
def rCatL (K : PySem.W.Frag) : R2 := fun x y H Q => ∃ l b xs zs, x = .ref l ∧ y = .ref b ∧ SqL K H l xs ∧ SqL K H b zs ∧ xs.length + zs.length ≤ sizeLine ∧ ∀ p, H p = none → Q (.ref p) (upd H p (.lst (xs ++ zs)))
theorem op_catL : OpR X (binaryOp .Add) (rCatL X.K) := by
  intro pins s σ H x y v u Q I rx ry h
  obtain ⟨l, b, xs, zs, ex, ey, hl, hb, hz, q⟩ := h
  subst ex; subst ey
  cases rx; cases ry
  obtain ⟨us, r1, ⟨⟨c1, d1, e1, f1⟩, n1, g1, hc1, hd1, he1⟩, _⟩ := I.list hl
  obtain ⟨ws, r2, ⟨⟨c2, d2, e2, f2⟩, n2, g2, hc2, hd2, he2⟩, _⟩ := I.list hb
  have k1 := r1.length
  have k2 := r2.length
  simp only at hc1 he1 hc2 he2
  subst hc1 he1 hc2 he2
  refine concat_meets ⟨_, g1, rfl⟩ ⟨_, g2, rfl⟩ PySem.noFill_list_add PySem.seq_list_add PySem.F.slot_list_add PySem.F.entry_list_add (PySem.F.args_list_add_2 _ _) (list_addW l b us.toArray ws.toArray n1 n2 d1 d2 f1 f2 (by simp only [List.size_toArray]; omega)) ⟨g1, g2, ?_⟩
  rw [show us.toArray ++ ws.toArray = (us ++ ws).toArray from List.append_toArray us ws]
  exact ⟨.ref _, _, I.lnew (t' := s.toks) (r1.append r2) (by rw [List.length_append]; omega), rfl, q _ I.fresh⟩
theorem bin_add : OpR X (binaryOp .Add) (rW2 X.K ca (binW .add)) := by
  refine OpR.of (OpR.or op_add (OpR.or op_add_str (OpR.or op_catA op_catL))) fun x y H Q h => ?_
  obtain ⟨η, S, w1, w2, sr, r1, r2, h⟩ := h
  cases r1 with
  | r e => cases r2 <;> exact h.elim
  | d r1 => cases r2 with
    | r e => exact h.elim
    | d r2 =>
      obtain ⟨z, e, h⟩ := post_opt _ _ _ h
      have h : qW X.K ca η H Q (.d z) S := h
      cases r1 with
      | int i => cases r2 with
        | int j => cases e; exact .inl ⟨i, j, rfl, rfl, h.same sr (.d (.int _))⟩
        | _ => cases e
      | str i => cases r2 with
        | str j =>
          dsimp only [binD] at e
          split at e
          · cases e; exact .inr (.inl ⟨i, j, rfl, rfl, szl (by assumption), h.same sr (.d (.str _))⟩)
          · cases e
        | _ => cases e
      | tup a1 b1 => cases r2 with
        | tup a2 b2 =>
          dsimp only [binD] at e
          split at e
          · rename_i hz
            cases e
            refine .inr (.inr (.inl ⟨_, _, _, _, rfl, rfl, a1.sq, a2.sq, szl (by rw [b1.length, b2.length]; exact hz), fun e0 => ?_, fun _ e0 => ?_, fun _ _ p hp => ?_⟩))
            · subst e0
              cases b1
              exact h.same sr (.d (.tup a2 b2))
            · subst e0
              cases b2
              rw [List.append_nil] at h
              exact h.same sr (.d (.tup a1 b1))
            · exact h.tup sr (b1.append b2) hp
          · cases e
        | _ => cases e
      | lst a1 b1 => cases r2 with
        | lst a2 b2 =>
          dsimp only [binD] at e
          split at e
          · rename_i hz
            cases e
            exact .inr (.inr (.inr ⟨_, _, _, _, rfl, rfl, a1.sq, a2.sq, szl (by rw [b1.length, b2.length]; exact hz), fun p hp => h.lst sr (b1.append b2) hp⟩))
          · cases e
        | _ => cases e
      | _ => cases r2 <;> cases e
theorem bin_int {op : Operator} {b : B2} {C : Int → Int → Prop} {g : Int → Int → Int} (ho : OpR X (binaryOp op) (rI C fun i j => .int (g i j)))
    (hb : ∀ d e z, binD b d e = some z → ∃ i j, d = .int i ∧ e = .int j ∧ C i j ∧ z = .int (g i j)) : OpR X (binaryOp op) (rW2 X.K ca (binW b)) := by
  refine OpR.of ho fun x y H Q h => ?_
  obtain ⟨η, S, w1, w2, sr, r1, r2, h⟩ := h
  cases r1 with
  | r e => cases r2 <;> exact h.elim
  | d r1 => cases r2 with
    | r e => exact h.elim
    | d r2 =>
      obtain ⟨z, e, h⟩ := post_opt _ _ _ h
      obtain ⟨i, j, rfl, rfl, hc, rfl⟩ := hb _ _ _ e
      cases r1; cases r2
      exact ⟨i, j, rfl, rfl, hc, qW.same h sr (.d (.int _))⟩
theorem bin_int0 {op : Operator} {b : B2} {g : Int → Int → Int} (ho : OpR X (binaryOp op) (rI0 fun i j => .int (g i j)))
    (hb : ∀ d e z, binD b d e = some z → ∃ i j, d = .int i ∧ e = .int j ∧ z = .int (g i j)) : OpR X (binaryOp op) (rW2 X.K ca (binW b)) :=
  bin_int (C := fun _ _ => True) (OpR.of ho fun x y H Q h => by obtain ⟨i, j, e1, e2, _, q⟩ := h; exact ⟨i, j, e1, e2, q⟩) fun d e z h => by
    obtain ⟨i, j, e1, e2, e3⟩ := hb d e z h
    exact ⟨i, j, e1, e2, trivial, e3⟩
theorem bin_sub : OpR X (binaryOp .Sub) (rW2 X.K ca (binW .sub)) := bin_int0 op_sub fun d e z h => by
  cases d <;> cases e <;> cases h; exact ⟨_, _, rfl, rfl, rfl⟩
theorem bin_and : OpR X (binaryOp .BitAnd) (rW2 X.K ca (binW .band)) := bin_int0 op_and fun d e z h => by
  cases d <;> cases e <;> cases h; exact ⟨_, _, rfl, rfl, rfl⟩
theorem bin_or : OpR X (binaryOp .BitOr) (rW2 X.K ca (binW .bor)) := bin_int0 op_or fun d e z h => by
  cases d <;> cases e <;> cases h; exact ⟨_, _, rfl, rfl, rfl⟩
theorem bin_mod : OpR X (binaryOp .Mod) (rW2 X.K ca (binW .mod)) := bin_int op_mod fun d e z h => by
  cases d <;> cases e <;> first
    | (dsimp only [binD] at h; split at h <;> cases h; exact ⟨_, _, rfl, rfl, by assumption, rfl⟩)
    | cases h
theorem small_log {j : Int} (h0 : 0 < j) (h : j < 18446744073709551616) : j.natAbs.log2 < 9000 := by
  have h1 : j.natAbs < 2 ^ 64 := by omega
  have h2 : j.natAbs.log2 < 64 := (Nat.log2_lt (by omega)).mpr h1
  omega
theorem bin_fdiv : OpR X (binaryOp .FloorDiv) (rW2 X.K ca (binW .fdiv)) := bin_int op_fdivW fun d e z h => by
  cases d <;> cases e <;> first
    | (dsimp only [binD] at h; split at h <;> cases h; exact ⟨_, _, rfl, rfl, ⟨by omega, small_log (by omega) (by omega)⟩, rfl⟩)
    | cases h
theorem bin_pow : OpR X (binaryOp .Pow) (rW2 X.K ca (binW .pow)) := bin_int op_pow fun d e z h => by
  cases d <;> cases e <;> first
    | (dsimp only [binD] at h; split at h <;> cases h; exact ⟨_, _, rfl, rfl, by assumption, rfl⟩)
    | cases h
/-- a tuple some times over -/
def rRepN (K : PySem.W.Frag) : R2 := fun x y H Q => ∃ l k xs, x = .ref l ∧ y = .int k ∧ SqT K H l xs ∧ xs ≠ [] ∧ 2 ≤ k ∧ (xs.length : Int) * k ≤ 1000000 ∧ ∀ p, H p = none → Q (.ref p) (upd H p (.tup (List.replicate k.toNat xs).flatten))
theorem op_repN : OpR X (binaryOp .Mult) (rRepN X.K) := by
  intro pins s σ H x y v u Q I rx ry h
  obtain ⟨l, k, xs, rfl, rfl, seen, some', two, few, q⟩ := h
  cases rx
  obtain ⟨tk, rfl⟩ := ry
  obtain ⟨us, rel, ⟨⟨c, d, e, f⟩, look, hc, n, hd⟩, _⟩ := I.tuple seen
  simp only at hc hd
  subst hc hd
  have len := rel.length
  have pos : 1 ≤ us.length := by
    cases xs with
    | nil => exact absurd rfl some'
    | cons _ _ => rw [List.length_cons] at len; omega
  have notE : us.toArray.isEmpty = false := by
    cases us with
    | nil => simp at pos
    | cons _ _ => rfl
  have size : (us.toArray.size : Int) * k ≤ 1000000 := by rw [List.size_toArray, ← len]; exact few
  have kk : k ≤ 1000000 := by
    have q1 : (1 : Int) * k ≤ (us.toArray.size : Int) * k := Int.mul_le_mul_of_nonneg_right (by rw [List.size_toArray]; omega) (by omega)
    omega
  have flat : (List.replicate k.toNat us).flatten.length ≤ sizeLine := by
    rw [PyProof.Rows.lm_len_rep_flat, sizeLine_eq]
    have q1 : ((k.toNat * us.length : Nat) : Int) ≤ 1000000 := by
      rw [Int.natCast_mul, Int.toNat_of_nonneg (by omega), Int.mul_comm]
      rw [List.size_toArray] at size
      exact size
    omega
  have flatV : (List.replicate k.toNat xs).flatten.length ≤ sizeLine := by
    rw [PyProof.Rows.lm_len_rep_flat] at flat ⊢
    rw [len]; exact flat
  have d0 : (decide (k < -(2 ^ 63)) || decide (k ≥ 2 ^ 63)) = false := by
    rw [Bool.or_eq_false_iff]
    exact ⟨decide_eq_false (by omega), decide_eq_false (by omega)⟩
  have d1 : (us.toArray.isEmpty || k == 1) = false := by
    rw [notE]
    exact beq_eq_false_iff_ne.mpr (by omega)
  have d2 : (decide (k ≤ 0) || us.toArray.isEmpty) = false := by
    rw [notE, Bool.or_eq_false_iff]
    exact ⟨decide_eq_false (by omega), rfl⟩
  have d4 : Builtin.Tuple.tupleTooMany (((us.toArray.size : Nat) : Int) * k) = false := by
    unfold Builtin.Tuple.tupleTooMany
    rw [sizeLine_eq]
    exact decide_eq_false (by omega)
  have mul := tuple_mulW l us.toArray n d f k tk d0 d1 d2 (by omega) d4 (by rw [size_rep, List.size_toArray]; exact flat)
  refine wpAny_binaryOp_repeat_ref (T := "tuple") (U := "int") (by decide) ⟨_, look, rfl⟩ (fun s' => typeIs_int s' k tk) noFill_tuple_mul PySem.F.fills_int_mul PySem.F.slot_int_rmul repeat_tuple PySem.F.slot_int_index.lookup ?_
  refine call_meets PySem.F.slot_int_rmul (typeIs_int s k tk) PySem.F.entry_int_rmul (PySem.F.args_int_rmul_2 _ _) (int_rmul_tuple k tk l us.toArray n d f) ⟨look, rfl, ⟨_, look, rfl⟩, ?_⟩
  refine call_meets PySem.F.slot_tuple_mul ⟨_, look, rfl⟩ PySem.F.entry_tuple_mul (PySem.F.args_tuple_mul_2 _ _) mul ⟨look, ?_⟩
  rw [size_rep]
  refine ⟨.ref s.heap.objs.size, _, I.laid (t' := s.toks) (o := .tup (List.replicate k.toNat xs).flatten) (fun b ob z => Heap.get?_push_of_some _ z) (Nat.le_refl _) ?_, rfl, q _ (I.hok.fresh (Nat.le_refl _))⟩
  exact ⟨flatV, _, rel.rep k.toNat, IsTup.new _ _⟩
theorem bin_mul : OpR X (binaryOp .Mult) (rW2 X.K ca (binW .mul)) := by
  refine OpR.of (OpR.or op_mul op_repN) fun x y H Q h => ?_
  obtain ⟨η, S, w1, w2, sr, r1, r2, h⟩ := h
  cases r1 with
  | r e => cases r2 <;> exact h.elim
  | d r1 => cases r2 with
    | r e => exact h.elim
    | d r2 =>
      obtain ⟨z, e, h⟩ := post_opt _ _ _ h
      have h : qW X.K ca η H Q (.d z) S := h
      cases r1 with
      | int i => cases r2 with
        | int j =>
          dsimp only [binD] at e
          split at e <;> cases e
          exact .inl ⟨i, j, rfl, rfl, by assumption, h.same sr (.d (.int _))⟩
        | _ => cases e
      | tup a1 b1 => cases r2 with
        | int k =>
          dsimp only [binD] at e
          obtain ⟨hk, ez⟩ := ite_some e
          subst ez
          obtain ⟨k1, k2, k3⟩ := hk
          refine .inr ⟨_, k, _, rfl, rfl, a1.sq, fun e0 => k1 ?_, k2, by rw [b1.length]; exact k3, fun p hp => h.tup sr (b1.rep _) hp⟩
          subst e0
          cases b1
          rfl
        | _ => cases e
      | _ => cases r2 <;> cases e
/-- which operator -/
def opOf : Operator → Option B2
  | .Add => some .add | .Sub => some .sub | .Mult => some .mul | .FloorDiv => some .fdiv | .Mod => some .mod | .Pow => some .pow | .BitAnd => some .band | .BitOr => some .bor
  | _ => none
theorem bin_ok {op : Operator} {b : B2} (h : opOf op = some b) : OpR X (binaryOp op) (rW2 X.K ca (binW b)) := by
  cases op <;> cases h
  · exact bin_add
  · exact bin_sub
  · exact bin_mul
  · exact bin_mod
  · exact bin_pow
  · exact bin_or
  · exact bin_and
  · exact bin_fdiv
theorem neg_ok : UnR X (unaryOp .USub) (rW1 X.K ca negW) := by
  intro pins s σ H x v Q I rx h
  refine un_neg pins s σ H x v Q I rx ?_
  obtain ⟨η, S, w, sr, r, h⟩ := h
  cases r with
  | r e => exact h.elim
  | d r => cases r with
    | int i => exact ⟨i, rfl, qW.same h sr (.d (.int _))⟩
    | _ => exact h.elim
end
end MP

/-! Comparisons, truth, subscripts, slices, built-in calls, methods. -/
namespace MP
open PySem L2 PySem.Spec PyProof.Rows
section
variable {X : Cx} {ca : Nat → Addr}

/-! ### comparisons -/
def cmpOf : CmpOp → Option C2
  | .Eq => some .eq | .NotEq => some .ne | .Lt => some .lt | .LtE => some .le | .Gt => some .gt | .GtE => some .ge | .Is => some .isn | .IsNot => some .isnn | .In => some .inn | .NotIn => some .nin
theorem post_cmpV {op : C2} {x y : W} {S : Sto} {q : W → Sto → Prop} (h : post (cmpV op x y S) q) : post (cmpW op x y S) (fun c S' => q (.d (.bool c)) S') := by
  unfold cmpV at h
  rw [post_bnd] at h
  exact h
theorem eqD_ways {d e : D} {b : Bool} (h : eqD d e = some b) : (∃ x y, d = .str x ∧ e = .str y ∧ b = (x == y)) ∨ (∃ x y, d = .int x ∧ e = .int y ∧ b = (x == y)) ∨ (SeqAt.shaped d = true ∧ SeqAt.shaped e = true ∧ b = PyData.eqv d e) := by
  unfold eqD at h
  split at h
  · exact .inl ⟨_, _, rfl, rfl, (Option.some.inj h).symm⟩
  · exact .inr (.inl ⟨_, _, rfl, rfl, (Option.some.inj h).symm⟩)
  · obtain ⟨⟨h1, h2⟩, h3⟩ := ite_some h
    exact .inr (.inr ⟨h1, h2, h3.symm⟩)
theorem cmp_eq (ck : Ck X) : OpR X (compareOp .Eq) (rW2 X.K ca (cmpV .eq)) := by
  have hu := ck.hu
  refine OpR.of (OpR.or op_eq (op_eqD (by omega))) fun x y H Q h => ?_
  obtain ⟨η, S, w1, w2, sr, r1, r2, h⟩ := h
  have h := post_cmpV h
  cases r1 with
  | r e => cases r2 <;> exact h.elim
  | d r1 => cases r2 with
    | r e => exact h.elim
    | d r2 =>
      obtain ⟨b, e, h⟩ := post_map _ _ _ h
      have h : qW X.K ca η H Q (.d (.bool b)) S := h
      have q := h.same sr (.d (.bl b))
      rcases eqD_ways e with ⟨i, j, rfl, rfl, rfl⟩ | ⟨i, j, rfl, rfl, rfl⟩ | ⟨s1, s2, rfl⟩
      · cases r1; cases r2; exact .inl ⟨rfl, by rw [dec_str]; exact q⟩
      · cases r1; cases r2; exact .inl ⟨rfl, by rw [dec_int]; exact q⟩
      · exact .inr ⟨_, _, Rp.dp _ _ r1, Rp.dp _ _ r2, s1, s2, q⟩
theorem cmp_ne (ck : Ck X) : OpR X (compareOp .NotEq) (rW2 X.K ca (cmpV .ne)) := by
  have hu := ck.hu
  refine OpR.of (OpR.or op_ne (op_neD (by omega))) fun x y H Q h => ?_
  obtain ⟨η, S, w1, w2, sr, r1, r2, h⟩ := h
  have h := post_cmpV h
  cases r1 with
  | r e => cases r2 <;> exact h.elim
  | d r1 => cases r2 with
    | r e => exact h.elim
    | d r2 =>
      obtain ⟨b, e, h⟩ := post_map _ _ _ h
      have h : qW X.K ca η H Q (.d (.bool (!b))) S := h
      have q := h.same sr (.d (.bl (!b)))
      rcases eqD_ways e with ⟨i, j, rfl, rfl, rfl⟩ | ⟨i, j, rfl, rfl, rfl⟩ | ⟨s1, s2, rfl⟩
      · cases r1; cases r2; exact .inl ⟨rfl, by rw [dec_str]; exact q⟩
      · cases r1; cases r2; exact .inl ⟨rfl, by rw [dec_int]; exact q⟩
      · exact .inr ⟨_, _, Rp.dp _ _ r1, Rp.dp _ _ r2, s1, s2, q⟩
theorem cmp_lt (ck : Ck X) : OpR X (compareOp .Lt) (rW2 X.K ca (cmpV .lt)) := by
  have hu := ck.hu
  refine OpR.of (OpR.or op_lt (op_ltT (by omega))) fun x y H Q h => ?_
  obtain ⟨η, S, w1, w2, sr, r1, r2, h⟩ := h
  have h := post_cmpV h
  cases r1 with
  | r e => cases r2 <;> exact h.elim
  | d r1 => cases r2 with
    | r e => exact h.elim
    | d r2 =>
      obtain ⟨b, e, h⟩ := post_map _ _ _ h
      have h : qW X.K ca η H Q (.d (.bool b)) S := h
      have q := h.same sr (.d (.bl b))
      unfold ltD at e
      split at e
      · cases r1; cases r2; cases e; exact .inl ⟨_, _, rfl, rfl, q⟩
      · split at e
        · rename_i a1 a2 e1 e2
          cases e
          cases r1 with
          | tup t1 u1 => cases r2 with
            | tup t2 u2 =>
              have z1 := u1.ints e1
              have z2 := u2.ints e2
              subst z1; subst z2
              exact .inr ⟨_, _, _, _, rfl, rfl, t1.sq, t2.sq, q⟩
        · cases e
      · cases e
theorem cmp_gt : OpR X (compareOp .Gt) (rW2 X.K ca (cmpV .gt)) := by
  refine OpR.of op_gt fun x y H Q h => ?_
  obtain ⟨η, S, w1, w2, sr, r1, r2, h⟩ := h
  have h := post_cmpV h
  cases r1 with
  | r e => cases r2 <;> exact h.elim
  | d r1 => cases r2 with
    | r e => cases r1 <;> exact h.elim
    | d r2 => cases r1 with
      | int i => cases r2 with
        | int j => exact ⟨i, j, rfl, rfl, qW.same h sr (.d (.bl _))⟩
        | _ => exact h.elim
      | _ => cases r2 <;> exact h.elim
theorem cmp_ge : OpR X (compareOp .GtE) (rW2 X.K ca (cmpV .ge)) := by
  refine OpR.of op_ge fun x y H Q h => ?_
  obtain ⟨η, S, w1, w2, sr, r1, r2, h⟩ := h
  have h := post_cmpV h
  cases r1 with
  | r e => cases r2 <;> exact h.elim
  | d r1 => cases r2 with
    | r e => cases r1 <;> exact h.elim
    | d r2 => cases r1 with
      | int i => cases r2 with
        | int j => exact ⟨i, j, rfl, rfl, qW.same h sr (.d (.bl _))⟩
        | _ => exact h.elim
      | _ => cases r2 <;> exact h.elim
theorem cmp_le : OpR X (compareOp .LtE) (rW2 X.K ca (cmpV .le)) := by
  refine OpR.of op_le fun x y H Q h => ?_
  obtain ⟨η, S, w1, w2, sr, r1, r2, h⟩ := h
  have h := post_cmpV h
  cases r1 with
  | r e => cases r2 <;> exact h.elim
  | d r1 => cases r2 with
    | r e => exact h.elim
    | d r2 =>
      obtain ⟨b, e, h⟩ := post_map _ _ _ h
      unfold leD at e
      split at e
      · cases r1; cases r2; cases e; exact ⟨_, _, rfl, rfl, qW.same h sr (.d (.bl _))⟩
      · cases e
theorem none_of {K : PySem.W.Frag} {η : Zs} {H : Hp} {x : V} {w : W} (r : RW K η H x w) : isNone w = decide (x = .non) := by
  cases r with
  | r e => rfl
  | d r => cases r <;> rfl
theorem cmp_isn : OpR X (compareOp .Is) (rW2 X.K ca (cmpV .isn)) := by
  refine OpR.of op_isN fun x y H Q h => ?_
  obtain ⟨η, S, w1, w2, sr, r1, r2, h⟩ := h
  have h := post_cmpV h
  cases r2 with
  | r e => exact h.elim
  | d r2 => cases r2 with
    | non =>
      refine ⟨rfl, ?_⟩
      have h : qW X.K ca η H Q (.d (.bool (isNone w1))) S := h
      rw [← none_of r1]
      exact h.same sr (.d (.bl _))
    | _ => exact h.elim
theorem cmp_isnn : OpR X (compareOp .IsNot) (rW2 X.K ca (cmpV .isnn)) := by
  refine OpR.of op_notN fun x y H Q h => ?_
  obtain ⟨η, S, w1, w2, sr, r1, r2, h⟩ := h
  have h := post_cmpV h
  cases r2 with
  | r e => exact h.elim
  | d r2 => cases r2 with
    | non =>
      refine ⟨rfl, ?_⟩
      have h : qW X.K ca η H Q (.d (.bool (!isNone w1))) S := h
      rw [← none_of r1]
      exact h.same sr (.d (.bl _))
    | _ => exact h.elim
theorem keyD_rel {K : PySem.W.Frag} {η : Zs} {H : Hp} {x : V} {d : D} {k : Key} (r : Rp K η H x d) (e : keyD d = some k) : x = kV k := by
  cases r <;> cases e <;> rfl
theorem in_tup {pins : List (Addr × Obj)} {s : Shared} {σ : Sg} {H : Hp} {x y : V} {v u : Value} {Q : Bool → Prop} {d : D} {ds : List D} {E : Value → Shared → Prop} {G : Value → Shared → Prop} (ck : Ck X) (I : Inv X pins σ H s) (rx : RelV x v) (ry : RelV y u) (h1 : Dp X.K H x d) (h2 : Dp X.K H y (.tuple ds)) (sx : SeqAt.shaped d = true) (sy : SeqAt.shaped (.tuple ds) = true) :
    (G (.bool (ds.any fun z => PyData.eqv z d)) s → wpAny (model X.prog X.w) X.A (compareOp .In v u) G E s) ∧ (G (.bool (!ds.any fun z => PyData.eqv z d)) s → wpAny (model X.prog X.w) X.A (compareOp .NotIn v u) G E s) := by
  have hu := ck.hu
  obtain ⟨as, q1⟩ := Dp.reads I d x v h1 rx
  obtain ⟨bs, q2⟩ := Dp.reads I (.tuple ds) y u h2 ry
  have hc : PyData.canLayAll0 ds = true := SeqAt.canLay_of_shaped sy
  have hr : X.A.units + 1 + min (PyData.depthAll ds) d.depth < cLine := room_in_shaped sx (by omega)
  cases q2 with
  | tuple g1 g2 g3 g4 =>
    have he := SeqAt.items_eqAt (A := X.A) g4 q1 hc (SeqAt.canLay_of_shaped sx) hr
    refine ⟨fun k => ?_, fun k => ?_⟩
    · exact SeqAt.in_tupleAt _ ⟨_, g1, g2, _, g3⟩ he (by rw [SeqAt.any_by_data g4 hc]; exact k)
    · exact SeqAt.notIn_tupleAt _ ⟨_, g1, g2, _, g3⟩ he (by rw [SeqAt.any_by_data g4 hc]; exact k)
theorem cmp_in (ck : Ck X) : OpR X (compareOp .In) (rW2 X.K ca (cmpV .inn)) := by
  have hu := ck.hu
  intro pins s σ H x y v u Q I rx ry h
  obtain ⟨η, S, w1, w2, sr, r1, r2, h⟩ := h
  have h := post_cmpV h
  cases r1 with
  | r e => cases r2 <;> exact h.elim
  | d r1 => cases r2 with
    | d r2 =>
      obtain ⟨b, e, h⟩ := post_map _ _ _ h
      have h : qW X.K ca η H Q (.d (.bool b)) S := h
      have q := h.same sr (.d (.bl b))
      unfold inD at e
      split at e
      · obtain ⟨⟨s1, s2⟩, e⟩ := ite_some e
        subst e
        exact op_inD (by omega) pins s σ H x y v u Q I rx ry ⟨_, _, Rp.dp _ _ r1, Rp.dp _ _ r2, s1, s2, q⟩
      · obtain ⟨⟨s1, s2⟩, e⟩ := ite_some e
        subst e
        exact (in_tup ck I rx ry (Rp.dp _ _ r1) (Rp.dp _ _ r2) s1 s2 (Q := fun _ => True)).1 ⟨.bl _, H, I, rfl, q⟩
      · split at e
        · obtain ⟨c, ec, e⟩ := Option.map_eq_some_iff.mp e
          subst e
          cases r1; cases r2
          have ez := sign1_eq ec
          subst ez
          exact op_in_sign pins s σ H _ _ v u Q I rx ry ⟨_, _, rfl, rfl, q⟩
        · cases e
      · cases e
    | @r i a ea =>
      change post (match S[i]? with
        | some (.dk kvs) => match keyD _ with
          | some k => some (.ok (look k kvs).isSome S)
          | none => none
        | _ => none) _ at h
      split at h
      · rename_i kvs es
        split at h
        · rename_i k ek
          have q := qW.same (Q := Q) h sr (.d (.bl _))
          obtain ⟨vs, hv, kr⟩ := sr.at ea es
          have ex := keyD_rel r1 ek
          subst ex
          cases ry
          refine d_in (o := valV vs k) (by omega) I (DGet.k hv) rx fun s3 I3 => ⟨.bl _, H, I3, rfl, ?_⟩
          have z := kr.look (k := k)
          cases hl : MP.look k kvs with
          | none => rw [hl] at q; rw [z.2 hl]; exact q
          | some w' =>
            obtain ⟨v', e', _⟩ := z.1 w' hl
            rw [hl] at q; rw [e']; exact q
        · exact h.elim
      · exact h.elim
theorem cmp_nin (ck : Ck X) : OpR X (compareOp .NotIn) (rW2 X.K ca (cmpV .nin)) := by
  have hu := ck.hu
  intro pins s σ H x y v u Q I rx ry h
  obtain ⟨η, S, w1, w2, sr, r1, r2, h⟩ := h
  have h := post_cmpV h
  cases r1 with
  | r e => cases r2 <;> exact h.elim
  | d r1 => cases r2 with
    | d r2 =>
      obtain ⟨b, e, h⟩ := post_map _ _ _ h
      have h : qW X.K ca η H Q (.d (.bool (!b))) S := h
      have q := h.same sr (.d (.bl (!b)))
      unfold inD at e
      split at e
      · obtain ⟨⟨s1, s2⟩, e⟩ := ite_some e
        subst e
        exact op_notInD (by omega) pins s σ H x y v u Q I rx ry ⟨_, _, Rp.dp _ _ r1, Rp.dp _ _ r2, s1, s2, q⟩
      · obtain ⟨⟨s1, s2⟩, e⟩ := ite_some e
        subst e
        exact (in_tup ck I rx ry (Rp.dp _ _ r1) (Rp.dp _ _ r2) s1 s2 (Q := fun _ => True)).2 ⟨.bl _, H, I, rfl, q⟩
      · split at e
        · obtain ⟨c, ec, e⟩ := Option.map_eq_some_iff.mp e
          subst e
          cases r1; cases r2
          have ez := sign1_eq ec
          subst ez
          exact op_notIn_sign pins s σ H _ _ v u Q I rx ry ⟨_, _, rfl, rfl, q⟩
        · cases e
      · cases e
    | @r i a ea =>
      change post (match S[i]? with
        | some (.dk kvs) => match keyD _ with
          | some k => some (.ok (!(look k kvs).isSome) S)
          | none => none
        | _ => none) _ at h
      split at h
      · rename_i kvs es
        split at h
        · rename_i k ek
          have q := qW.same (Q := Q) h sr (.d (.bl _))
          obtain ⟨vs, hv, kr⟩ := sr.at ea es
          have ex := keyD_rel r1 ek
          subst ex
          cases ry
          refine d_notIn (o := valV vs k) (by omega) I (DGet.k hv) rx fun s3 I3 => ⟨.bl _, H, I3, rfl, ?_⟩
          have z := kr.look (k := k)
          cases hl : MP.look k kvs with
          | none => rw [hl] at q; rw [z.2 hl]; exact q
          | some w' =>
            obtain ⟨v', e', _⟩ := z.1 w' hl
            rw [hl] at q; rw [e']; exact q
        · exact h.elim
      · exact h.elim
theorem cmp_ok (ck : Ck X) {op : CmpOp} {c : C2} (h : cmpOf op = some c) : OpR X (compareOp op) (rW2 X.K ca (cmpV c)) := by
  cases op <;> cases h
  · exact cmp_eq ck
  · exact cmp_ne ck
  · exact cmp_lt ck
  · exact cmp_le
  · exact cmp_gt
  · exact cmp_ge
  · exact cmp_isn
  · exact cmp_isnn
  · exact cmp_in ck
  · exact cmp_nin ck

/-! ### truth -/
def qB (K : PySem.W.Frag) (ca : Nat → Addr) (η : Zs) (H : Hp) (Q : Bool → Hp → Prop) : Bool → Sto → Prop := fun b S' => ∀ H' η', Grow η H η' H' → SR K ca η' H' S' → Q b H'
def rTr (K : PySem.W.Frag) (ca : Nat → Addr) : V → Hp → (Bool → Hp → Prop) → Prop := fun x H Q => ∃ η S w, SR K ca η H S ∧ RW K η H x w ∧ post (truW w S) (qB K ca η H Q)
theorem empty_of {α β : Type} {xs : List α} {ys : List β} (h : xs.length = ys.length) : xs.isEmpty = ys.isEmpty := by
  cases xs <;> cases ys <;> simp at h ⊢
theorem tru_K {K : PySem.W.Frag} {H : Hp} {x : V} {Q : Bool → Hp → Prop} (h : rTr K ca x H Q) : ∃ k, TruV K x H k ∧ Q k H := by
  obtain ⟨η, S, w, sr, r, h⟩ := h
  cases r with
  | d r =>
    obtain ⟨b, e, h⟩ := post_map _ _ _ h
    have q : Q b H := h H η (Grow.refl _ _) sr
    refine ⟨b, ?_, q⟩
    cases r with
    | non => cases e; rfl
    | bl c => cases e; rfl
    | int i => cases e; rfl
    | str z => obtain ⟨e1, e2⟩ := ite_some e; exact ⟨szl e1, e2.symm⟩
    | lst a1 b1 => cases e; exact .inl ⟨_, a1.sq, by rw [empty_of b1.length]⟩
    | tup a1 b1 => cases e; exact .inr (.inl ⟨_, a1.sq, by rw [empty_of b1.length]⟩)
  | @r i a ea =>
    change post (match S[i]? with
      | some (.lst xs) => some (.ok (!xs.isEmpty) S)
      | some (.dk kvs) => some (.ok (!kvs.isEmpty) S)
      | _ => none) _ at h
    split at h
    · rename_i xs es
      obtain ⟨vs, hv, kr⟩ := sr.at ea es
      exact ⟨_, .inl ⟨vs, .inl (.inl hv), by rw [empty_of kr.length]⟩, h H η (Grow.refl _ _) sr⟩
    · rename_i kvs es
      obtain ⟨vs, hv, kr⟩ := sr.at ea es
      exact ⟨_, .inr (.inr ⟨vs, hv, by rw [empty_of kr.length]⟩), h H η (Grow.refl _ _) sr⟩
    · exact h.elim

/-! ### subscripts -/
theorem IxR.of {r r' : R2} (h : IxR X r) (k : ∀ x y H Q, r' x y H Q → r x y H Q) : IxR X r' := fun value slice pins s σ H x y v u Q I rx ry q hs => h value slice pins s σ H x y v u Q I rx ry (k x y H Q q) hs
def rIxD : R2 := fun x y H Q => ∃ a v, x = .ref a ∧ DGet H a y (some v) ∧ Q v H
theorem ix_dict (hu : X.A.units + 2 < cLine) : IxR X rIxD := by
  intro value slice pins s σ H x y v u Q I rx ry q hs
  obtain ⟨a, w, rfl, g, q⟩ := q
  cases rx
  exact tail_any (dict_typeIs I g) PySem.F.slot_dict_getitem.lookup (d_getItem (by omega) I g ry fun w' s3 I3 rw' => ⟨w, H, I3, rw', q⟩) hs
theorem sub_ok (ck : Ck X) : IxR X (rW2 X.K ca subW) := by
  have hu := ck.hu
  refine IxR.of (IxR.or ix_seq (ix_dict (by omega))) fun x y H Q h => ?_
  obtain ⟨η, S, w1, w2, sr, r1, r2, h⟩ := h
  cases r1 with
  | d r1 => cases r2 with
    | r e => cases r1 <;> exact h.elim
    | d r2 =>
      cases r1 with
      | lst a1 b1 => cases r2 with
        | int k =>
          obtain ⟨z, e, h⟩ := post_map _ _ _ h
          obtain ⟨v, ev, rv⟩ := b1.atI e
          exact .inl (.inl ⟨_, _, k, v, rfl, rfl, a1.sq, ev, qW.same h sr (.d rv)⟩)
        | _ => exact h.elim
      | tup a1 b1 => cases r2 with
        | int k =>
          obtain ⟨z, e, h⟩ := post_map _ _ _ h
          obtain ⟨v, ev, rv⟩ := b1.atI e
          exact .inl (.inr (.inl ⟨_, _, k, v, rfl, rfl, a1.sq, ev, qW.same h sr (.d rv)⟩))
        | _ => exact h.elim
      | str z => cases r2 with
        | int k =>
          change post (if z.length ≤ SZ then (L2.atI z.cps.toList k).map fun c => Out.ok (W.d (.str ⟨#[c]⟩)) S else none) _ at h
          split at h
          · rename_i hz
            obtain ⟨c, e, h⟩ := post_map _ _ _ h
            exact .inl (.inr (.inr ⟨z, k, c, rfl, rfl, szl hz, e, qW.same h sr (.d (.str _))⟩))
          · exact h.elim
        | _ => exact h.elim
      | _ => cases r2 <;> exact h.elim
  | @r i a ea => cases r2 with
    | r e => exact h.elim
    | @d _ k r2 =>
      change post (match S[i]? with
        | some (.lst xs) => match k with
          | .int k => (L2.atI xs k).map fun x => .ok x S
          | _ => none
        | some (.dk kvs) => match keyD k with
          | some k => (look k kvs).map fun x => .ok x S
          | none => none
        | _ => none) _ at h
      split at h
      · rename_i xs es
        obtain ⟨vs, hv, kr⟩ := sr.at ea es
        cases r2 with
        | int k =>
          obtain ⟨z, e, h⟩ := post_map _ _ _ h
          obtain ⟨v, ev, rv⟩ := kr.atI e
          exact .inl (.inl ⟨_, _, k, v, rfl, rfl, .inl (.inl hv), ev, qW.same h sr rv⟩)
        | _ => exact h.elim
      · rename_i kvs es
        obtain ⟨vs, hv, kr⟩ := sr.at ea es
        split at h
        · rename_i k ek
          obtain ⟨z, e, h⟩ := post_map _ _ _ h
          obtain ⟨v, ev, rv⟩ := (kr.look (k := k)).1 z e
          have ex := keyD_rel r2 ek
          subst ex
          refine .inr ⟨a, v, rfl, ?_, qW.same h sr rv⟩
          rw [← ev]
          exact DGet.k hv
        · exact h.elim
      · exact h.elim

/-! ### slices -/
theorem SlR.of {r r' : V → Option Int → Option Int → Hp → VK → Prop} (h : SlR X r) (k : ∀ x lo hi H Q, r' x lo hi H Q → r x lo hi H Q) : SlR X r' := fun pins s σ H x v vl vu lo hi sl Q I rx hs pl pu q => h pins s σ H x v vl vu lo hi sl Q I rx hs pl pu (k x lo hi H Q q)
def rSl (K : PySem.W.Frag) (ca : Nat → Addr) : V → Option Int → Option Int → Hp → VK → Prop := fun x lo hi H Q => ∃ η S w, SR K ca η H S ∧ RW K η H x w ∧ post (slcW w lo hi S) (qW K ca η H Q)
theorem sl_ok : SlR X (rSl X.K ca) := by
  refine SlR.of (SlR.or sl_list (SlR.or sl_tupA sl_str)) fun x lo hi H Q h => ?_
  obtain ⟨η, S, w, sr, r, h⟩ := h
  cases r with
  | r e => exact h.elim
  | d r => cases r with
    | lst a1 b1 => exact .inl ⟨_, _, rfl, a1.sq, fun p hp => qW.lst h sr (b1.cut lo hi) hp⟩
    | tup a1 b1 =>
      refine .inr (.inl ⟨_, _, rfl, a1.sq, fun e => ?_, fun _ p hp => qW.tup h sr (b1.cut lo hi) hp⟩)
      refine qW.same h sr (.d ?_)
      have z : ∀ {α : Type} (ys : List α), HT.sIx ys.length 0 lo = 0 → HT.sIx ys.length ys.length hi = ys.length → MP.cut ys lo hi = ys := fun ys e1 e2 => by
        unfold MP.cut
        rw [e1, e2]
        simp
      rw [b1.length] at e
      rw [z _ e.1 e.2]
      exact .tup a1 b1
    | str z =>
      change post (if z.length ≤ SZ then some (Out.ok (W.d (.str (cutS z lo hi))) S) else none) _ at h
      split at h
      · rename_i hz
        exact .inr (.inr ⟨z, rfl, szl hz, qW.same h sr (.d (.str _))⟩)
      · exact h.elim
    | _ => exact h.elim
end
end MP

/-! Built-in calls, methods, stores. -/
namespace MP
open PySem L2 PySem.Spec PyProof.Rows
section
variable {X : Cx} {ca : Nat → Addr}
theorem CallR.of {f : Value} {r r' : List V → Hp → VK → Prop} (h : CallR X f r) (k : ∀ xs H Q, r' xs H Q → r xs H Q) : CallR X f r' := fun pins s σ H xs us Q I r q => h pins s σ H xs us Q I r (k xs H Q q)
def qD (K : PySem.W.Frag) (ca : Nat → Addr) (η : Zs) (H : Hp) (Q : VK) (S : Sto) (y : D) : Prop := qW K ca η H Q (.d y) S
/-- the data case of a built-in call -/
theorem b1_data {K : PySem.W.Frag} {η : Zs} {H : Hp} {Q : VK} {S : Sto} {f : B1} {ws : List W} {vs : List V} (r : RWs K η H vs ws)
    (h : post (match dataOf ws with
      | some xs => (b1D f xs).map fun y => .ok (.d y) S
      | none => none) (qW K ca η H Q)) : ∃ xs y, RpAll K η H vs xs ∧ b1D f xs = some y ∧ qW K ca η H Q (.d y) S := by
  split at h
  · rename_i xs e
    obtain ⟨y, e2, h⟩ := post_map (f := fun y => W.d y) _ _ h
    exact ⟨xs, y, r.data e, e2, h⟩
  · exact h.elim
theorem one_of {K : PySem.W.Frag} {η : Zs} {H : Hp} {vs : List V} {x : D} (r : RpAll K η H vs [x]) : ∃ v, vs = [v] ∧ Rp K η H v x := by
  cases r with
  | cons a b => cases b; exact ⟨_, rfl, a⟩
theorem two_of {K : PySem.W.Frag} {η : Zs} {H : Hp} {vs : List V} {x y : D} (r : RpAll K η H vs [x, y]) : ∃ v w, vs = [v, w] ∧ Rp K η H v x ∧ Rp K η H w y := by
  cases r with
  | cons a b => cases b with
    | cons c d => cases d; exact ⟨_, _, rfl, a, c⟩
/-- one datum in, flat -/
theorem b1_len : CallR X (.builtin "len") (rWs X.K ca (b1W .len)) := by
  have hl : CallR X (.builtin "len") (fun xs H Q => ∃ a kvs, xs = [.ref a] ∧ Rd H a (.dK kvs) ∧ Q (.int kvs.length) H) := by
    intro pins s σ H xs us Q I r h
    obtain ⟨a, kvs, rfl, e, q⟩ := h
    obtain ⟨u, rfl, ru⟩ := vals1 r
    cases ru
    exact d_len I e fun t s' I' => ⟨.int _, H, I', ⟨_, rfl⟩, q⟩
  refine CallR.of (CallR.or call_len_seq (CallR.or call_len_str hl)) fun xs H Q h => ?_
  obtain ⟨η, S, ws, sr, r, h⟩ := h
  unfold b1W at h
  split at h
  · rename_i i
    cases r with
    | cons r t =>
      cases t
      cases r with
      | r ea =>
        split at h
        · rename_i ys es
          obtain ⟨vs, hv, kr⟩ := sr.at ea es
          have q := qW.same (Q := Q) h sr (.d (.int _))
          refine .inl ⟨_, vs, rfl, .inl (.inl (.inl hv)), ?_⟩
          rw [kr.length]; exact q
        · rename_i kvs es
          obtain ⟨vs, hv, kr⟩ := sr.at ea es
          have q := qW.same (Q := Q) h sr (.d (.int _))
          refine .inr (.inr ⟨_, vs, rfl, .inl hv, ?_⟩)
          rw [kr.length]; exact q
        · exact h.elim
  · rename_i hh; cases hh
  · obtain ⟨xs, y, r, e, q⟩ := b1_data r h
    unfold b1D at e
    split at e <;> first
      | (obtain ⟨v, rfl, rv⟩ := one_of r
         cases rv with
         | str z => obtain ⟨e1, e2⟩ := ite_some e; subst e2; exact .inr (.inl ⟨_, rfl, szl e1, q.same sr (.d (.int _))⟩))
      | (obtain ⟨v, rfl, rv⟩ := one_of r
         cases e
         cases rv with
         | lst a1 b1 => refine .inl ⟨_, _, rfl, .inl a1.sq, ?_⟩; rw [b1.length]; exact q.same sr (.d (.int _)))
      | (obtain ⟨v, rfl, rv⟩ := one_of r
         cases e
         cases rv with
         | tup a1 b1 => refine .inl ⟨_, _, rfl, .inr a1.sq, ?_⟩; rw [b1.length]; exact q.same sr (.d (.int _)))
      | (cases e; done)
      | (rename_i hh; cases hh; done)
theorem b1_tuple : CallR X (.type "tuple") (rWs X.K ca (b1W .tuple)) := by
  refine CallR.of call_tuple_of fun xs H Q h => ?_
  obtain ⟨η, S, ws, sr, r, h⟩ := h
  unfold b1W at h
  split at h
  · rename_i hh; cases hh
  · rename_i i
    cases r with
    | cons r t =>
      cases t
      cases r with
      | r ea =>
        split at h
        · rename_i ys es
          obtain ⟨vs, hv, kr⟩ := sr.at ea es
          obtain ⟨zs, ez, q⟩ := post_map (f := fun y => W.d (.tuple y)) _ _ h
          exact ⟨_, vs, rfl, .inl ⟨.inl (.inl hv), fun p hp => qW.tup q sr (kr.data ez) hp⟩⟩
        · exact h.elim
  · obtain ⟨xs, y, r, e, q⟩ := b1_data r h
    unfold b1D at e
    split at e <;> first
      | (obtain ⟨v, rfl, rv⟩ := one_of r
         cases e
         cases rv with
         | lst a1 b1 => exact ⟨_, _, rfl, .inl ⟨a1.sq, fun p hp => qW.tup q sr b1 hp⟩⟩)
      | (obtain ⟨v, rfl, rv⟩ := one_of r
         cases e
         cases rv with
         | tup a1 b1 => exact ⟨_, _, rfl, .inr ⟨a1.sq, q.same sr (.d (.tup a1 b1))⟩⟩)
      | (cases e; done)
      | (rename_i hh; cases hh; done)
/-- f is no other than its data case -/
theorem b1_only {f : B1} (h1 : f ≠ .len) (h2 : f ≠ .tuple) (ws : List W) (S : Sto) : b1W f ws S = (match dataOf ws with
      | some xs => (b1D f xs).map fun y => .ok (.d y) S
      | none => none) := by
  unfold b1W
  split
  · exact absurd rfl h1
  · exact absurd rfl h2
  · rfl
theorem b1_of {f : B1} {fv : Value} {r : List V → Hp → VK → Prop} (h1 : f ≠ .len) (h2 : f ≠ .tuple) (hc : CallR X fv r)
    (k : ∀ (vs : List V) (xs : List D) (y : D) (η : Zs) (H : Hp) (Q : VK) (S : Sto), SR X.K ca η H S → RpAll X.K η H vs xs → b1D f xs = some y → qW X.K ca η H Q (.d y) S → r vs H Q) : CallR X fv (rWs X.K ca (b1W f)) := by
  refine CallR.of hc fun xs H Q h => ?_
  obtain ⟨η, S, ws, sr, rr, h⟩ := h
  rw [b1_only h1 h2] at h
  obtain ⟨zs, y, rr, e, q⟩ := b1_data rr h
  exact k _ zs y η H Q S sr rr e q
theorem b1_list : CallR X (.type "list") (rWs X.K ca (b1W .list)) := by
  refine b1_of (by decide) (by decide) call_list_of fun vs xs y η H Q S sr r e q => ?_
  unfold b1D at e
  split at e <;> first
    | (obtain ⟨v, rfl, rv⟩ := one_of r
       cases e
       cases rv with
       | lst a1 b1 => exact ⟨_, _, rfl, .inl a1.sq, fun p hp => qW.lst q sr b1 hp⟩)
    | (obtain ⟨v, rfl, rv⟩ := one_of r
       cases e
       cases rv with
       | tup a1 b1 => exact ⟨_, _, rfl, .inr a1.sq, fun p hp => qW.lst q sr b1 hp⟩)
    | (cases e; done)
      | (rename_i hh; cases hh; done)
theorem b1_int : CallR X (.type "int") (rWs X.K ca (b1W .int)) := by
  refine b1_of (by decide) (by decide) call_int1 fun vs xs y η H Q S sr r e q => ?_
  unfold b1D at e
  split at e <;> first
    | (obtain ⟨v, rfl, rv⟩ := one_of r
       cases e
       cases rv with
       | int i => exact .inl ⟨_, rfl, q.same sr (.d (.int _))⟩)
    | (obtain ⟨v, rfl, rv⟩ := one_of r
       cases e
       cases rv with
       | bl b => exact .inr ⟨_, rfl, q.same sr (.d (.int _))⟩)
    | (cases e; done)
      | (rename_i hh; cases hh; done)
theorem b1_abs : CallR X (.builtin "abs") (rWs X.K ca (b1W .abs)) := by
  refine b1_of (by decide) (by decide) call_abs fun vs xs y η H Q S sr r e q => ?_
  unfold b1D at e
  split at e <;> first
    | (obtain ⟨v, rfl, rv⟩ := one_of r
       cases e
       cases rv with
       | int i => exact ⟨_, rfl, q.same sr (.d (.int _))⟩)
    | (cases e; done)
      | (rename_i hh; cases hh; done)
theorem b1_str : CallR X (.type "str") (rWs X.K ca (b1W .str)) := by
  refine b1_of (by decide) (by decide) (CallR.or call_str_int SkE.call_str_str) fun vs xs y η H Q S sr r e q => ?_
  unfold b1D at e
  split at e <;> first
    | (obtain ⟨v, rfl, rv⟩ := one_of r
       obtain ⟨z, e1, e2⟩ := Option.map_eq_some_iff.mp e
       subst e2
       unfold strD at e1
       split at e1
       · cases e1
         cases rv
         exact .inr ⟨_, rfl, q.same sr (.d (.str _))⟩
       · obtain ⟨c, e1⟩ := ite_some e1
         subst e1
         cases rv
         exact .inl ⟨_, rfl, c, q.same sr (.d (.str _))⟩
       · cases e1)
    | (cases e; done)
      | (rename_i hh; cases hh; done)
theorem b1_ord : CallR X (.builtin "ord") (rWs X.K ca (b1W .ord)) := by
  refine b1_of (by decide) (by decide) call_ord fun vs xs y η H Q S sr r e q => ?_
  unfold b1D at e
  split at e <;> first
    | (obtain ⟨v, rfl, rv⟩ := one_of r
       obtain ⟨z, e1, e2⟩ := Option.map_eq_some_iff.mp e
       subst e2
       have e1 := sign1_eq e1
       subst e1
       cases rv
       exact ⟨_, rfl, rfl, q.same sr (.d (.int _))⟩)
    | (cases e; done)
      | (rename_i hh; cases hh; done)
theorem b1_all (ck : Ck X) : CallR X (.builtin "all") (rWs X.K ca (b1W .all)) := by
  refine b1_of (by decide) (by decide) (cr_all ck.calm) fun vs xs y η H Q S sr r e q => ?_
  unfold b1D at e
  split at e <;> first
    | (obtain ⟨v, rfl, rv⟩ := one_of r
       obtain ⟨z, e1, e2⟩ := Option.map_eq_some_iff.mp e
       subst e2
       cases rv with
       | lst a1 b1 =>
         have z := b1.bools e1
         subst z
         exact ⟨_, _, rfl, a1.sq, q.same sr (.d (.bl _))⟩)
    | (cases e; done)
      | (rename_i hh; cases hh; done)
theorem b1_any (ck : Ck X) : CallR X (.builtin "any") (rWs X.K ca (b1W .any)) := by
  refine b1_of (by decide) (by decide) (cr_any ck.calm) fun vs xs y η H Q S sr r e q => ?_
  unfold b1D at e
  split at e <;> first
    | (obtain ⟨v, rfl, rv⟩ := one_of r
       obtain ⟨z, e1, e2⟩ := Option.map_eq_some_iff.mp e
       subst e2
       cases rv with
       | lst a1 b1 =>
         have z := b1.bools e1
         subst z
         exact ⟨_, _, rfl, a1.sq, q.same sr (.d (.bl _))⟩)
    | (cases e; done)
      | (rename_i hh; cases hh; done)
theorem b1_sum (ck : Ck X) : CallR X (.builtin "sum") (rWs X.K ca (b1W .sum)) := by
  refine b1_of (by decide) (by decide) (cr_sum ck.calm) fun vs xs y η H Q S sr r e q => ?_
  unfold b1D at e
  split at e <;> first
    | (obtain ⟨v, rfl, rv⟩ := one_of r
       obtain ⟨z, e1, e2⟩ := Option.map_eq_some_iff.mp e
       subst e2
       cases rv with
       | lst a1 b1 =>
         have z := b1.ints e1
         subst z
         exact ⟨_, _, rfl, a1.sq, q.same sr (.d (.int _))⟩)
    | (cases e; done)
      | (rename_i hh; cases hh; done)
theorem b1_min (ck : Ck X) : CallR X (.builtin "min") (rWs X.K ca (b1W .min)) := by
  refine b1_of (by decide) (by decide) (call_min2 ck.calm) fun vs xs y η H Q S sr r e q => ?_
  unfold b1D at e
  split at e <;> first
    | (obtain ⟨v, w, rfl, rv, rw'⟩ := two_of r
       cases e
       cases rv
       cases rw'
       exact ⟨_, _, rfl, q.same sr (.d (.int _))⟩)
    | (cases e; done)
      | (rename_i hh; cases hh; done)
theorem b1_max (ck : Ck X) : CallR X (.builtin "max") (rWs X.K ca (b1W .max)) := by
  refine b1_of (by decide) (by decide) (call_max2 ck.calm) fun vs xs y η H Q S sr r e q => ?_
  unfold b1D at e
  split at e <;> first
    | (obtain ⟨v, w, rfl, rv, rw'⟩ := two_of r
       cases e
       cases rv
       cases rw'
       exact ⟨_, _, rfl, q.same sr (.d (.int _))⟩)
    | (cases e; done)
      | (rename_i hh; cases hh; done)
theorem call_reprD (ck : Ck X) : CallR X (.builtin "repr") (fun xs H Q => ∃ v d, xs = [v] ∧ Dp X.K H v d ∧ d.showable = true ∧ d.hasDict = false ∧ d.depth ≤ 60 ∧ d.shown.length ≤ SZ ∧ Q (.str d.shown) H) := by
  have hu := ck.hu
  intro pins s σ H xs us Q I r h
  obtain ⟨v, d, rfl, dp, h1, h2, h3, h4, q⟩ := h
  obtain ⟨u, rfl, ru⟩ := vals1 r
  obtain ⟨as, rd⟩ := Dp.reads I d v u dp ru
  have big : ∀ a, u = .ref a → wpAny (model X.prog X.w) X.A (call (.builtin "repr") [u]) (EP X pins σ Q) X.xe s := fun a e => by
    subst e
    exact repr_of_reads' rd h1 (fun z => by rw [h2] at z; cases z) ck.gd (by omega) (fun b o e => e) (fun h' t tk k => ⟨.str d.shown, H, I.kept (t' := tk) k, ⟨_, rfl⟩, q⟩) (szl h4)
  cases dp with
  | non => cases ru; simp only [PyData.shown] at q; exact PySem.P.repr_of_none ⟨.str _, H, I.tok _, ⟨_, rfl⟩, q⟩
  | bl b => cases ru; simp only [PyData.shown] at q; exact PySem.P.repr_of_bool ⟨.str _, H, I.tok _, ⟨_, rfl⟩, q⟩
  | int i =>
    obtain ⟨t, rfl⟩ := ru
    simp only [PyData.shown] at q
    exact PySem.P.repr_of_int (by simpa [PyData.showable] using h1) ⟨.str _, H, I.tok _, ⟨_, rfl⟩, q⟩
  | str x =>
    obtain ⟨t, rfl⟩ := ru
    simp only [PyData.shown] at q h4
    exact PySem.P.repr_of_str ⟨.str _, H, I.tok _, ⟨_, rfl⟩, q⟩ (szl h4)
  | lst _ _ => exact big _ ru
  | tup _ _ => exact big _ ru
theorem b1_repr (ck : Ck X) : CallR X (.builtin "repr") (rWs X.K ca (b1W .repr)) := by
  refine b1_of (by decide) (by decide) (call_reprD ck) fun vs xs y η H Q S sr r e q => ?_
  unfold b1D at e
  split at e <;> first
    | (obtain ⟨v, rfl, rv⟩ := one_of r
       obtain ⟨z, e1, e2⟩ := Option.map_eq_some_iff.mp e
       subst e2
       unfold reprD at e1
       obtain ⟨⟨c1, c2, c3, c4⟩, e1⟩ := ite_some e1
       subst e1
       exact ⟨_, _, rfl, Rp.dp _ _ rv, c1, c2, c3, c4, q.same sr (.d (.str _))⟩)
    | (cases e; done)
      | (rename_i hh; cases hh; done)
/-- a built-in by its name -/
def biOf (x : Str) : Option (B1 × Value) :=
  if x = "len" then some (.len, .builtin "len") else if x = "tuple" then some (.tuple, .type "tuple") else if x = "list" then some (.list, .type "list") else
  if x = "int" then some (.int, .type "int") else if x = "abs" then some (.abs, .builtin "abs") else if x = "str" then some (.str, .type "str") else
  if x = "repr" then some (.repr, .builtin "repr") else if x = "ord" then some (.ord, .builtin "ord") else if x = "all" then some (.all, .builtin "all") else
  if x = "any" then some (.any, .builtin "any") else if x = "sum" then some (.sum, .builtin "sum") else if x = "min" then some (.min, .builtin "min") else
  if x = "max" then some (.max, .builtin "max") else none
theorem tyX_of {K : PySem.W.Frag} {η : Zs} {H : Hp} {v : V} {d : D} (r : Rp K η H v d) : TyX K H v (.type (tyName d)) := by
  cases r with
  | non => exact .base .non
  | bl b => exact .base (.bl b)
  | int i => exact .base (.int i)
  | str x => exact .base (.str x)
  | lst a b =>
    rcases a with ⟨q | ⟨o, q⟩, _⟩ | q
    · exact .base (.lst q)
    · exact .base (.frz q)
    · rcases q with (q | ⟨_, q⟩) | ⟨o, its, n, hk, hc, _⟩
      · cases q
      · cases q
      · exact .kList hk hc
  | tup a b =>
    rcases a with ⟨q, _⟩ | q
    · exact .base (.tup q)
    · rcases q with (q | ⟨_, q⟩) | ⟨o, its, n, hk, hc, _⟩
      · cases q
      · cases q
      · exact .kTuple hk hc
def rIsD (K : PySem.W.Frag) (ca : Nat → Addr) (T : String) : List V → Hp → VK → Prop := fun xs H Q => ∃ x, xs = [x, .ty T] ∧ ∃ η S w, SR K ca η H S ∧ RW K η H x w ∧ post (b1W (.isI T) [w] S) (qW K ca η H Q)
theorem isi_ok {T : String} : CallR X (.builtin "isinstance") (rIsD X.K ca T) := by
  refine CallR.of call_isi fun xs H Q h => ?_
  obtain ⟨x, rfl, η, S, w, sr, r, h⟩ := h
  rw [b1_only (by intro z; cases z) (by intro z; cases z)] at h
  cases r with
  | r e => exact h.elim
  | @d _ dd rv =>
    have h : post (((isI T dd).map PyData.bool).map fun y => Out.ok (W.d y) S) (qW X.K ca η H Q) := h
    obtain ⟨y, e, q⟩ := post_map _ _ _ h
    obtain ⟨b, e1, e2⟩ := Option.map_eq_some_iff.mp e
    subst e2
    exact ⟨x, .ty T, _, .type T, b, rfl, .ty T, tyX_of rv, kit_ty e1, qW.same q sr (.d (.bl _))⟩
end
end MP

/-! Methods, stores by subscripts, what is walked. -/
namespace MP
open PySem L2 PySem.Spec PyProof.Rows
section
variable {X : Cx} {ca : Nat → Addr}
/-! ### append, setdefault -/
def rMe (K : PySem.W.Frag) (ca : Nat → Addr) (m : Me) : V → List V → Hp → VK → Prop := fun x xs H Q => ∃ η S w ws, SR K ca η H S ∧ RW K η H x w ∧ RWs K η H xs ws ∧ post (meW m w ws S) (qW K ca η H Q)
theorem MtR.of {id : String} {r r' : V → List V → Hp → VK → Prop} (h : MtM X id r) (k : ∀ x xs H Q, r' x xs H Q → r x xs H Q) : MtR X id r' := fun pins s σ H x xs v us Q I rx rs q => h pins s σ H x xs v us Q I rx rs (k x xs H Q q)
theorem me_append : MtR X "list.append" (rMe X.K ca .append) := by
  refine MtR.of mt_append fun x xs H Q h => ?_
  obtain ⟨η, S, w, ws, sr, r, rs, h⟩ := h
  cases r with
  | d _ => exact h.elim
  | @r i a ea => cases rs with
    | nil => exact h.elim
    | @cons v1 _ _ _ r1 t => cases t with
      | cons _ _ => exact h.elim
      | nil =>
        change post (match S[i]? with
          | some (.lst xs) => if xs.length < SZ then some (.ok (W.d .none) (S.set i (.lst (xs ++ [_])))) else none
          | _ => none) _ at h
        split at h
        · rename_i ys es
          obtain ⟨vs, hv, kr⟩ := sr.at ea es
          split at h
          · rename_i hz
            refine ⟨_, vs, _, rfl, rfl, hv, szl' (by rw [kr.length]; exact hz), ?_⟩
            have g := grow_set (o := .lst (vs ++ [v1])) sr ea
            exact h _ _ η g (sr.set ea ⟨_, upd_same, (kr.grow g).append (.cons (r1.grow g) .nil)⟩) (.d .non)
          · exact h.elim
        · exact h.elim

/-! ### o[i] = v -/
def qU (K : PySem.W.Frag) (ca : Nat → Addr) (η : Zs) (H : Hp) (Q : Hp → Prop) : Unit → Sto → Prop := fun _ S' => ∀ H' η', Grow η H η' H' → SR K ca η' H' S' → Q H'
def rSetW (K : PySem.W.Frag) (ca : Nat → Addr) : V → V → V → Hp → (Hp → Prop) → Prop := fun o i v H Q => ∃ η S wo wi wv, SR K ca η H S ∧ RW K η H o wo ∧ RW K η H i wi ∧ RW K η H v wv ∧ post (setW wo wi wv S) (qU K ca η H Q)
theorem set_ok (ck : Ck X) : PSet X (rSetW X.K ca) := by
  have hu := ck.hu
  intro pins s σ H o i v ov iv u Q I ro ri rv h
  obtain ⟨η, S, wo, wi, wv, sr, r1, r2, r3, h⟩ := h
  cases r1 with
  | d _ => exact h.elim
  | @r n a ea => cases r2 with
    | r _ => exact h.elim
    | @d _ k r2 =>
      change post (match S[n]? with
        | some (.lst xs) => match k with
          | .int k => match ixN xs.length k with
            | some j => some (.ok () (S.set n (.lst (xs.set j wv))))
            | none => none
          | _ => none
        | some (.dk kvs) => match keyD k with
          | some k => if kvs.length < SZ then some (.ok () (S.set n (.dk (put kvs k wv)))) else none
          | none => none
        | _ => none) _ at h
      split at h
      · rename_i xs es
        obtain ⟨vs, hv, kr⟩ := sr.at ea es
        cases r2 with
        | int k =>
          have h : post (match ixN xs.length k with
            | some j => some (Out.ok () (List.set S n (O.lst (xs.set j wv))))
            | none => none) (qU X.K ca η H Q) := h
          split at h
          · rename_i j ej
            refine set_list pins s σ H _ _ v ov iv u Q I ro ri rv ⟨a, vs, _, j, rfl, rfl, hv, by rw [kr.length]; exact ej, ?_⟩
            have g := grow_set (o := .lst (vs.set j v)) sr ea
            exact h _ η g (sr.set ea ⟨_, upd_same, RWs.set (r3.grow g) j (kr.grow g)⟩)
          · exact h.elim
        | _ => exact h.elim
      · rename_i kvs es
        obtain ⟨vs, hv, kr⟩ := sr.at ea es
        split at h
        · rename_i k' ek
          split at h
          · rename_i hz
            have ex := keyD_rel r2 ek
            subst ex
            cases ro
            have g := grow_set (o := .dK (putK vs k' v)) sr ea
            refine d_setItem (by omega) I (DPut.k hv (szl' (by rw [kr.length]; exact hz))) ri rv fun s4 I4 => ⟨_, I4, h _ η g (sr.set ea ⟨_, upd_same, KR.put (r3.grow g) (kr.grow g)⟩)⟩
          · exact h.elim
        · exact h.elim
      · exact h.elim

/-! ### what is walked -/
/-- J yields these data, one a turn, whatever has grown meanwhile -/
def Yields (K : PySem.W.Frag) (ca : Nat → Addr) (η : Zs) (H : Hp) (J : It) (ds : List D) : Prop :=
  ∀ η2 H2 S2, Grow η H η2 H2 → SR K ca η2 H2 S2 → ∀ i, (ds.length ≤ i → J.stop i H2) ∧ (i < ds.length → J.go i H2 ∧ ∀ x H3, J.yld i H2 x H3 → ∃ d, ds[i]? = some d ∧ Grow η2 H2 η2 H3 ∧ SR K ca η2 H3 S2 ∧ Rp K η2 H3 x d)
section
variable {K : PySem.W.Frag} {η : Zs} {H : Hp}
theorem yl_list {a : Addr} {vs : List V} {ds : List D} (h : LstAt K η H a vs) (r : RpAll K η H vs ds) : Yields K ca η H (Itl K a) ds := by
  intro η2 H2 S2 g sr i
  have h2 := h.grow g
  have r2 := RpAll.grow g _ _ r
  refine ⟨fun hi => ⟨vs, h2.sq, by rw [r.length]; exact hi⟩, fun hi => ?_⟩
  obtain ⟨v, ev, rv⟩ := r2.get (List.getElem?_eq_getElem hi)
  refine ⟨⟨vs, v, h2.sq, ev⟩, fun x H3 y => ?_⟩
  obtain ⟨e1, e2⟩ := y
  subst e1
  have ex : x = v := Option.some.inj ((e2 vs h2.sq).symm.trans ev)
  subst ex
  exact ⟨_, List.getElem?_eq_getElem hi, Grow.refl _ _, sr, rv⟩
theorem yl_tup {a : Addr} {vs : List V} {ds : List D} (h : TupAt K η H a vs) (r : RpAll K η H vs ds) : Yields K ca η H (Itt K a) ds := by
  intro η2 H2 S2 g sr i
  have h2 := h.grow g
  have r2 := RpAll.grow g _ _ r
  refine ⟨fun hi => ⟨vs, h2.sq, by rw [r.length]; exact hi⟩, fun hi => ?_⟩
  obtain ⟨v, ev, rv⟩ := r2.get (List.getElem?_eq_getElem hi)
  refine ⟨⟨vs, v, h2.sq, ev⟩, fun x H3 y => ?_⟩
  obtain ⟨e1, e2⟩ := y
  subst e1
  have ex : x = v := Option.some.inj ((e2 vs h2.sq).symm.trans ev)
  subst ex
  exact ⟨_, List.getElem?_eq_getElem hi, Grow.refl _ _, sr, rv⟩
theorem yl_str {z : Str} : Yields K ca η H (Its z) (z.cps.toList.map fun c => .str ⟨#[c]⟩) := by
  intro η2 H2 S2 g sr i
  have hl : (z.cps.toList.map fun c => (PyData.str ⟨#[c]⟩ : D)).length = z.cps.size := by simp
  refine ⟨fun hi => by rw [hl] at hi; exact hi, fun hi => ?_⟩
  rw [hl] at hi
  refine ⟨hi, fun x H3 y => ?_⟩
  obtain ⟨e1, c, e2, e3⟩ := y
  subst e1; subst e3
  refine ⟨.str ⟨#[c]⟩, ?_, Grow.refl _ _, sr, .str _⟩
  rw [List.getElem?_map, Array.getElem?_toList, e2]
  rfl
theorem yl_rng {lo : Int} {n : Nat} : Yields K ca η H (Itr lo n) ((List.range n).map fun (i : Nat) => .int (lo + (i : Int))) := by
  intro η2 H2 S2 g sr i
  have hl : ((List.range n).map fun (i : Nat) => (PyData.int (lo + (i : Int)) : D)).length = n := by simp
  rw [hl]
  refine ⟨fun hi => hi, fun hi => ⟨hi, fun x H3 y => ?_⟩⟩
  obtain ⟨e1, e2⟩ := y
  subst e1; subst e2
  refine ⟨.int (lo + (i : Int)), ?_, Grow.refl _ _, sr, .int _⟩
  rw [List.getElem?_map, List.getElem?_range hi]
  rfl
theorem enumD_length : ∀ (ds : List D) (n : Nat), (enumD n ds).length = ds.length
  | [], _ => rfl
  | _ :: ds, n => by unfold enumD; rw [List.length_cons, List.length_cons, enumD_length ds]
theorem enumD_get : ∀ (ds : List D) (n i : Nat) (d : D), ds[i]? = some d → (enumD n ds)[i]? = some (.tuple [.int ((n + i : Nat) : Int), d])
  | [], _, _, _, e => by simp at e
  | x :: ds, n, 0, d, e => by
    simp at e; subst e
    unfold enumD
    simp
  | x :: ds, n, i + 1, d, e => by
    unfold enumD
    have q := enumD_get ds (n + 1) i d (by simpa using e)
    rw [List.getElem?_cons_succ, q]
    have e2 : n + 1 + i = n + (i + 1) := by omega
    rw [e2]
theorem pair_new {η2 : Zs} {H2 : Hp} {S2 : Sto} (sr : SR K ca η2 H2 S2) {T : Addr} {v w : V} {d e : D} (hT : H2 T = none) (r1 : Rp K η2 H2 v d) (r2 : Rp K η2 H2 w e) :
    Grow η2 H2 η2 (upd H2 T (.tup [v, w])) ∧ SR K ca η2 (upd H2 T (.tup [v, w])) S2 ∧ Rp K η2 (upd H2 T (.tup [v, w])) (.ref T) (.tuple [d, e]) := by
  have g := grow_new (o := .tup [v, w]) sr hT
  exact ⟨g, sr.new hT, .tup (.inl ⟨upd_same, sr.fresh hT⟩) (.cons (Rp.grow g _ _ r1) (.cons (Rp.grow g _ _ r2) .nil))⟩
theorem yl_enum {a : Addr} {vs : List V} {ds : List D} (h : LstAt K η H a vs) (r : RpAll K η H vs ds) : Yields K ca η H (Ite K a) (enumD 0 ds) := by
  intro η2 H2 S2 g sr i
  have h2 := h.grow g
  have r2 := RpAll.grow g _ _ r
  rw [enumD_length]
  refine ⟨fun hi => ⟨vs, h2.sq, by rw [r.length]; exact hi⟩, fun hi => ?_⟩
  obtain ⟨v, ev, rv⟩ := r2.get (List.getElem?_eq_getElem hi)
  refine ⟨⟨vs, v, h2.sq, ev⟩, fun x H3 y => ?_⟩
  obtain ⟨T, x', e0, hT, e1, e2⟩ := y
  subst e0; subst e1
  have ex : x' = v := Option.some.inj ((e2 vs h2.sq).symm.trans ev)
  subst ex
  obtain ⟨p1, p2, p3⟩ := pair_new sr hT (Rp.int (i : Nat)) rv
  refine ⟨_, enumD_get ds 0 i _ (List.getElem?_eq_getElem hi), p1, p2, ?_⟩
  rw [Nat.zero_add]
  exact p3
/-- the tuple at a, each item in a new pair -/
def IteT (K : PySem.W.Frag) (a : Addr) : It :=
  ⟨fun i H => ∃ (xs : List V) (x : V), SqT K H a xs ∧ xs[i]? = some x, fun i H v H' => ∃ T x, v = .ref T ∧ H T = none ∧ H' = upd H T (.tup [.int (i : Nat), x]) ∧ ∀ xs, SqT K H a xs → xs[i]? = some x, fun i H => ∃ xs : List V, SqT K H a xs ∧ xs.length ≤ i⟩
theorem yl_enumT {a : Addr} {vs : List V} {ds : List D} (h : TupAt K η H a vs) (r : RpAll K η H vs ds) : Yields K ca η H (IteT K a) (enumD 0 ds) := by
  intro η2 H2 S2 g sr i
  have h2 := h.grow g
  have r2 := RpAll.grow g _ _ r
  rw [enumD_length]
  refine ⟨fun hi => ⟨vs, h2.sq, by rw [r.length]; exact hi⟩, fun hi => ?_⟩
  obtain ⟨v, ev, rv⟩ := r2.get (List.getElem?_eq_getElem hi)
  refine ⟨⟨vs, v, h2.sq, ev⟩, fun x H3 y => ?_⟩
  obtain ⟨T, x', e0, hT, e1, e2⟩ := y
  subst e0; subst e1
  have ex : x' = v := Option.some.inj ((e2 vs h2.sq).symm.trans ev)
  subst ex
  obtain ⟨p1, p2, p3⟩ := pair_new sr hT (Rp.int (i : Nat)) rv
  refine ⟨_, enumD_get ds 0 i _ (List.getElem?_eq_getElem hi), p1, p2, ?_⟩
  rw [Nat.zero_add]
  exact p3
theorem zipD_length : ∀ (ds es : List D), (zipD ds es).length = min ds.length es.length
  | [], _ => by simp [zipD]
  | _ :: _, [] => by simp [zipD]
  | _ :: ds, _ :: es => by
    unfold zipD
    rw [List.length_cons, List.length_cons, List.length_cons, zipD_length ds es]; omega
theorem zipD_get : ∀ (ds es : List D) (i : Nat) (d e : D), ds[i]? = some d → es[i]? = some e → (zipD ds es)[i]? = some (.tuple [d, e])
  | [], _, _, _, _, h, _ => by simp at h
  | _ :: _, [], _, _, _, _, h => by simp at h
  | x :: ds, y :: es, 0, d, e, h1, h2 => by
    simp at h1 h2; subst h1; subst h2
    unfold zipD; simp
  | x :: ds, y :: es, i + 1, d, e, h1, h2 => by
    unfold zipD
    rw [List.getElem?_cons_succ]
    exact zipD_get ds es i d e (by simpa using h1) (by simpa using h2)
theorem yl_zip {a b : Addr} {vs ws : List V} {ds es : List D} (h : LstAt K η H a vs) (h' : LstAt K η H b ws) (r : RpAll K η H vs ds) (r' : RpAll K η H ws es) : Yields K ca η H (Itz K a b) (zipD ds es) := by
  intro η2 H2 S2 g sr i
  have h2 := h.grow g
  have h2' := h'.grow g
  have r2 := RpAll.grow g _ _ r
  have r2' := RpAll.grow g _ _ r'
  rw [zipD_length]
  refine ⟨fun hi => ⟨vs, ws, h2.sq, h2'.sq, by rw [r.length, r'.length]; omega⟩, fun hi => ?_⟩
  have hi1 : i < ds.length := by omega
  have hi2 : i < es.length := by omega
  obtain ⟨v, ev, rv⟩ := r2.get (List.getElem?_eq_getElem hi1)
  obtain ⟨w, ew, rw'⟩ := r2'.get (List.getElem?_eq_getElem hi2)
  refine ⟨⟨vs, ws, v, w, h2.sq, h2'.sq, ev, ew⟩, fun x H3 y => ?_⟩
  obtain ⟨T, x', y', e0, hT, e1, e2, e3⟩ := y
  subst e0; subst e1
  have ex : x' = v := Option.some.inj ((e2 vs h2.sq).symm.trans ev)
  have ey : y' = w := Option.some.inj ((e3 ws h2'.sq).symm.trans ew)
  subst ex; subst ey
  obtain ⟨p1, p2, p3⟩ := pair_new sr hT rv rw'
  exact ⟨_, zipD_get ds es i _ _ (List.getElem?_eq_getElem hi1) (List.getElem?_eq_getElem hi2), p1, p2, p3⟩
theorem yl_zipT {a b : Addr} {vs ws : List V} {ds es : List D} (h : TupAt K η H a vs) (h' : TupAt K η H b ws) (r : RpAll K η H vs ds) (r' : RpAll K η H ws es) : Yields K ca η H (RZ.ItzT K a b) (zipD ds es) := by
  intro η2 H2 S2 g sr i
  have h2 := h.grow g
  have h2' := h'.grow g
  have r2 := RpAll.grow g _ _ r
  have r2' := RpAll.grow g _ _ r'
  rw [zipD_length]
  refine ⟨fun hi => ⟨vs, ws, h2.sq, h2'.sq, by rw [r.length, r'.length]; omega⟩, fun hi => ?_⟩
  have hi1 : i < ds.length := by omega
  have hi2 : i < es.length := by omega
  obtain ⟨v, ev, rv⟩ := r2.get (List.getElem?_eq_getElem hi1)
  obtain ⟨w, ew, rw'⟩ := r2'.get (List.getElem?_eq_getElem hi2)
  refine ⟨⟨vs, ws, v, w, h2.sq, h2'.sq, ev, ew⟩, fun x H3 y => ?_⟩
  obtain ⟨T, x', y', e0, hT, e1, e2, e3⟩ := y
  subst e0; subst e1
  have ex : x' = v := Option.some.inj ((e2 vs h2.sq).symm.trans ev)
  have ey : y' = w := Option.some.inj ((e3 ws h2'.sq).symm.trans ew)
  subst ex; subst ey
  obtain ⟨p1, p2, p3⟩ := pair_new sr hT rv rw'
  exact ⟨_, zipD_get ds es i _ _ (List.getElem?_eq_getElem hi1) (List.getElem?_eq_getElem hi2), p1, p2, p3⟩
end

/-! ### enumerate(tuple) -/
open AutoSeq1 (wpAny_loadPart') in
theorem meets_enum1 {v : Value} {o : Obj} {G : Heap → Prop} (B : Begins v o G) :
    Meets (Builtin.«enumerate.__new__» ⟨[.type "enumerate", v], []⟩) (fun _ R s => G s.heap ∧
      R (.ok (.ret (.ref (s.heap.push o).objs.size))) { s with heap := (s.heap.push o).push ⟨.type "enumerate", none, .fields #[.none, .bool false, .ref s.heap.objs.size, rawInt 0, .none, .none], #[]⟩ }) :=
  .of_wp fun prog w A R s h => by
    obtain ⟨hp, g, d, tk, os⟩ := s
    obtain ⟨h1, h⟩ := h
    have z0 := sub_enumerate
    have z1 : ∀ {A2 : Around} {E : Value → Shared → Prop} {Q : Value → Shared → Prop}, Q (.ref hp.objs.size) ⟨hp.push o, g, d, tk, os⟩ → wpAny (model prog w) A2 (pyIter v) Q E ⟨hp, g, d, tk, os⟩ :=
      fun q => B.iter prog w _ _ ⟨hp, g, d, tk, os⟩ _ h1 q
    wp_walk using z1
    refine wpAny_stack_any fun st => wpAny_pure ?_
    split
    · rename_i c _ _ _ _ _
      cases (c == Value.type "enumerate") <;> (wp_walk using z1; exact ⟨_, rfl, h⟩)
    · wp_walk using z1
      exact ⟨_, rfl, h⟩
theorem enum1 {prog : Program} {w : World} {A : Around} {E : Value → Shared → Prop} {s : Shared} {v : Value} {o : Obj} {G : Heap → Prop} {Q : Value → Shared → Prop} (B : Begins v o G) (h1 : G s.heap)
    (h : ∀ h', IsEnum h' (s.heap.objs.size + 1) s.heap.objs.size 0 .none → h'.get? s.heap.objs.size = some o → (∀ b u, s.heap.get? b = some u → h'.get? b = some u) → Q (.ref (s.heap.objs.size + 1)) { s with heap := h' }) :
    wpAny (model prog w) A (call (.type "enumerate") [v]) Q E s := by
  refine callType_new F.called_enumerate (by decide) (F.typeCall_enumerate_1 _) (F.newCall_enumerate_1 _) (fun obj => F.args_object_init_2 obj _) F.entry_enumerate_new (meets_enum1 B) ⟨h1, ?_⟩
  have hz : (s.heap.push o).objs.size = s.heap.objs.size + 1 := Heap.size_push ..
  have he : IsEnum ((s.heap.push o).push ⟨.type "enumerate", none, .fields #[.none, .bool false, .ref s.heap.objs.size, rawInt 0, .none, .none], #[]⟩) (s.heap.objs.size + 1) s.heap.objs.size 0 .none := by
    rw [← hz]
    exact Heap.get?_push_size (s.heap.push o) rfl
  show _ ∧ _
  rw [hz]
  exact ⟨⟨_, he, rfl⟩, h _ he (Heap.get?_push_of_some _ (Heap.get?_push_size _ B.free)) fun b u e => Heap.get?_push_of_some _ (Heap.get?_push_of_some _ e)⟩
theorem turn_enumT {P : Program} {w : World} {K : PySem.W.Frag} {elts : List Expr} {kk : Nat} {tpos : Pos} (a e it : Addr) :
    Turn P w K (.Tuple elts kk tpos) (IteT K a) [e, it] e (fun i h => (∃ old, IsEnum h e it ((i : Nat) : Int) old) ∧ h.IsTupleIter it a i ∧ e ≠ it) where
  mem := by simp
  obj := fun i h st b hb => by
    obtain ⟨⟨old, he⟩, ⟨o, ho, hc, hd⟩, _⟩ := st
    rcases List.mem_cons.mp hb with z | hb
    · subst z; exact ⟨_, he, fun v q => nomatch q⟩
    · rw [List.mem_singleton.mp hb]; exact ⟨o, ho, fun v q => by rw [hd] at q; cases q⟩
  keep := fun i h h' st k => by
    obtain ⟨⟨old, he⟩, hi, hne⟩ := st
    exact ⟨⟨old, k e (by simp) _ he⟩, hi.at fun o q => k it (by simp) o q, hne⟩
  item := by
    intro X hP hw hK hc i pins s σ H E I hf st hg
    subst hP; subst hw; subst hK
    obtain ⟨⟨old, he⟩, hit, hne⟩ := st
    obtain ⟨xs, x, hq, hx⟩ := hg
    obtain ⟨its, rv, p, hz⟩ := I.tuple hq
    obtain ⟨u, hu, ru⟩ := rv.get hx
    have hel : e < s.heap.objs.size := Heap.lt_size he
    have hil : it < s.heap.objs.size := by obtain ⟨_, q, _⟩ := hit; exact Heap.lt_size q
    have p : s.heap.IsTuple a its.toArray := p
    have hait : a ≠ it := by
      intro z
      subst z
      obtain ⟨o1, q1, c1, _⟩ := p
      obtain ⟨o2, q2, c2, _⟩ := hit
      rw [q1] at q2; cases q2
      rw [c1] at c2
      exact absurd c2 (by decide +kernel)
    have hae : e ≠ a := by
      intro z
      subst z
      obtain ⟨o1, q1, c1, _⟩ := p
      have he : s.heap.get? e = some ⟨.type "enumerate", none, _, #[]⟩ := he
      rw [q1] at he; cases he
      exact absurd c1 (by show Value.type "enumerate" ≠ .type "tuple"; decide +kernel)
    refine wpAny_pyNext_enum_itemD (Draws.tuple (A := X.A.in1) (I.ok.hd hc) it a hait its.toArray) he ⟨hit, p⟩ (by obtain ⟨hl, _⟩ := List.getElem?_eq_some_iff.mp hu; simpa using hl) hne (by simp [hne, hae]) fun x0 h' tk hx0 ho hit' hT hsz hk => ?_
    have ex0 : x0 = u := by
      have q : its[i]? = some x0 := by simpa using hx0
      exact Option.some.inj (q.symm.trans hu)
    subst ex0
    refine ⟨_, rfl, wpAny_letOwnedTupleGo_enum (s := { s with heap := h', toks := tk + 1 }) ho fun h2 he' sb => ?_⟩
    have hT2 : h2.get? s.heap.objs.size = some { cls := .type "tuple", data := .seq #[.int i tk, x0] } := (sb.2 _ (Nat.ne_of_gt hel)).trans hT
    have new : ObjOk X.prog X.w (upd H s.heap.objs.size (.tup [.int (i : Nat), x])) h2 s.heap.objs.size (.tup [.int (i : Nat), x]) :=
      ⟨by show 2 ≤ sizeLine; decide, [.int i tk, x0], .cons ⟨_, rfl⟩ (.cons ru .nil), ⟨_, hT2, rfl, _, rfl⟩⟩
    have I1 : Inv X pins σ (upd H s.heap.objs.size (.tup [.int (i : Nat), x])) { s with heap := h2, toks := tk + 1 } :=
      I.turnedNew (ch := [e, it]) (fun b ob hb q => (sb.2 b (fun z => hb (by simp [z]))).trans (hk b ob (fun z => hb (by simp [z])) (fun z => hb (by simp [z])) q)) hf (Nat.le_refl _) new
    refine ⟨.ref s.heap.objs.size, _, I1, rfl, ⟨_, x, rfl, I.hok.fresh (Nat.le_refl _), rfl, fun ys hy => by rw [I.tuple_inj hy hq]; exact hx⟩, ⟨⟨x0, ?_⟩, hit'.1.at fun o q => (sb.2 it (Ne.symm hne)).trans q, hne⟩, fun b hb => ?_⟩
    · rw [show ((i + 1 : Nat) : Int) = (i : Int) + 1 by omega]; exact he'
    · have hb' : b < s.heap.objs.size := by
        rcases List.mem_cons.mp hb with z | hb
        · rw [z]; exact hel
        · rw [List.mem_singleton.mp hb]; exact hil
      rw [upd_ne (Nat.ne_of_lt hb')]
      exact (hf b hb).1
  done := by
    intro X hP hw hK hc i pins s σ H E I hf st hg
    subst hP; subst hw; subst hK
    obtain ⟨⟨old, he⟩, hit, hne⟩ := st
    obtain ⟨xs, hq, hx⟩ := hg
    obtain ⟨its, rv, p, hz⟩ := I.tuple hq
    obtain ⟨f0, f1, f2, f3, f4, f5⟩ := hf it (by simp)
    have hl := rv.length
    have p : s.heap.IsTuple a its.toArray := p
    have hT : s.TypeIs (.ref e) "enumerate" := ⟨_, he, rfl⟩
    unfold pyNext
    refine wpAny_bind (wpAny_attempt (wpAny_callSpecial?_slot (name := Str.ofString "__next__") hT F.slot_enumerate_next
      (wpAny_call_entry F.slot_enumerate_next hT F.entry_enumerate_next ?_ (F.args_enumerate_next_1 _))))
    show wpAny _ _ (field (.ref e) 2 >>= _) _ _ _
    refine wpAny_bind (wpAny_field he rfl (x := .ref it) rfl ?_)
    refine wpAny_bind (wpAny_nextOf_tuple_end (I.ok.hd hc) hit p (by simp; omega) fun h' x' he2 hx2 => ?_)
    obtain ⟨o, ho, hco⟩ := hx2
    refine wpAny_bind (wpAny_isInstance (T := "StopIteration") (b := true) ⟨o, ho, hco⟩ isSubtype_stop ?_)
    exact wpAny_pure ⟨rfl, I.turned (t' := s.toks) (fun b o hb q => he2 b o hb q) f0 f1 f3 f4 f5⟩
  self := fun A i s Q E st h => let ⟨⟨_, he⟩, _⟩ := st; wpAny_pyIter_enum he h
def iEnumT (K : PySem.W.Frag) (ta : TA) : TI := fun σ H R => ta σ H fun vs H1 => ∃ a xs, vs = [.ref a] ∧ SqT K H1 a xs ∧ R (IteT K a) H1
theorem pi_enumT {e : Expr} {ta : TA} {p pos tpos : Pos} {elts : List Expr} {kk : Nat} (hg : Gl X "enumerate") (hm : X.mg "enumerate" = none) (ha : PA X [e] ta) (hs : starEach [e] X.env = [(false, eval e X.env)]) :
    PI X (.Tuple elts kk tpos) (.Call (.Name "enumerate" p) [e] [] pos) (iEnumT X.K ta) := by
  refine ⟨fun pins s σ H R I h => ?_⟩
  refine Call_ (ld_blt I hg hm boot_enumerate (PyProof.Rows.callWith_type1 (thn (ha.run pos pins s σ H _ I h) fun us s1 ⟨vs, H1, I1, r1, q1⟩ => ?_) hs rfl))
  obtain ⟨a, xs, ex, hq, q⟩ := q1
  subst ex
  obtain ⟨u, rfl, ru⟩ := vals1 r1
  cases ru
  obtain ⟨its, rv, p', hz⟩ := I1.tuple hq
  refine enum1 (begins_tuple a its.toArray) p' fun h' he hit hk => wpAny_pyIter_enum he ?_
  have I2 : Inv X pins σ H1 { s1 with heap := h' } := I1.kept (t' := s1.toks) hk
  refine ⟨s1.heap.objs.size + 1, [s1.heap.objs.size + 1, s1.heap.objs.size], _, _, H1, rfl, I2, turn_enumT a (s1.heap.objs.size + 1) s1.heap.objs.size, ⟨⟨.none, he⟩, ⟨_, hit, rfl, rfl⟩, Nat.succ_ne_self _⟩, fun b hb => ?_, q⟩
  have hle : s1.heap.objs.size ≤ b := by
    rcases List.mem_cons.mp hb with z | hb
    · rw [z]; exact Nat.le_add_right _ _
    · rw [List.mem_singleton.mp hb]; exact Nat.le_refl _
  exact I1.fpOk hle (I1.hok.fresh hle)
end
end MP

/-! Expressions: the evaluator's answer is what the model reckons. -/
namespace MP
open PySem L2 PySem.Spec PyProof.Rows
section
variable (K : PySem.W.Frag) (ca : Nat → Addr)
def tE (m : Sl → M W) : TE := fun σ H Q => ∃ ρ S η, ER K η H σ ρ ∧ SR K ca η H S ∧ post (m ρ S) (qW K ca η H Q)
def tT (m : Sl → M Bool) : TT := fun σ H Q => ∃ ρ S η, ER K η H σ ρ ∧ SR K ca η H S ∧ post (m ρ S) (qB K ca η H Q)
def qA (η : Zs) (H : Hp) (Q : List V → Hp → Prop) : List W → Sto → Prop := fun ws S' => ∀ vs H' η', Grow η H η' H' → SR K ca η' H' S' → RWs K η' H' vs ws → Q vs H'
def tA (m : Sl → M (List W)) : TA := fun σ H Q => ∃ ρ S η, ER K η H σ ρ ∧ SR K ca η H S ∧ post (m ρ S) (qA K ca η H Q)
end
section
variable {X : Cx} {ca : Nat → Addr}
theorem PE.of {e : Expr} {t t' : TE} (h : PE X e t) (k : ∀ σ H Q, t' σ H Q → t σ H Q) : PE X e t' := ⟨fun pins s σ H Q I q => h.run pins s σ H Q I (k σ H Q q)⟩
theorem PT.of {e : Expr} {t t' : TT} (h : PT X e t) (k : ∀ σ H Q, t' σ H Q → t σ H Q) : PT X e t' := ⟨fun pins s σ H Q I q => h.run pins s σ H Q I (k σ H Q q)⟩
theorem PW.of {e : Expr} {t t' : TT} (h : PW X e t) (k : ∀ σ H Q, t' σ H Q → t σ H Q) : PW X e t' := ⟨fun wh pins s σ H Q I q => h.run wh pins s σ H Q I (k σ H Q q)⟩
theorem PA.of {e : List Expr} {t t' : TA} (h : PA X e t) (k : ∀ σ H Q, t' σ H Q → t σ H Q) : PA X e t' := ⟨fun pos pins s σ H Q I q => h.run pos pins s σ H Q I (k σ H Q q)⟩
theorem PE.or {e : Expr} {t t' : TE} (h : PE X e t) (h' : PE X e t') : PE X e (fun σ H Q => t σ H Q ∨ t' σ H Q) :=
  ⟨fun pins s σ H Q I q => q.elim (h.run pins s σ H Q I) (h'.run pins s σ H Q I)⟩
variable {F : FT}
/-! ### sequences -/
section
variable {K : PySem.W.Frag} {η : Zs} {H : Hp} {σ : Sg} {ρ : Sl} {S : Sto}
/-- from the evaluator's first step to the reading's -/
theorem tE_seq {α : Type} {m : Sl → M W} {f : W → M α} {q : α → Sto → Prop} {R : V → Hp → Prop} (er : ER K η H σ ρ) (sr : SR K ca η H S) (h : post (bnd (m ρ) f S) q)
    (k : ∀ w S1 v H1 η1, Grow η H η1 H1 → ER K η1 H1 σ ρ → SR K ca η1 H1 S1 → RW K η1 H1 v w → post (f w S1) q → R v H1) : tE K ca m σ H R := by
  rw [post_bnd] at h
  exact ⟨ρ, S, η, er, sr, h.imp fun w S1 q1 v H1 η1 g sr1 r => k w S1 v H1 η1 g (er.grow g) sr1 r q1⟩
theorem tA_seq {α : Type} {m : Sl → M (List W)} {f : List W → M α} {q : α → Sto → Prop} {R : List V → Hp → Prop} (er : ER K η H σ ρ) (sr : SR K ca η H S) (h : post (bnd (m ρ) f S) q)
    (k : ∀ w S1 v H1 η1, Grow η H η1 H1 → ER K η1 H1 σ ρ → SR K ca η1 H1 S1 → RWs K η1 H1 v w → post (f w S1) q → R v H1) : tA K ca m σ H R := by
  rw [post_bnd] at h
  exact ⟨ρ, S, η, er, sr, h.imp fun w S1 q1 v H1 η1 g sr1 r => k w S1 v H1 η1 g (er.grow g) sr1 r q1⟩
theorem tT_seq {α : Type} {m : Sl → M Bool} {f : Bool → M α} {q : α → Sto → Prop} {R : Bool → Hp → Prop} (er : ER K η H σ ρ) (sr : SR K ca η H S) (h : post (bnd (m ρ) f S) q)
    (k : ∀ b S1 H1 η1, Grow η H η1 H1 → ER K η1 H1 σ ρ → SR K ca η1 H1 S1 → post (f b S1) q → R b H1) : tT K ca m σ H R := by
  rw [post_bnd] at h
  exact ⟨ρ, S, η, er, sr, h.imp fun b S1 q1 H1 η1 g sr1 => k b S1 H1 η1 g (er.grow g) sr1 q1⟩
theorem qW.mono {η1 : Zs} {H1 : Hp} {Q : VK} {w : W} {S1 : Sto} (g : Grow η H η1 H1) (h : qW K ca η H Q w S1) : qW K ca η1 H1 Q w S1 := fun v H2 η2 g2 => h v H2 η2 (g.trans g2)
theorem qB.mono {η1 : Zs} {H1 : Hp} {Q : Bool → Hp → Prop} {b : Bool} {S1 : Sto} (g : Grow η H η1 H1) (h : qB K ca η H Q b S1) : qB K ca η1 H1 Q b S1 := fun H2 η2 g2 => h H2 η2 (g.trans g2)
theorem qA.mono {η1 : Zs} {H1 : Hp} {Q : List V → Hp → Prop} {b : List W} {S1 : Sto} (g : Grow η H η1 H1) (h : qA K ca η H Q b S1) : qA K ca η1 H1 Q b S1 := fun vs H2 η2 g2 => h vs H2 η2 (g.trans g2)
theorem bnd_assoc {α β γ : Type} (x : M α) (f : α → M β) (g : β → M γ) : bnd (bnd x f) g = bnd x fun a => bnd (f a) g := by
  funext S
  unfold bnd
  cases x S with
  | none => rfl
  | some o => cases o <;> rfl
theorem bnd_ret {α β : Type} (a : α) (f : α → M β) : bnd (ret a) f = f a := rfl
end

/-! ### the forms -/
variable {a b c : Expr} {ma mb mc : Sl → M W} {pos : Pos}
theorem e_k {d : D} {v : V} (h : PE X a (tC v)) (r : ∀ η H, Rp X.K η H v d) : PE X a (tE X.K ca fun _ => ret (.d d)) := by
  refine PE.of h fun σ H Q q => ?_
  obtain ⟨ρ, S, η, er, sr, q⟩ := q
  exact q v H η (Grow.refl _ _) sr (.d (r _ _))
theorem e_v {i : Nat} (h : PE X a (tVar i)) : PE X a (tE X.K ca fun ρ => getV ρ i) := by
  refine PE.of h fun σ H Q q => ?_
  obtain ⟨ρ, S, η, er, sr, q⟩ := q
  have q : post (getV ρ i S) (qW X.K ca η H Q) := q
  unfold getV at q
  cases e : ρ[i]? with
  | none => rw [e] at q; exact q.elim
  | some o => cases o with
    | none => rw [e] at q; exact q.elim
    | some w =>
      rw [e] at q
      obtain ⟨v, e1, r⟩ := er.2 i w e
      exact ⟨v, e1, q v H η (Grow.refl _ _) sr r⟩
theorem e_op2 {r : TE → TE → TE} {m : W → W → M W} (h : ∀ ta tb, PE X a ta → PE X b tb → PE X c (tOp (rW2 X.K ca m) ta tb)) (ha : PE X a (tE X.K ca ma)) (hb : PE X b (tE X.K ca mb)) :
    PE X c (tE X.K ca fun ρ => bnd (ma ρ) fun x => bnd (mb ρ) fun y => m x y) := by
  refine PE.of (h _ _ ha hb) fun σ H Q q => ?_
  obtain ⟨ρ, S, η, er, sr, q⟩ := q
  refine tE_seq er sr q fun w S1 v H1 η1 g er1 sr1 r1 q1 => ?_
  refine tE_seq er1 sr1 q1 fun w2 S2 v2 H2 η2 g2 er2 sr2 r2 q2 => ?_
  exact ⟨η2, S2, w, w2, sr2, r1.grow g2, r2, q2.imp fun _ _ z => z.mono (g.trans g2)⟩
theorem e_bin {op : Operator} {o : B2} (ho : opOf op = some o) (ha : PE X a (tE X.K ca ma)) (hb : PE X b (tE X.K ca mb)) : PE X (.BinOp a op b pos) (tE X.K ca fun ρ => bnd (ma ρ) fun x => bnd (mb ρ) fun y => binW o x y) :=
  e_op2 (r := fun t _ => t) (fun _ _ h1 h2 => pe_op (bin_ok ho) h1 h2) ha hb
theorem e_cmp (ck : Ck X) {op : CmpOp} {o : C2} (ho : cmpOf op = some o) (hm : behindInMarks op b = false) (ha : PE X a (tE X.K ca ma)) (hb : PE X b (tE X.K ca mb)) : PE X (.Compare a [op] [b] pos) (tE X.K ca fun ρ => bnd (ma ρ) fun x => bnd (mb ρ) fun y => cmpV o x y) :=
  e_op2 (r := fun t _ => t) (fun _ _ h1 h2 => pe_cmpR (cmp_ok ck ho) h1 h2 hm) ha hb
theorem e_neg (ha : PE X a (tE X.K ca ma)) : PE X (.UnaryOp .USub a pos) (tE X.K ca fun ρ => bnd (ma ρ) fun x => negW x) := by
  refine PE.of (pe_un (neg_ok (ca := ca)) ha) fun σ H Q q => ?_
  obtain ⟨ρ, S, η, er, sr, q⟩ := q
  refine tE_seq er sr q fun w S1 v H1 η1 g er1 sr1 r1 q1 => ?_
  exact ⟨η1, S1, w, sr1, r1, q1.imp fun _ _ z => z.mono g⟩
theorem tCh {K : PySem.W.Frag} {o1 o2 : C2} {σ : Sg} {H : Hp} {Q : VK} (q : tE K ca (fun ρ => bnd (ma ρ) fun x => bnd (mb ρ) fun y => bnd (cmpW o1 x y) fun t => if t = true then bnd (mc ρ) fun z => cmpV o2 y z else ret (.d (.bool false))) σ H Q) :
    tChain (rW2 K ca (cmpV o1)) (rW2 K ca (cmpV o2)) (tE K ca ma) (tE K ca mb) (tE K ca mc) σ H Q := by
  obtain ⟨ρ, S, η, er, sr, q⟩ := q
  refine tE_seq er sr q fun w S1 v H1 η1 g er1 sr1 r1 q1 => ?_
  refine tE_seq er1 sr1 q1 fun w2 S2 v2 H2 η2 g2 er2 sr2 r2 q2 => ?_
  refine ⟨η2, S2, w, w2, sr2, r1.grow g2, r2, ?_⟩
  unfold cmpV
  rw [post_bnd] at q2 ⊢
  refine q2.imp fun t S3 q3 => ?_
  intro v3 H3 η3 g3 sr3 r3
  have ev : v3 = .bl t := by
    cases r3 with
    | d r => cases r; rfl
  subst ev
  refine ⟨t, rfl, ?_⟩
  cases t with
  | false =>
    simp only [Bool.false_eq_true, if_false] at q3 ⊢
    exact q3 _ H3 η3 ((g.trans g2).trans g3) sr3 (.d (.bl _))
  | true =>
    simp only [if_true] at q3 ⊢
    refine tE_seq (er2.grow g3) sr3 q3 fun w4 S4 v4 H4 η4 g4 er4 sr4 r4 q4 => ?_
    exact ⟨η4, S4, w2, w4, sr4, (r2.grow g3).grow g4, r4, q4.imp fun _ _ z => z.mono (((g.trans g2).trans g3).trans g4)⟩
theorem e_chain (ck : Ck X) {op op' : CmpOp} {o1 o2 : C2} (h1 : cmpOf op = some o1) (h2 : cmpOf op' = some o2) (hm : lastMarks [op, op'] [b, c] = false) (ha : PE X a (tE X.K ca ma)) (hb : PE X b (tE X.K ca mb)) (hc : PE X c (tE X.K ca mc)) :
    PE X (.Compare a [op, op'] [b, c] pos) (tE X.K ca fun ρ => bnd (ma ρ) fun x => bnd (mb ρ) fun y => bnd (cmpW o1 x y) fun t => if t = true then bnd (mc ρ) fun z => cmpV o2 y z else ret (.d (.bool false))) :=
  PE.of (pe_chain (cmp_ok ck h1) (cmp_ok ck h2) ha hb hc hm) fun σ H Q q => tCh q
/-- truth, as the readings ask it -/
theorem tru_seq {K : PySem.W.Frag} {η : Zs} {H : Hp} {x : V} {w : W} {S : Sto} {α : Type} {f : Bool → M α} {q : α → Sto → Prop} (sr : SR K ca η H S) (r : RW K η H x w) (h : post (bnd (truW w) f S) q) : ∃ k, TruV K x H k ∧ post (f k S) q := by
  rw [post_bnd] at h
  have z : rTr K ca x H (fun k _ => post (f k S) q) := by
    refine ⟨η, S, w, sr, r, ?_⟩
    have e : ∀ b S', truW w S = some (.ok b S') → S' = S := fun b S' e => by
      unfold truW at e
      split at e
      · obtain ⟨c, _, e2⟩ := Option.map_eq_some_iff.mp e
        cases e2; rfl
      · split at e <;> cases e <;> rfl
    cases hh : truW w S with
    | none => rw [hh] at h; exact h.elim
    | some o => cases o with
      | ok b S' =>
        rw [hh] at h
        have := e b S' hh
        subst this
        exact fun _ _ _ _ => h
      | ex _ _ => rw [hh] at h; exact h.elim
  exact tru_K z
theorem e_not (ha : PE X a (tE X.K ca ma)) : PE X (.UnaryOp .Not a pos) (tE X.K ca fun ρ => bnd (ma ρ) fun x => bnd (truW x) fun t => ret (.d (.bool (!t)))) := by
  refine PE.of (pe_notT ha) fun σ H Q q => ?_
  obtain ⟨ρ, S, η, er, sr, q⟩ := q
  refine tE_seq er sr q fun w S1 v H1 η1 g er1 sr1 r1 q1 => ?_
  obtain ⟨k, e, q2⟩ := tru_seq sr1 r1 q1
  exact ⟨k, e, q2 _ H1 η1 g sr1 (.d (.bl _))⟩
theorem e_and {rest : List Expr} (ha : PE X a (tE X.K ca ma)) (hb : PE X (.BoolOp .And (b :: rest) pos) (tE X.K ca mb)) : PE X (.BoolOp .And (a :: b :: rest) pos) (tE X.K ca fun ρ => bnd (ma ρ) fun x => bnd (truW x) fun t => if t = true then mb ρ else ret x) := by
  refine PE.of (pe_andT ha hb) fun σ H Q q => ?_
  obtain ⟨ρ, S, η, er, sr, q⟩ := q
  refine tE_seq er sr q fun w S1 v H1 η1 g er1 sr1 r1 q1 => ?_
  obtain ⟨k, e, q2⟩ := tru_seq sr1 r1 q1
  refine ⟨k, e, ?_⟩
  cases k with
  | false =>
    simp only [Bool.false_eq_true, if_false] at q2 ⊢
    exact q2 _ H1 η1 g sr1 r1
  | true =>
    simp only [if_true] at q2 ⊢
    exact ⟨ρ, S1, η1, er1, sr1, q2.imp fun _ _ z => z.mono g⟩
theorem e_or {rest : List Expr} (ha : PE X a (tE X.K ca ma)) (hb : PE X (.BoolOp .Or (b :: rest) pos) (tE X.K ca mb)) : PE X (.BoolOp .Or (a :: b :: rest) pos) (tE X.K ca fun ρ => bnd (ma ρ) fun x => bnd (truW x) fun t => if t = true then ret x else mb ρ) := by
  refine PE.of (pe_orT ha hb) fun σ H Q q => ?_
  obtain ⟨ρ, S, η, er, sr, q⟩ := q
  refine tE_seq er sr q fun w S1 v H1 η1 g er1 sr1 r1 q1 => ?_
  obtain ⟨k, e, q2⟩ := tru_seq sr1 r1 q1
  refine ⟨k, e, ?_⟩
  cases k with
  | true =>
    simp only [if_true] at q2 ⊢
    exact q2 _ H1 η1 g sr1 r1
  | false =>
    simp only [Bool.false_eq_true, if_false] at q2 ⊢
    exact ⟨ρ, S1, η1, er1, sr1, q2.imp fun _ _ z => z.mono g⟩
/-! ### tests -/
abbrev tst (m : Sl → M W) : Sl → M Bool := fun ρ => bnd (m ρ) truW
theorem p_val (ha : PE X a (tE X.K ca ma)) (he : ∀ whole, isTrue a X.env whole = (do let v ← whole; standAt a.pos; holding [v] (truthy v))) : PT X a (tT X.K ca (tst ma)) := by
  refine PT.of (pt_truth ha he) fun σ H Q q => ?_
  obtain ⟨ρ, S, η, er, sr, q⟩ := q
  refine tE_seq er sr q fun w S1 v H1 η1 g er1 sr1 r1 q1 => ?_
  have q1' : post (bnd (truW w) ret S1) (qB X.K ca η H Q) := by
    rw [post_bnd]; exact q1
  obtain ⟨k, e, q2⟩ := tru_seq sr1 r1 q1'
  exact ⟨k, e, q2 H1 η1 g sr1⟩
theorem tst_bool {σ : Sg} {H : Hp} {K : PySem.W.Frag} {m : Sl → M W} {t : TE} {Q : Bool → Hp → Prop} (k : ∀ Q', tE K ca m σ H Q' → t σ H Q') (hm : ∀ ρ S w S', m ρ S = some (.ok w S') → ∃ b, w = .d (.bool b)) (q : tT K ca (tst m) σ H Q) : tTest t σ H Q := by
  obtain ⟨ρ, S, η, er, sr, q⟩ := q
  refine k _ ⟨ρ, S, η, er, sr, ?_⟩
  have q' : post (bnd (m ρ) truW S) (qB K ca η H Q) := q
  rw [post_bnd] at q'
  cases hh : m ρ S with
  | none => rw [hh] at q'; exact q'.elim
  | some o => cases o with
    | ex _ _ => rw [hh] at q'; exact q'.elim
    | ok w S' =>
      rw [hh] at q'
      obtain ⟨b, rfl⟩ := hm ρ S w S' hh
      intro v H1 η1 g sr1 r
      have ev : v = .bl b := by
        cases r with
        | d r => cases r; rfl
      subst ev
      exact ⟨b, rfl, q' H1 η1 g sr1⟩
theorem ok_bnd {α β : Type} {x : M α} {f : α → M β} {S S' : Sto} {b : β} (h : bnd x f S = some (.ok b S')) : ∃ a S1, x S = some (.ok a S1) ∧ f a S1 = some (.ok b S') := by
  unfold bnd at h
  split at h
  · cases h
  · exact ⟨_, _, by assumption, h⟩
  · cases h
theorem cmpV_bool {o : C2} {x y : W} {S S' : Sto} {w : W} (h : cmpV o x y S = some (.ok w S')) : ∃ b, w = .d (.bool b) := by
  obtain ⟨b, S1, _, e⟩ := ok_bnd h
  cases e
  exact ⟨b, rfl⟩
theorem p_cmp (ck : Ck X) {op : CmpOp} {o : C2} (ho : cmpOf op = some o) (hm : behindInMarks op b = false) (ha : PE X a (tE X.K ca ma)) (hb : PE X b (tE X.K ca mb)) : PT X (.Compare a [op] [b] pos) (tT X.K ca (tst fun ρ => bnd (ma ρ) fun x => bnd (mb ρ) fun y => cmpV o x y)) := by
  refine PT.of (pt_cmpR (cmp_ok (ca := ca) ck ho) ha hb hm) fun σ H Q q => ?_
  refine tst_bool (fun Q' q => ?_) (fun ρ S w S' e => ?_) q
  · obtain ⟨ρ, S, η, er, sr, q⟩ := q
    refine tE_seq er sr q fun w S1 v H1 η1 g er1 sr1 r1 q1 => ?_
    refine tE_seq er1 sr1 q1 fun w2 S2 v2 H2 η2 g2 er2 sr2 r2 q2 => ?_
    exact ⟨η2, S2, w, w2, sr2, r1.grow g2, r2, q2.imp fun _ _ z => z.mono (g.trans g2)⟩
  · obtain ⟨_, _, _, e⟩ := ok_bnd e
    obtain ⟨_, _, _, e⟩ := ok_bnd e
    exact cmpV_bool e
theorem p_chain (ck : Ck X) {op op' : CmpOp} {o1 o2 : C2} (h1 : cmpOf op = some o1) (h2 : cmpOf op' = some o2) (hm : lastMarks [op, op'] [b, c] = false) (ha : PE X a (tE X.K ca ma)) (hb : PE X b (tE X.K ca mb)) (hc : PE X c (tE X.K ca mc)) :
    PT X (.Compare a [op, op'] [b, c] pos) (tT X.K ca (tst fun ρ => bnd (ma ρ) fun x => bnd (mb ρ) fun y => bnd (cmpW o1 x y) fun t => if t = true then bnd (mc ρ) fun z => cmpV o2 y z else ret (.d (.bool false)))) := by
  refine PT.of (pt_chain (cmp_ok (ca := ca) ck h1) (cmp_ok (ca := ca) ck h2) ha hb hc hm) fun σ H Q q => ?_
  refine tst_bool (fun Q' q => tCh q) (fun ρ S w S' e => ?_) q
  obtain ⟨_, _, _, e⟩ := ok_bnd e
  obtain ⟨_, _, _, e⟩ := ok_bnd e
  obtain ⟨t, _, _, e⟩ := ok_bnd e
  cases t with
  | false => cases e; exact ⟨_, rfl⟩
  | true =>
    obtain ⟨_, _, _, e⟩ := ok_bnd e
    exact cmpV_bool e
theorem tst_bnd (m : Sl → M W) (f : W → M W) : tst (fun ρ => bnd (m ρ) f) = fun ρ => bnd (m ρ) fun x => bnd (f x) truW := by
  funext ρ
  exact bnd_assoc _ _ _
theorem p_not (ha : PT X a (tT X.K ca (tst ma))) : PT X (.UnaryOp .Not a pos) (tT X.K ca (tst fun ρ => bnd (ma ρ) fun x => bnd (truW x) fun t => ret (.d (.bool (!t))))) := by
  refine PT.of (pt_not ha) fun σ H Q q => ?_
  obtain ⟨ρ, S, η, er, sr, q⟩ := q
  have q : post (bnd (tst ma ρ) (fun t => ret (!t)) S) (qB X.K ca η H Q) := by
    have e : tst (fun ρ => bnd (ma ρ) fun x => bnd (truW x) fun t => ret (.d (.bool (!t)))) ρ = bnd (tst ma ρ) (fun t => ret (!t)) := by
      unfold tst
      rw [bnd_assoc, bnd_assoc]
      congr 1
      funext x
      rw [bnd_assoc]
      rfl
    rw [e] at q
    exact q
  refine tT_seq er sr q fun b S1 H1 η1 g er1 sr1 q1 => ?_
  exact q1 H1 η1 g sr1
theorem truW_idem (x : W) (S : Sto) (t : Bool) (S' : Sto) (h : truW x S = some (.ok t S')) : S' = S := by
  unfold truW at h
  split at h
  · obtain ⟨c, _, e2⟩ := Option.map_eq_some_iff.mp h
    cases e2; rfl
  · split at h <;> cases h <;> rfl
theorem tst_and (m1 m2 : Sl → M W) (ρ : Sl) : tst (fun ρ => bnd (m1 ρ) fun x => bnd (truW x) fun t => if t = true then m2 ρ else ret x) ρ = bnd (tst m1 ρ) fun t => if t = true then tst m2 ρ else ret false := by
  unfold tst
  rw [bnd_assoc, bnd_assoc]
  congr 1
  funext x
  rw [bnd_assoc]
  funext S
  unfold bnd
  cases h : truW x S with
  | none => rfl
  | some o => cases o with
    | ex _ _ => rfl
    | ok t S' =>
      have e := truW_idem x S t S' h
      subst e
      cases t with
      | true => rfl
      | false => exact h
theorem tst_or (m1 m2 : Sl → M W) (ρ : Sl) : tst (fun ρ => bnd (m1 ρ) fun x => bnd (truW x) fun t => if t = true then ret x else m2 ρ) ρ = bnd (tst m1 ρ) fun t => if t = true then ret true else tst m2 ρ := by
  unfold tst
  rw [bnd_assoc, bnd_assoc]
  congr 1
  funext x
  rw [bnd_assoc]
  funext S
  unfold bnd
  cases h : truW x S with
  | none => rfl
  | some o => cases o with
    | ex _ _ => rfl
    | ok t S' =>
      have e := truW_idem x S t S' h
      subst e
      cases t with
      | false => rfl
      | true => exact h
theorem p_and {rest : List Expr} (ha : PT X a (tT X.K ca (tst ma))) (hb : PW X (.BoolOp .And (b :: rest) pos) (tT X.K ca (tst mb))) : PW X (.BoolOp .And (a :: b :: rest) pos) (tT X.K ca (tst fun ρ => bnd (ma ρ) fun x => bnd (truW x) fun t => if t = true then mb ρ else ret x)) := by
  refine PW.of (pw_and ha hb) fun σ H Q q => ?_
  obtain ⟨ρ, S, η, er, sr, q⟩ := q
  rw [tst_and] at q
  refine tT_seq er sr q fun b S1 H1 η1 g er1 sr1 q1 => ?_
  cases b with
  | true =>
    simp only [if_true] at q1 ⊢
    exact ⟨ρ, S1, η1, er1, sr1, q1.imp fun _ _ z => z.mono g⟩
  | false =>
    simp only [Bool.false_eq_true, if_false] at q1 ⊢
    exact q1 H1 η1 g sr1
theorem p_or {rest : List Expr} (ha : PT X a (tT X.K ca (tst ma))) (hb : PW X (.BoolOp .Or (b :: rest) pos) (tT X.K ca (tst mb))) : PW X (.BoolOp .Or (a :: b :: rest) pos) (tT X.K ca (tst fun ρ => bnd (ma ρ) fun x => bnd (truW x) fun t => if t = true then ret x else mb ρ)) := by
  refine PW.of (pw_or ha hb) fun σ H Q q => ?_
  obtain ⟨ρ, S, η, er, sr, q⟩ := q
  rw [tst_or] at q
  refine tT_seq er sr q fun b S1 H1 η1 g er1 sr1 q1 => ?_
  cases b with
  | false =>
    simp only [Bool.false_eq_true, if_false] at q1 ⊢
    exact ⟨ρ, S1, η1, er1, sr1, q1.imp fun _ _ z => z.mono g⟩
  | true =>
    simp only [if_true] at q1 ⊢
    exact q1 H1 η1 g sr1
theorem e_ite {t : Expr} {mt : Sl → M W} (ht : PT X t (tT X.K ca (tst mt))) (ha : PE X a (tE X.K ca ma)) (hb : PE X b (tE X.K ca mb)) : PE X (.IfExp t a b pos) (tE X.K ca fun ρ => bnd (mt ρ) fun x => bnd (truW x) fun t => if t = true then ma ρ else mb ρ) := by
  refine PE.of (pe_ifExp ht ha hb) fun σ H Q q => ?_
  obtain ⟨ρ, S, η, er, sr, q⟩ := q
  dsimp only at q
  rw [show (bnd (mt ρ) fun x => bnd (truW x) fun t => if t = true then ma ρ else mb ρ) = bnd (tst mt ρ) (fun t => if t = true then ma ρ else mb ρ) from (bnd_assoc _ _ _).symm] at q
  refine tT_seq er sr q fun b S1 H1 η1 g er1 sr1 q1 => ?_
  cases b with
  | false =>
    simp only [Bool.false_eq_true, if_false] at q1 ⊢
    exact ⟨ρ, S1, η1, er1, sr1, q1.imp fun _ _ z => z.mono g⟩
  | true =>
    simp only [if_true] at q1 ⊢
    exact ⟨ρ, S1, η1, er1, sr1, q1.imp fun _ _ z => z.mono g⟩
/-! ### argument lists, displays -/
theorem a_nil : PA X [] (tA X.K ca fun _ => ret []) := by
  refine PA.of pa_nil fun σ H Q q => ?_
  obtain ⟨ρ, S, η, er, sr, q⟩ := q
  exact q [] H η (Grow.refl _ _) sr .nil
theorem a_cons {es : List Expr} {ms : Sl → M (List W)} (ha : PE X a (tE X.K ca ma)) (hr : PA X es (tA X.K ca ms)) (hs : starEach (a :: es) X.env = (false, eval a X.env) :: starEach es X.env) : PA X (a :: es) (tA X.K ca fun ρ => bnd (ma ρ) fun w => bnd (ms ρ) fun ws => ret (w :: ws)) := by
  refine PA.of (pa_cons ha hr hs) fun σ H Q q => ?_
  obtain ⟨ρ, S, η, er, sr, q⟩ := q
  refine tE_seq er sr q fun w S1 v H1 η1 g er1 sr1 r1 q1 => ?_
  refine tA_seq er1 sr1 q1 fun ws S2 vs H2 η2 g2 er2 sr2 r2 q2 => ?_
  exact q2 _ H2 η2 (g.trans g2) sr2 (.cons (r1.grow g2) r2)
theorem e_tup {es : List Expr} {ms : Sl → M (List W)} {k : Nat} (h : PA X es (tA X.K ca ms)) : PE X (.Tuple es k pos) (tE X.K ca fun ρ => bnd (ms ρ) fun ws => match dataOf ws with
    | some xs => if xs.length ≤ SZ then ret (.d (.tuple xs)) else bad
    | none => bad) := by
  refine PE.of (pe_tup h) fun σ H Q q => ?_
  obtain ⟨ρ, S, η, er, sr, q⟩ := q
  refine tA_seq er sr q fun ws S1 vs H1 η1 g er1 sr1 r1 q1 => ?_
  cases e : dataOf ws with
  | none => rw [e] at q1; exact q1.elim
  | some xs =>
    rw [e] at q1
    by_cases hz : xs.length ≤ SZ
    · have q1 : post ((if xs.length ≤ SZ then ret _ else bad) S1) _ := q1
      rw [if_pos hz] at q1
      have rr := r1.data e
      exact ⟨szl (by rw [rr.length]; exact hz), fun p hp => qW.tup (qW.mono g q1) sr1 rr hp⟩
    · have q1 : post ((if xs.length ≤ SZ then ret _ else bad) S1) _ := q1
      rw [if_neg hz] at q1
      exact q1.elim
theorem e_lst {es : List Expr} {ms : Sl → M (List W)} (h : PA X es (tA X.K ca ms)) : PE X (.List es pos) (tE X.K ca fun ρ => bnd (ms ρ) fun ws => match dataOf ws with
    | some xs => if xs.length ≤ SZ then ret (.d (.list xs)) else bad
    | none => bad) := by
  refine PE.of (pe_lst h) fun σ H Q q => ?_
  obtain ⟨ρ, S, η, er, sr, q⟩ := q
  refine tA_seq er sr q fun ws S1 vs H1 η1 g er1 sr1 r1 q1 => ?_
  cases e : dataOf ws with
  | none => rw [e] at q1; exact q1.elim
  | some xs =>
    rw [e] at q1
    by_cases hz : xs.length ≤ SZ
    · have q1 : post ((if xs.length ≤ SZ then ret _ else bad) S1) _ := q1
      rw [if_pos hz] at q1
      have rr := r1.data e
      exact ⟨szl (by rw [rr.length]; exact hz), fun p hp => qW.lst (qW.mono g q1) sr1 rr hp⟩
    · have q1 : post ((if xs.length ≤ SZ then ret _ else bad) S1) _ := q1
      rw [if_neg hz] at q1
      exact q1.elim
theorem e_nl {es : List Expr} {ms : Sl → M (List W)} (h : PA X es (tA X.K ca ms)) : PE X (.List es pos) (tE X.K ca fun ρ => bnd (ms ρ) fun ws => if ws.length ≤ SZ then alloc (.lst ws) else bad) := by
  refine PE.of (pe_lst h) fun σ H Q q => ?_
  obtain ⟨ρ, S, η, er, sr, q⟩ := q
  refine tA_seq er sr q fun ws S1 vs H1 η1 g er1 sr1 r1 q1 => ?_
  by_cases hz : ws.length ≤ SZ
  · rw [if_pos hz] at q1
    refine ⟨szl (by rw [r1.length]; exact hz), fun p hp => ?_⟩
    have g2 := grow_alloc (o := .lst vs) sr1 hp
    refine q1 _ _ (η1.add p) (g.trans g2) (sr1.alloc hp ⟨_, upd_same, r1.grow g2⟩) (.r ?_)
    rw [← sr1.len]
    unfold Zs.add
    simp
  · rw [if_neg hz] at q1
    exact q1.elim
theorem e_ndk : PE X (.Dict [] [] pos) (tE X.K ca fun _ => alloc (.dk [])) := by
  refine PE.of pe_dnewK fun σ H Q q => ?_
  obtain ⟨ρ, S, η, er, sr, q⟩ := q
  intro p hp
  have g2 := grow_alloc (o := .dK []) sr hp
  refine q _ _ (η.add p) g2 (sr.alloc hp ⟨_, upd_same, .nil⟩) (.r ?_)
  rw [← sr.len]
  unfold Zs.add
  simp
/-! ### subscripts -/
theorem e_sub (ck : Ck X) (hs : PlainIx b) (ha : PE X a (tE X.K ca ma)) (hb : PE X b (tE X.K ca mb)) : PE X (.Subscript a b pos) (tE X.K ca fun ρ => bnd (ma ρ) fun x => bnd (mb ρ) fun y => subW x y) :=
  e_op2 (r := fun t _ => t) (fun _ _ h1 h2 => pe_ix (sub_ok ck) h1 h2 hs) ha hb
def qO (K : PySem.W.Frag) (ca : Nat → Addr) (η : Zs) (H : Hp) (Q : Option Int → Hp → Prop) : Option W → Sto → Prop := fun w S' => ∃ o, asOI w = some o ∧ ∀ H' η', Grow η H η' H' → SR K ca η' H' S' → Q o H'
theorem po_e {e : Option Expr} {mo : Sl → M (Option W)} (h : (e = none ∧ mo = fun _ => ret none) ∨ ∃ e' m', e = some e' ∧ (mo = fun ρ => bnd (m' ρ) fun w => ret (some w)) ∧ PE X e' (tE X.K ca m')) :
    PO X e (fun σ H Q => ∃ ρ S η, ER X.K η H σ ρ ∧ SR X.K ca η H S ∧ post (mo ρ S) (qO X.K ca η H Q)) := by
  rcases h with ⟨rfl, rfl⟩ | ⟨e', m', rfl, rfl, he⟩
  · refine ⟨fun pins s σ H Q I q => po_none.run pins s σ H Q I ?_⟩
    obtain ⟨ρ, S, η, er, sr, o, eo, q⟩ := q
    cases eo
    exact q H η (Grow.refl _ _) sr
  · refine ⟨fun pins s σ H Q I q => (po_some he).run pins s σ H Q I ?_⟩
    obtain ⟨ρ, S, η, er, sr, q⟩ := q
    refine tE_seq er sr q fun w S1 v H1 η1 g er1 sr1 r1 q1 => ?_
    obtain ⟨o, eo, q1⟩ := q1
    unfold asOI at eo
    split at eo
    · rename_i e; cases e
    · rename_i i e
      cases e
      cases eo
      cases r1 with
      | d r => cases r; exact ⟨_, rfl, q1 H1 η1 g sr1⟩
    · cases eo
theorem e_slc {lo hi : Option Expr} {ml mh : Sl → M (Option W)} {p2 : Pos} (ha : PE X a (tE X.K ca ma)) (hl : (lo = none ∧ ml = fun _ => ret none) ∨ ∃ e' m', lo = some e' ∧ (ml = fun ρ => bnd (m' ρ) fun w => ret (some w)) ∧ PE X e' (tE X.K ca m'))
    (hh : (hi = none ∧ mh = fun _ => ret none) ∨ ∃ e' m', hi = some e' ∧ (mh = fun ρ => bnd (m' ρ) fun w => ret (some w)) ∧ PE X e' (tE X.K ca m')) :
    PE X (.Subscript a (.Slice lo hi none p2) pos) (tE X.K ca fun ρ => bnd (ma ρ) fun x => bnd (ml ρ) fun l => bnd (mh ρ) fun h => match asOI l, asOI h with
      | some l, some h => slcW x l h
      | _, _ => bad) := by
  refine PE.of (pe_slice (sl_ok (ca := ca)) ha (po_e hl) (po_e hh)) fun σ H Q q => ?_
  obtain ⟨ρ, S, η, er, sr, q⟩ := q
  refine tE_seq er sr q fun w S1 v H1 η1 g er1 sr1 r1 q1 => ?_
  rw [post_bnd] at q1
  refine ⟨ρ, S1, η1, er1, sr1, ?_⟩
  have nb : ∀ {f : Option W → M W} {S0 : Sto} {q0 : W → Sto → Prop} {x : Option W}, True := trivial
  refine post.imp q1 fun l S2 q2 => ?_
  rw [post_bnd] at q2
  cases el : asOI l with
  | none =>
    exfalso
    rw [el] at q2
    revert q2
    cases mh ρ S2 with
    | none => exact id
    | some o => cases o <;> exact id
  | some lo' =>
    refine ⟨lo', el, fun H2 η2 g2 sr2 => ⟨ρ, S2, η2, er1.grow g2, sr2, post.imp q2 fun h S3 q3 => ?_⟩⟩
    rw [el] at q3
    cases eh : asOI h with
    | none => rw [eh] at q3; exact q3.elim
    | some hi' =>
      rw [eh] at q3
      refine ⟨hi', eh, fun H3 η3 g3 sr3 => ⟨η3, S3, w, sr3, (r1.grow g2).grow g3, q3.imp fun _ _ z => z.mono ((g.trans g2).trans g3)⟩⟩
end
end MP

/-! Statements, targets, loops. -/
namespace MP
open PySem L2 PySem.Spec PyProof.Rows
section
variable (K : PySem.W.Frag) (ca : Nat → Addr)
def qS (K : PySem.W.Frag) (ca : Nat → Addr) (η : Zs) (H : Hp) (D : Ends) : Fl → Sto → Prop := fun f S' => ∀ H' η', Grow η H η' H' → SR K ca η' H' S' → match f with
  | .nx ρ' => ∀ σ', ER K η' H' σ' ρ' → D.nx σ' H'
  | .bk ρ' => ∀ σ', ER K η' H' σ' ρ' → D.bk σ' H'
  | .ct ρ' => ∀ σ', ER K η' H' σ' ρ' → D.ct σ' H'
  | .rt w => ∀ v, RW K η' H' v w → D.rt v H'
def tS (m : Sl → M Fl) : TS := fun D σ H => ∃ ρ S η, ER K η H σ ρ ∧ SR K ca η H S ∧ post (m ρ S) (qS K ca η H D)
def gW (p : P) : TG := fun v σ H Q => ∃ w ρ ρ' η, RW K η H v w ∧ ER K η H σ ρ ∧ bindP p w ρ = some ρ' ∧ ∀ σ', ER K η H σ' ρ' → (∀ i, i ∉ p.slots → σ'[i]? = σ[i]?) → Q σ' H
end
theorem qS.mono {K : PySem.W.Frag} {ca : Nat → Addr} {η η1 : Zs} {H H1 : Hp} {D : Ends} {f : Fl} {S : Sto} (g : Grow η H η1 H1) (h : qS K ca η H D f S) : qS K ca η1 H1 D f S := fun H2 η2 g2 => h H2 η2 (g.trans g2)
/-- one after the other -/
def sq (a b : Sl → M Fl) : Sl → M Fl := fun ρ => bnd (a ρ) fun f => match f with
  | .nx ρ' => b ρ'
  | f => ret f
section
variable {X : Cx} {ca : Nat → Addr}
theorem PS.of {e : Stmt} {t t' : TS} (h : PS X e t) (k : ∀ D σ H, t' D σ H → t D σ H) : PS X e t' := ⟨fun pins s σ H D I q => h.run pins s σ H D I (k D σ H q)⟩
theorem PSs.of {e : List Stmt} {t t' : TS} (h : PSs X e t) (k : ∀ D σ H, t' D σ H → t D σ H) : PSs X e t' := ⟨fun pins s σ H D I q => h.run pins s σ H D I (k D σ H q)⟩
theorem PG.of {e : Expr} {t t' : TG} (h : PG X e t) (k : ∀ v σ H Q, t' v σ H Q → t v σ H Q) : PG X e t' := ⟨fun pins s σ H v u Q I r q => h.run pins s σ H v u Q I r (k v σ H Q q)⟩
variable {pos : Pos} {st : Stmt} {rest a b : List Stmt} {m m1 m2 ma mb : Sl → M Fl} {e : Expr} {me mt : Sl → M W}
theorem post_S {K : PySem.W.Frag} {η : Zs} {H : Hp} {D : Ends} {r : Option (Out Fl)} {q : Fl → Sto → Prop} (h : post r q) (k : ∀ f S, q f S → qS K ca η H D f S) : post r (qS K ca η H D) := h.imp k
theorem s_nil : PSs X [] (tS X.K ca fun ρ => ret (.nx ρ)) := by
  refine PSs.of pss_nil fun D σ H q => ?_
  obtain ⟨ρ, S, η, er, sr, q⟩ := q
  exact q H η (Grow.refl _ _) sr σ er
theorem s_cons (h1 : PS X st (tS X.K ca m1)) (h2 : PSs X rest (tS X.K ca m2)) : PSs X (st :: rest) (tS X.K ca (sq m1 m2)) := by
  refine PSs.of (pss_cons h1 h2) fun D σ H q => ?_
  obtain ⟨ρ, S, η, er, sr, q⟩ := q
  have q : post (bnd (m1 ρ) (fun f => match f with
    | .nx ρ' => m2 ρ'
    | f => ret f) S) (qS X.K ca η H D) := q
  rw [post_bnd] at q
  refine ⟨ρ, S, η, er, sr, q.imp fun f S1 q1 H1 η1 g sr1 => ?_⟩
  cases f with
  | nx ρ1 => exact fun σ1 er1 => ⟨ρ1, S1, η1, er1, sr1, q1.imp fun _ _ z => z.mono g⟩
  | rt w => exact q1 H1 η1 g sr1
  | bk ρ1 => exact q1 H1 η1 g sr1
  | ct ρ1 => exact q1 H1 η1 g sr1
theorem s_one (h1 : PS X st (tS X.K ca m1)) : PSs X [st] (tS X.K ca m1) := ⟨fun pins s σ H D I h => (pss_one h1).run pins s σ H D I h⟩
theorem s_pass : PS X (.Pass pos) (tS X.K ca fun ρ => ret (.nx ρ)) := by
  refine PS.of ps_pass fun D σ H q => ?_
  obtain ⟨ρ, S, η, er, sr, q⟩ := q
  exact q H η (Grow.refl _ _) sr σ er
theorem s_brk : PS X (.Break pos) (tS X.K ca fun ρ => ret (.bk ρ)) := by
  refine PS.of ps_break fun D σ H q => ?_
  obtain ⟨ρ, S, η, er, sr, q⟩ := q
  exact q H η (Grow.refl _ _) sr σ er
theorem s_cont : PS X (.Continue pos) (tS X.K ca fun ρ => ret (.ct ρ)) := by
  refine PS.of ps_continue fun D σ H q => ?_
  obtain ⟨ρ, S, η, er, sr, q⟩ := q
  exact q H η (Grow.refl _ _) sr σ er
theorem s_bad : PS X st (tS X.K ca fun _ => bad) := ⟨fun pins s σ H D I q => by
  obtain ⟨ρ, S, η, er, sr, q⟩ := q
  exact q.elim⟩
theorem ss_bad : PSs X rest (tS X.K ca fun _ => bad) := ⟨fun pins s σ H D I q => by
  obtain ⟨ρ, S, η, er, sr, q⟩ := q
  exact q.elim⟩
theorem s_ex (he : PE X e (tE X.K ca me)) (hs : swapsWith e none pos.line X.env = pure false := by rfl) : PS X (.Expr e pos) (tS X.K ca fun ρ => bnd (me ρ) fun _ => ret (.nx ρ)) := by
  refine PS.of (ps_expr he hs) fun D σ H q => ?_
  obtain ⟨ρ, S, η, er, sr, q⟩ := q
  refine tE_seq er sr q fun w S1 v H1 η1 g er1 sr1 r1 q1 => ?_
  exact q1 H1 η1 g sr1 σ er1
theorem s_ret (he : PE X e (tE X.K ca me)) : PS X (.Return (some e) pos) (tS X.K ca fun ρ => bnd (me ρ) fun w => ret (.rt w)) := by
  refine PS.of (ps_ret he) fun D σ H q => ?_
  obtain ⟨ρ, S, η, er, sr, q⟩ := q
  refine tE_seq er sr q fun w S1 v H1 η1 g er1 sr1 r1 q1 => ?_
  exact q1 H1 η1 g sr1 v r1
theorem s_retN : PS X (.Return none pos) (tS X.K ca fun _ => ret (.rt (.d .none))) := by
  refine PS.of ps_retN fun D σ H q => ?_
  obtain ⟨ρ, S, η, er, sr, q⟩ := q
  exact q H η (Grow.refl _ _) sr .non (.d .non)
theorem s_if (hc : PT X e (tT X.K ca (tst me))) (ha : PSs X a (tS X.K ca ma)) (hb : PSs X b (tS X.K ca mb)) :
    PS X (.If e a b pos) (tS X.K ca fun ρ => bnd (tst me ρ) fun t => if t = true then ma ρ else mb ρ) := by
  refine PS.of (ps_if hc ha hb) fun D σ H q => ?_
  obtain ⟨ρ, S, η, er, sr, q⟩ := q
  refine tT_seq er sr q fun t S1 H1 η1 g er1 sr1 q1 => ?_
  cases t with
  | true =>
    simp only [if_true] at q1 ⊢
    exact ⟨ρ, S1, η1, er1, sr1, q1.imp fun _ _ z => z.mono g⟩
  | false =>
    simp only [Bool.false_eq_true, if_false] at q1 ⊢
    exact ⟨ρ, S1, η1, er1, sr1, q1.imp fun _ _ z => z.mono g⟩
/-! ### targets -/
theorem g_nm {i : Nat} {x : Str} (hN : X.N.Nodup) (hi : X.N[i]? = some x) (hx : Loc X.env.scope x) (hf : X.fn x = true ∨ X.env.scope.names.lookup x = some .local) : PG X (.Name x pos) (gW X.K (.nm i)) := by
  refine PG.of (pg_name hN hi hx hf) fun v σ H Q q => ?_
  obtain ⟨w, ρ, ρ', η, r, er, e, q⟩ := q
  cases e
  refine q _ (er.set r i) fun j hj => ?_
  exact List.getElem?_set_ne fun z => hj (List.mem_singleton.mpr z.symm)
def gL : List Nat → TGs
  | [] => gNil
  | i :: is => gCons (gName i) (gL is)
theorem gL_run {K : PySem.W.Frag} {η : Zs} {H : Hp} {Q : L2.St → Hp → Prop} : ∀ {is : List Nat} {vs : List V} {xs : List D} {σ : Sg} {ρ ρ' : Sl}, RpAll K η H vs xs → ER K η H σ ρ → bindL is xs ρ = some ρ' →
    (∀ σ', ER K η H σ' ρ' → (∀ i, i ∉ is → σ'[i]? = σ[i]?) → Q σ' H) → gL is vs σ H Q
  | [], _, _, _, _, _, .nil, er, e, q => by cases e; exact ⟨rfl, q _ er fun _ _ => rfl⟩
  | [], _, _, _, _, _, .cons _ _, _, e, _ => by cases e
  | _ :: _, _, _, _, _, _, .nil, _, e, _ => by cases e
  | i :: is, _, _, σ, ρ, ρ', .cons (v := v) r t, er, e, q => by
    refine ⟨_, _, rfl, gL_run t (er.set (.d r) i) e fun σ' er' h => q σ' er' fun j hj => ?_⟩
    rw [h j fun z => hj (List.mem_cons_of_mem _ z)]
    exact List.getElem?_set_ne fun z => hj (by rw [← z]; exact List.mem_cons_self)
theorem gs_nil : PGs X [] (gL []) := pgs_nil
theorem gs_cons {i : Nat} {x : Str} {p : Pos} {es : List Expr} {is : List Nat} (hN : X.N.Nodup) (hi : X.N[i]? = some x) (hx : Loc X.env.scope x) (hf : X.fn x = true ∨ X.env.scope.names.lookup x = some .local) (h2 : PGs X es (gL is))
    (hs : (assignEach (.Name x p :: es) X.env).map (·.2) = assign (.Name x p) X.env :: (assignEach es X.env).map (·.2)) : PGs X (.Name x p :: es) (gL (i :: is)) :=
  pgs_cons (pg_name hN hi hx hf) h2 hs
theorem g_tup (ck : Ck X) {es : List Expr} {k n : Nat} {is : List Nat} (h : PGs X es (gL is)) (hl : is.length = n) (hn : (assignEach es X.env).length = n) (hst : (assignEach es X.env).findIdx? (·.1) = none) : PG X (.Tuple es k pos) (gW X.K (.tup is)) := by
  refine PG.of (pg_tup ck.calm h hn hst) fun v σ H Q q => ?_
  obtain ⟨w, ρ, ρ', η, r, er, e, q⟩ := q
  unfold bindP at e
  split at e
  · cases ‹P.tup _ = P.nm _›
  · rename_i is' xs _ e1
    cases e1
    cases r with
    | d r => cases r with
      | tup a1 b1 =>
        have ln : ∀ {is : List Nat} {xs : List D} {ρ ρ' : Sl}, bindL is xs ρ = some ρ' → xs.length = is.length := by
          intro is
          induction is with
          | nil => intro xs ρ ρ' e; cases xs with
            | nil => rfl
            | cons _ _ => cases e
          | cons i is ih => intro xs ρ ρ' e; cases xs with
            | nil => cases e
            | cons x xs => rw [List.length_cons, List.length_cons, ih e]
        refine ⟨_, _, rfl, a1.sq, by rw [b1.length, ln e]; exact hl, gL_run b1 er e q⟩
  · cases e
/-! ### assignments -/
theorem s_asg {tg : Expr} {p : P} (he : PE X e (tE X.K ca me)) (hg : PG X tg (gW X.K p)) (hs : swapsWithSole [tg] e pos.line X.env = pure false) (hw : swappedStores [tg] e X.env = pure none)
    (h1 : (assignEach [tg] X.env).map (·.2) = [assign tg X.env]) : PS X (.Assign [tg] e pos) (tS X.K ca fun ρ => bnd (me ρ) fun w => bnd (opt (bindP p w ρ)) fun ρ' => ret (.nx ρ')) := by
  refine PS.of (ps_asg he hg hs hw h1) fun D σ H q => ?_
  obtain ⟨ρ, S, η, er, sr, q⟩ := q
  refine tE_seq er sr q fun w S1 v H1 η1 g er1 sr1 r1 q1 => ?_
  obtain ⟨ρ', e1, q2⟩ := post_opt _ _ _ q1
  have q2 : qS X.K ca η H D (.nx ρ') S1 := q2
  exact ⟨w, ρ, ρ', η1, r1, er1, e1, fun σ' er' _ => q2 H1 η1 g sr1 σ' er'⟩
theorem s_par2 (ck : Ck X) {i j : Nat} {x y : Str} {a b : Expr} {px py pt : Pos} {kt k2 pt2} {ms : Sl → M (List W)} (hi : X.N[i]? = some x) (hj : X.N[j]? = some y) (hij : i ≠ j)
    (hx : X.env.scope.names.lookup x = some .local) (hy : X.env.scope.names.lookup y = some .local) (ha : PA X [a, b] (tA X.K ca ms))
    (hw : swappedStores [.Tuple [.Name x px, .Name y py] kt pt] (.Tuple [a, b] k2 pt2) X.env = pure (some [x, y]))
    (hs : swapsWithSole [.Tuple [.Name x px, .Name y py] kt pt] (.Tuple [a, b] k2 pt2) pos.line X.env = pure false) :
    PS X (.Assign [.Tuple [.Name x px, .Name y py] kt pt] (.Tuple [a, b] k2 pt2) pos) (tS X.K ca fun ρ => bnd (ms ρ) fun ws => match ws with
      | [w1, w2] => ret (.nx ((ρ.set i (some w1)).set j (some w2)))
      | _ => bad) := by
  refine PS.of (ps_par ck.calm ck.nd hi hj hij hx hy ha hw hs) fun D σ H q => ?_
  obtain ⟨ρ, S, η, er, sr, q⟩ := q
  refine tA_seq er sr q fun ws S1 vs H1 η1 g er1 sr1 r1 q1 => ?_
  cases r1 with
  | nil => exact q1.elim
  | cons r1 t => cases t with
    | nil => exact q1.elim
    | cons r2 t => cases t with
      | nil => exact ⟨_, _, rfl, q1 H1 η1 g sr1 _ ((er1.set r1 i).set r2 j)⟩
      | cons _ _ => exact q1.elim
theorem s_par3 (ck : Ck X) {i j l : Nat} {x y z : Str} {a b c : Expr} {px py pz pt : Pos} {kt k2 pt2} {ms : Sl → M (List W)} (hi : X.N[i]? = some x) (hj : X.N[j]? = some y) (hl : X.N[l]? = some z) (hij : i ≠ j) (hil : i ≠ l) (hjl : j ≠ l)
    (hx : X.env.scope.names.lookup x = some .local) (hy : X.env.scope.names.lookup y = some .local) (hz : X.env.scope.names.lookup z = some .local) (ha : PA X [a, b, c] (tA X.K ca ms))
    (hw : swappedStores [.Tuple [.Name x px, .Name y py, .Name z pz] kt pt] (.Tuple [a, b, c] k2 pt2) X.env = pure (some [x, y, z]))
    (hs : swapsWithSole [.Tuple [.Name x px, .Name y py, .Name z pz] kt pt] (.Tuple [a, b, c] k2 pt2) pos.line X.env = pure false) :
    PS X (.Assign [.Tuple [.Name x px, .Name y py, .Name z pz] kt pt] (.Tuple [a, b, c] k2 pt2) pos) (tS X.K ca fun ρ => bnd (ms ρ) fun ws => match ws with
      | [w1, w2, w3] => ret (.nx (((ρ.set i (some w1)).set j (some w2)).set l (some w3)))
      | _ => bad) := by
  refine PS.of (ps_par3 ck.calm ck.nd hi hj hl hij hil hjl hx hy hz ha hw hs) fun D σ H q => ?_
  obtain ⟨ρ, S, η, er, sr, q⟩ := q
  refine tA_seq er sr q fun ws S1 vs H1 η1 g er1 sr1 r1 q1 => ?_
  cases r1 with
  | nil => exact q1.elim
  | cons r1 t => cases t with
    | nil => exact q1.elim
    | cons r2 t => cases t with
      | nil => exact q1.elim
      | cons r3 t => cases t with
        | nil => exact ⟨_, _, _, rfl, q1 H1 η1 g sr1 _ (((er1.set r1 i).set r2 j).set r3 l)⟩
        | cons _ _ => exact q1.elim
theorem s_setI (ck : Ck X) {o i : Expr} {mo mi : Sl → M W} {tp : Pos} (he : PE X e (tE X.K ca me)) (ho : PE X o (tE X.K ca mo)) (hi : PE X i (tE X.K ca mi))
    (ha : ∀ v, assign (.Subscript o i tp) X.env v = (do
      let ov ← holding [v] (eval o X.env)
      let iv ← holding [v, ov] (eval i X.env)
      standAt tp
      holding [v, ov, iv] (setItem ov iv v)
      release [v, ov, iv] []))
    (hs : swapsWithSole [.Subscript o i tp] e pos.line X.env = pure false) (hw : swappedStores [.Subscript o i tp] e X.env = pure none)
    (h1 : (assignEach [.Subscript o i tp] X.env).map (·.2) = [assign (.Subscript o i tp) X.env]) :
    PS X (.Assign [.Subscript o i tp] e pos) (tS X.K ca fun ρ => bnd (me ρ) fun w => bnd (mo ρ) fun x => bnd (mi ρ) fun y => bnd (setW x y w) fun _ => ret (.nx ρ)) := by
  refine PS.of (ps_asg he (pg_sub ho hi (set_ok (ca := ca) ck) ha) hs hw h1) fun D σ H q => ?_
  obtain ⟨ρ, S, η, er, sr, q⟩ := q
  refine tE_seq er sr q fun w S1 v H1 η1 g er1 sr1 r1 q1 => ?_
  refine tE_seq er1 sr1 q1 fun w2 S2 v2 H2 η2 g2 er2 sr2 r2 q2 => ?_
  refine tE_seq er2 sr2 q2 fun w3 S3 v3 H3 η3 g3 er3 sr3 r3 q3 => ?_
  rw [post_bnd] at q3
  refine ⟨η3, S3, w2, w3, w, sr3, r2.grow g3, r3, (r1.grow g2).grow g3, q3.imp fun _ S4 z H4 η4 g4 sr4 => ?_⟩
  have z : qS X.K ca η H D (.nx ρ) S4 := z
  exact z H4 η4 (((g.trans g2).trans g3).trans g4) sr4 σ (er3.grow g4)
/-! ### loops -/
theorem s_whl (hp : PassesOwn (model X.prog X.w) X.A X.env X.xe) (hc : PT X e (tT X.K ca (tst me))) (hb : PSs X a (tS X.K ca ma)) (N : Nat) : PS X (.While e a [] pos) (tS X.K ca fun ρ => whileM (tst me) ma N ρ) := by
  refine PS.of (ps_while hp hc hb) fun D σ H q => ?_
  obtain ⟨ρ, S, η, er, sr, q⟩ := q
  refine ⟨fun n σ1 H1 => ∃ ρ1 S1 η1, Grow η H η1 H1 ∧ ER X.K η1 H1 σ1 ρ1 ∧ SR X.K ca η1 H1 S1 ∧ post (whileM (tst me) ma n ρ1 S1) (qS X.K ca η H D), ⟨N, ρ, S, η, Grow.refl _ _, er, sr, q⟩, fun n σ1 H1 w => ?_⟩
  obtain ⟨ρ1, S1, η1, g1, er1, sr1, q1⟩ := w
  cases n with
  | zero => exact q1.elim
  | succ n =>
    unfold whileM at q1
    refine tT_seq er1 sr1 q1 fun t S2 H2 η2 g2 er2 sr2 q2 => ?_
    cases t with
    | false =>
      simp only [Bool.false_eq_true, if_false] at q2 ⊢
      have q2 : qS X.K ca η H D (.nx ρ1) S2 := q2
      exact q2 H2 η2 (g1.trans g2) sr2 σ1 er2
    | true =>
      simp only [if_true] at q2 ⊢
      refine ⟨fun σ3 H3 => ∃ ρ3 S3 η3, Grow η H η3 H3 ∧ ER X.K η3 H3 σ3 ρ3 ∧ SR X.K ca η3 H3 S3 ∧ post (whileM (tst me) ma n ρ3 S3) (qS X.K ca η H D), fun σ3 H3 w => ⟨n, Nat.lt_succ_self _, w⟩, ?_⟩
      rw [post_bnd] at q2
      refine ⟨ρ1, S2, η2, er2, sr2, q2.imp fun f S3 q3 H3 η3 g3 sr3 => ?_⟩
      have g := (g1.trans g2).trans g3
      cases f with
      | nx ρ3 => exact fun σ3 er3 => ⟨ρ3, S3, η3, g, er3, sr3, q3⟩
      | ct ρ3 => exact fun σ3 er3 => ⟨ρ3, S3, η3, g, er3, sr3, q3⟩
      | bk ρ3 =>
        have q3 : qS X.K ca η H D (.nx ρ3) S3 := q3
        exact fun σ3 er3 => q3 H3 η3 g sr3 σ3 er3
      | rt w =>
        have q3 : qS X.K ca η H D (.rt w) S3 := q3
        exact q3 H3 η3 g sr3
def iW (K : PySem.W.Frag) (ca : Nat → Addr) (m : Sl → M (List D)) : TI := fun σ H R => ∃ ρ S η, ER K η H σ ρ ∧ SR K ca η H S ∧ post (m ρ S) fun items S' => ∀ J H' η', Grow η H η' H' → SR K ca η' H' S' → Yields K ca η' H' J items → R J H'
theorem s_for (ck : Ck X) {tg iter : Expr} {p : P} {mi : Sl → M (List D)} (hp : PassesOwn (model X.prog X.w) X.A X.env X.xe) (hi : PI X tg iter (iW X.K ca mi)) (hg : PG X tg (gW X.K p)) (hb : PSs X a (tS X.K ca ma))
    (hs : ∀ x, foldedSetIterable iter X.env x = pure x) : PS X (.For tg iter a [] pos) (tS X.K ca fun ρ => bnd (mi ρ) fun items => forM p ma items ρ) := by
  refine PS.of (ps_for hp ck.calm hi hg hb hs) fun D σ H q => ?_
  obtain ⟨ρ, S, η, er, sr, q⟩ := q
  have q : post (bnd (mi ρ) (fun items => forM p ma items ρ) S) (qS X.K ca η H D) := q
  rw [post_bnd] at q
  refine ⟨ρ, S, η, er, sr, q.imp fun items S1 q1 J H1 η1 g1 sr1 yl => ?_⟩
  refine ⟨fun i n σ2 H2 => i + n = items.length ∧ ∃ ρ2 S2 η2, Grow η1 H1 η2 H2 ∧ ER X.K η2 H2 σ2 ρ2 ∧ SR X.K ca η2 H2 S2 ∧ post (forM p ma (items.drop i) ρ2 S2) (qS X.K ca η H D),
    ⟨items.length, by omega, ρ, S1, η1, Grow.refl _ _, er.grow g1, sr1, q1⟩, fun i n σ2 H2 w => ?_⟩
  obtain ⟨hn, ρ2, S2, η2, g2, er2, sr2, q2⟩ := w
  obtain ⟨y1, y2⟩ := yl η2 H2 S2 g2 sr2 i
  have gg := g1.trans g2
  by_cases hi : i < items.length
  · refine .inr ⟨(y2 hi).1, fun σ3 H3 => ∃ ρ3 S3 η3, Grow η1 H1 η3 H3 ∧ ER X.K η3 H3 σ3 ρ3 ∧ SR X.K ca η3 H3 S3 ∧ post (forM p ma (items.drop (i + 1)) ρ3 S3) (qS X.K ca η H D), fun σ3 H3 w => ⟨n - 1, by omega, by omega, w⟩, fun x H3 y => ?_⟩
    obtain ⟨d, ed, g3, sr3, rd⟩ := (y2 hi).2 x H3 y
    have e0 : items.drop i = d :: items.drop (i + 1) := by
      rw [List.drop_eq_getElem_cons hi]
      rw [List.getElem?_eq_getElem hi] at ed
      rw [Option.some.inj ed]
    rw [e0] at q2
    unfold forM at q2
    obtain ⟨ρ', eb, q3⟩ := post_opt _ _ _ q2
    refine ⟨.d d, ρ2, ρ', η2, .d rd, er2.grow g3, eb, fun σ4 er4 _ => ?_⟩
    rw [post_bnd] at q3
    refine ⟨ρ', S2, η2, er4, sr3, q3.imp fun f S5 q5 H5 η5 g5 sr5 => ?_⟩
    have g := (g2.trans g3).trans g5
    cases f with
    | nx ρ3 => exact fun σ3 er3 => ⟨ρ3, S5, η5, g, er3, sr5, q5⟩
    | ct ρ3 => exact fun σ3 er3 => ⟨ρ3, S5, η5, g, er3, sr5, q5⟩
    | bk ρ3 =>
      have q5 : qS X.K ca η H D (.nx ρ3) S5 := q5
      exact fun σ3 er3 => q5 H5 η5 (g1.trans g) sr5 σ3 er3
    | rt w =>
      have q5 : qS X.K ca η H D (.rt w) S5 := q5
      exact q5 H5 η5 (g1.trans g) sr5
  · rw [List.drop_of_length_le (by omega)] at q2
    have q2 : qS X.K ca η H D (.nx ρ2) S2 := q2
    exact .inl ⟨y1 (by omega), q2 H2 η2 gg sr2 σ2 er2⟩
end
end MP

/-! What is walked; built-ins; methods; f-strings; op=. -/
namespace MP
open PySem L2 PySem.Spec PyProof.Rows
/-- a method's receiver is looked at ahead of the arguments -/
def rcv (m : Me) (w : W) : M Unit := fun S => match m, w with
  | .append, .r i => match S[i]? with
    | some (.lst _) => some (.ok () S)
    | _ => none
  | .setdefault, .r i => match S[i]? with
    | some (.dk _) => some (.ok () S)
    | _ => none
  | _, _ => none
section
variable {X : Cx} {ca : Nat → Addr} {pos p : Pos} {e : Expr} {me : Sl → M W} {tg : Expr} {ms : Sl → M (List W)}
theorem PI.of {it : Expr} {t t' : TI} (h : PI X tg it t) (k : ∀ σ H R, t' σ H R → t σ H R) : PI X tg it t' := ⟨fun pins s σ H R I q => h.run pins s σ H R I (k σ H R q)⟩
theorem PI.or {it : Expr} {t t' : TI} (h : PI X tg it t) (h' : PI X tg it t') : PI X tg it (fun σ H R => t σ H R ∨ t' σ H R) :=
  ⟨fun pins s σ H R I q => q.elim (h.run pins s σ H R I) (h'.run pins s σ H R I)⟩
/-- where the step ends -/
theorem post_ok {α : Type} {r : Option (Out α)} {q : α → Sto → Prop} (h : post r q) : ∃ a S, r = some (.ok a S) ∧ q a S := by
  cases r with
  | none => exact h.elim
  | some o => cases o with
    | ok a S => exact ⟨a, S, rfl, h⟩
    | ex _ _ => exact h.elim
theorem post_opt1 {α : Type} {o : Option α} {S : Sto} {q : α → Sto → Prop} (h : post (opt o S) q) : ∃ a, o = some a ∧ q a S := by
  cases o with
  | none => exact h.elim
  | some a => exact ⟨a, rfl, h⟩
theorem i_seq (he : PE X e (tE X.K ca me)) : PI X tg e (iW X.K ca fun ρ => bnd (me ρ) fun w => opt (itemsOf .seq [w])) := by
  refine PI.of (PI.or (pi_list he) (PI.or (pi_tup he) (pi_str he))) fun σ H R q => ?_
  obtain ⟨ρ, S, η, er, sr, q⟩ := q
  have q : post (bnd (me ρ) (fun w => opt (itemsOf .seq [w])) S) (fun items S' => ∀ J H' η', Grow η H η' H' → SR X.K ca η' H' S' → Yields X.K ca η' H' J items → R J H') := q
  rw [post_bnd] at q
  obtain ⟨w, S1, ew, q1⟩ := post_ok q
  obtain ⟨items, ei, q2⟩ := post_opt1 q1
  have q2 : ∀ J H' η', Grow η H η' H' → SR X.K ca η' H' S1 → Yields X.K ca η' H' J items → R J H' := q2
  have go : ∀ {Q : VK}, (∀ v H1 η1, Grow η H η1 H1 → SR X.K ca η1 H1 S1 → RW X.K η1 H1 v w → Q v H1) → tE X.K ca me σ H Q := fun k => ⟨ρ, S, η, er, sr, by rw [ew]; exact fun v H1 η1 g s1 r => k v H1 η1 g s1 r⟩
  unfold itemsOf at ei
  split at ei <;> first
    | (cases ei; done)
    | (rename_i e1 e2; cases e1; done)
    | skip
  · rename_i e1; cases e1; cases ei
    refine .inl (go fun v H1 η1 g s1 r => ?_)
    cases r with
    | d r => cases r with
      | lst a b => exact ⟨_, rfl, ⟨_, a.sq⟩, q2 _ H1 η1 g s1 (yl_list a b)⟩
  · rename_i e1; cases e1; cases ei
    refine .inr (.inl (go fun v H1 η1 g s1 r => ?_))
    cases r with
    | d r => cases r with
      | tup a b => exact ⟨_, rfl, ⟨_, a.sq⟩, q2 _ H1 η1 g s1 (yl_tup a b)⟩
  · rename_i e1; cases e1; cases ei
    refine .inr (.inr (go fun v H1 η1 g s1 r => ?_))
    cases r with
    | d r => cases r with
      | str x => exact ⟨_, rfl, q2 _ H1 η1 g s1 yl_str⟩
theorem rs_two {K : PySem.W.Frag} {η : Zs} {H : Hp} {vs : List V} {x y : D} (r : RWs K η H vs [.d x, .d y]) : ∃ v w, vs = [v, w] ∧ Rp K η H v x ∧ Rp K η H w y := by
  cases r with
  | cons r1 t => cases t with
    | cons r2 t => cases t; cases r1 with
      | d r1 => cases r2 with
        | d r2 => exact ⟨_, _, rfl, r1, r2⟩
theorem rs_one {K : PySem.W.Frag} {η : Zs} {H : Hp} {vs : List V} {x : D} (r : RWs K η H vs [.d x]) : ∃ v, vs = [v] ∧ Rp K η H v x := by
  cases r with
  | cons r1 t => cases t; cases r1 with
    | d r1 => exact ⟨_, rfl, r1⟩
theorem ia_seq {σ : Sg} {H : Hp} {R : It → Hp → Prop} {ik : IK} {K : PySem.W.Frag} (q : iW K ca (fun ρ => bnd (ms ρ) fun ws => opt (itemsOf ik ws)) σ H R) :
    ∃ ws items, itemsOf ik ws = some items ∧ ∀ Q : List V → Hp → Prop, (∀ vs H1 η1 S1, SR K ca η1 H1 S1 → RWs K η1 H1 vs ws → (∀ J, Yields K ca η1 H1 J items → R J H1) → Q vs H1) → tA K ca ms σ H Q := by
  obtain ⟨ρ, S, η, er, sr, q⟩ := q
  have q : post (bnd (ms ρ) (fun ws => opt (itemsOf ik ws)) S) (fun items S' => ∀ J H' η', Grow η H η' H' → SR K ca η' H' S' → Yields K ca η' H' J items → R J H') := q
  rw [post_bnd] at q
  obtain ⟨ws, S1, ew, q1⟩ := post_ok q
  obtain ⟨items, ei, q2⟩ := post_opt1 q1
  have q2 : ∀ J H' η', Grow η H η' H' → SR K ca η' H' S1 → Yields K ca η' H' J items → R J H' := q2
  exact ⟨ws, items, ei, fun Q k => ⟨ρ, S, η, er, sr, by rw [ew]; exact fun vs H1 η1 g s1 r => k vs H1 η1 S1 s1 r fun J y => q2 J H1 η1 g s1 y⟩⟩
theorem i_rng1 {a : Expr} (hg : Gl X "range") (hm : X.mg "range" = none) (ha : PA X [a] (tA X.K ca ms)) (hs : starEach [a] X.env = [(false, eval a X.env)]) :
    PI X tg (.Call (.Name "range" p) [a] [] pos) (iW X.K ca fun ρ => bnd (ms ρ) fun ws => match ws with
      | [w] => opt (itemsOf .rng [w])
      | _ => bad) := by
  refine PI.of (pi_range1 hg hm ha hs) fun σ H R q => ?_
  obtain ⟨ρ, S, η, er, sr, q⟩ := q
  have q : post (bnd (ms ρ) (fun ws => match ws with
      | [w] => opt (itemsOf .rng [w])
      | _ => bad) S) (fun items S' => ∀ J H' η', Grow η H η' H' → SR X.K ca η' H' S' → Yields X.K ca η' H' J items → R J H') := q
  rw [post_bnd] at q
  obtain ⟨ws, S1, ew, q1⟩ := post_ok q
  refine ⟨ρ, S, η, er, sr, ?_⟩
  rw [ew]
  intro vs H1 η1 g s1 r
  cases r with
  | nil => exact q1.elim
  | @cons v _ w _ r1 t => cases t with
    | cons _ _ => exact q1.elim
    | nil =>
      have q1 : post (opt (itemsOf .rng [w]) S1) (fun items S' => ∀ J H' η', Grow η H η' H' → SR X.K ca η' H' S' → Yields X.K ca η' H' J items → R J H') := q1
      obtain ⟨items, ei, q2⟩ := post_opt1 q1
      have q2 : ∀ J H' η', Grow η H η' H' → SR X.K ca η' H' S1 → Yields X.K ca η' H' J items → R J H' := q2
      cases r1 with
      | r _ => cases ei
      | @d _ d r1 => cases r1 with
        | int n =>
          unfold itemsOf at ei
          obtain ⟨c, e⟩ := ite_some ei
          subst e
          refine ⟨n, rfl, c.1, c.2, q2 _ H1 η1 g s1 ?_⟩
          have y := yl_rng (K := X.K) (ca := ca) (η := η1) (H := H1) (lo := 0) (n := n.toNat)
          simpa using y
        | _ => cases ei
theorem i_rng2 {a b : Expr} (hg : Gl X "range") (hm : X.mg "range" = none) (ha : PA X [a, b] (tA X.K ca ms)) (hs : starEach [a, b] X.env = [(false, eval a X.env), (false, eval b X.env)]) (hs2 : starEach [b] X.env = [(false, eval b X.env)]) :
    PI X tg (.Call (.Name "range" p) [a, b] [] pos) (iW X.K ca fun ρ => bnd (ms ρ) fun ws => match ws with
      | [w, u] => opt (itemsOf .rng [w, u])
      | _ => bad) := by
  refine PI.of (pi_range2 hg hm ha hs hs2) fun σ H R q => ?_
  obtain ⟨ρ, S, η, er, sr, q⟩ := q
  have q : post (bnd (ms ρ) (fun ws => match ws with
      | [w, u] => opt (itemsOf .rng [w, u])
      | _ => bad) S) (fun items S' => ∀ J H' η', Grow η H η' H' → SR X.K ca η' H' S' → Yields X.K ca η' H' J items → R J H') := q
  rw [post_bnd] at q
  obtain ⟨ws, S1, ew, q1⟩ := post_ok q
  refine ⟨ρ, S, η, er, sr, ?_⟩
  rw [ew]
  intro vs H1 η1 g s1 r
  cases r with
  | nil => exact q1.elim
  | @cons v _ w _ r1 t => cases t with
    | nil => exact q1.elim
    | @cons v2 _ w2 _ r2 t => cases t with
      | cons _ _ => exact q1.elim
      | nil =>
        have q1 : post (opt (itemsOf .rng [w, w2]) S1) (fun items S' => ∀ J H' η', Grow η H η' H' → SR X.K ca η' H' S' → Yields X.K ca η' H' J items → R J H') := q1
        obtain ⟨items, ei, q2⟩ := post_opt1 q1
        have q2 : ∀ J H' η', Grow η H η' H' → SR X.K ca η' H' S1 → Yields X.K ca η' H' J items → R J H' := q2
        cases r1 with
        | r _ => cases ei
        | @d _ d r1 => cases r2 with
          | r _ => cases r1 <;> cases ei
          | @d _ d2 r2 => cases r1 with
            | int n => cases r2 with
              | int n2 =>
                unfold itemsOf at ei
                obtain ⟨c, e⟩ := ite_some ei
                subst e
                exact ⟨n, n2, rfl, c, q2 _ H1 η1 g s1 yl_rng⟩
              | _ => cases ei
            | _ => cases ei
theorem i_enum {a : Expr} {elts : List Expr} {kk : Nat} {tpos : Pos} (hg : Gl X "enumerate") (hm : X.mg "enumerate" = none) (ha : PA X [a] (tA X.K ca ms)) (hs : starEach [a] X.env = [(false, eval a X.env)]) :
    PI X (.Tuple elts kk tpos) (.Call (.Name "enumerate" p) [a] [] pos) (iW X.K ca fun ρ => bnd (ms ρ) fun ws => opt (itemsOf .enum ws)) := by
  refine PI.of (PI.or (pi_enum hg hm ha hs) (pi_enumT hg hm ha hs)) fun σ H R q => ?_
  obtain ⟨ws, items, ei, k⟩ := ia_seq q
  unfold itemsOf at ei
  split at ei <;> first
    | (cases ei; done)
    | (rename_i e1; cases e1; done)
    | skip
  · cases ei
    refine .inl (k _ fun vs H1 η1 S1 s1 r y => ?_)
    obtain ⟨v, rfl, rr⟩ := rs_one r
    cases rr with
    | lst a b => exact ⟨_, _, rfl, a.sq, y _ (yl_enum a b)⟩
  · cases ei
    refine .inr (k _ fun vs H1 η1 S1 s1 r y => ?_)
    obtain ⟨v, rfl, rr⟩ := rs_one r
    cases rr with
    | tup a b => exact ⟨_, _, rfl, a.sq, y _ (yl_enumT a b)⟩
theorem i_zip {a b : Expr} {elts : List Expr} {kk : Nat} {tpos : Pos} (hg : Gl X "zip") (hm : X.mg "zip" = none) (ha : PA X [a, b] (tA X.K ca ms)) (hs : starEach [a, b] X.env = (false, eval a X.env) :: starEach [b] X.env) (hpl : (backTo pos (starEach [b] X.env)).any (·.1) = false) :
    PI X (.Tuple elts kk tpos) (.Call (.Name "zip" p) [a, b] [] pos) (iW X.K ca fun ρ => bnd (ms ρ) fun ws => opt (itemsOf .zip ws)) := by
  refine PI.of (RZ.pi_zipA hg hm ha hs hpl) fun σ H R q => ?_
  obtain ⟨ws, items, ei, k⟩ := ia_seq q
  unfold itemsOf at ei
  split at ei <;> first
    | (cases ei; done)
    | (rename_i e1; cases e1; done)
    | skip
  · cases ei
    refine k _ fun vs H1 η1 S1 s1 r y => ?_
    obtain ⟨v, w, rfl, r, r'⟩ := rs_two r
    cases r with
    | lst a b => cases r' with
      | lst a' b' => exact ⟨_, _, _, _, rfl, .inl ⟨a.sq, a'.sq, y _ (yl_zip a a' b b')⟩⟩
  · cases ei
    refine k _ fun vs H1 η1 S1 s1 r y => ?_
    obtain ⟨v, w, rfl, r, r'⟩ := rs_two r
    cases r with
    | tup a b => cases r' with
      | tup a' b' => exact ⟨_, _, _, _, rfl, .inr ⟨a.sq, a'.sq, y _ (yl_zipT a a' b b')⟩⟩
/-! ### built-ins -/
theorem tA_call {K : PySem.W.Frag} {f : B1} {σ : Sg} {H : Hp} {Q : VK} (q : tE K ca (fun ρ => bnd (ms ρ) fun ws => b1W f ws) σ H Q) : tCB (rWs K ca (b1W f)) (tA K ca ms) σ H Q := by
  obtain ⟨ρ, S, η, er, sr, q⟩ := q
  refine tA_seq er sr q fun ws S1 vs H1 η1 g er1 sr1 r1 q1 => ?_
  exact ⟨η1, S1, ws, sr1, r1, q1.imp fun _ _ z => z.mono g⟩
theorem e_biB {f : B1} {id : String} {x : Str} {a : Expr} {es : List Expr} (hc : CallR X (.builtin id) (rWs X.K ca (b1W f))) (hg : Gl X x) (hm : X.mg x = none) (hv : bootBuiltins x = some (.builtin id)) (ha : PA X (a :: es) (tA X.K ca ms)) (hn : x ≠ "__name__") (hdb : (x == ("__debug__" : Str)) = false)
    (he : starEach (a :: es) X.env = (false, eval a X.env) :: starEach es X.env) (hpl : (backTo pos (starEach es X.env)).any (·.1) = false) : PE X (.Call (.Name x p) (a :: es) [] pos) (tE X.K ca fun ρ => bnd (ms ρ) fun ws => b1W f ws) :=
  PE.of (pe_callB hc hg hm hv ha hn hdb he hpl) fun _ _ _ q => tA_call q
theorem e_biT {f : B1} {T : String} {x : Str} {a : Expr} {es : List Expr} (hc : CallR X (.type T) (rWs X.K ca (b1W f))) (hg : Gl X x) (hm : X.mg x = none) (hv : bootBuiltins x = some (.type T)) (ha : PA X (a :: es) (tA X.K ca ms)) (hn : x ≠ "__name__") (hdb : (x == ("__debug__" : Str)) = false)
    (he : starEach (a :: es) X.env = (false, eval a X.env) :: starEach es X.env) (hpl : (backTo pos (starEach es X.env)).any (·.1) = false) : PE X (.Call (.Name x p) (a :: es) [] pos) (tE X.K ca fun ρ => bnd (ms ρ) fun ws => b1W f ws) :=
  PE.of (pe_callTy hc hg hm hv ha hn hdb he hpl) fun _ _ _ q => tA_call q
/-- isinstance(a, T) -/
theorem pe_tyn {T : String} {x : Str} (hg : Gl X x) (hm : X.mg x = none) (hv : bootBuiltins x = some (.type T)) (hn : x ≠ "__name__") (hdb : (x == ("__debug__" : Str)) = false) : PE X (.Name x p) (tC (.ty T)) :=
  ⟨fun pins s σ H Q I h => ld_blt I hg hm hv ⟨.ty T, H, I, rfl, h⟩ hn hdb⟩
theorem e_isi {T : String} {x : Str} {a : Expr} {p2 : Pos} (hg : Gl X "isinstance") (hm : X.mg "isinstance" = none) (hb : bootBuiltins "isinstance" = some (.builtin "isinstance")) (hg2 : Gl X x) (hm2 : X.mg x = none) (hv : bootBuiltins x = some (.type T)) (hn : x ≠ "__name__") (hdb : (x == ("__debug__" : Str)) = false) (ha : PE X a (tE X.K ca me))
    (he : starEach [a, .Name x p2] X.env = (false, eval a X.env) :: starEach [.Name x p2] X.env) (he2 : starEach [.Name x p2] X.env = (false, eval (.Name x p2) X.env) :: starEach [] X.env) (hpl : (backTo pos (starEach [.Name x p2] X.env)).any (·.1) = false) :
    PE X (.Call (.Name "isinstance" p) [a, .Name x p2] [] pos) (tE X.K ca fun ρ => bnd (me ρ) fun w => b1W (.isI T) [w]) := by
  refine PE.of (pe_callB (isi_ok (ca := ca) (T := T)) hg hm hb (pa_cons ha (pa_cons (pe_tyn hg2 hm2 hv hn hdb) pa_nil he2) he) (by decide) (by decide) he hpl) fun σ H Q q => ?_
  obtain ⟨ρ, S, η, er, sr, q⟩ := q
  refine tE_seq er sr q fun w S1 v H1 η1 g er1 sr1 r1 q1 => ?_
  exact ⟨v, rfl, η1, S1, w, sr1, r1, q1.imp fun _ _ z => z.mono g⟩
end
end MP

/-! What is walked; built-ins; methods; f-strings; op=. -/
namespace MP
open PySem L2 PySem.Spec PyProof.Rows
section
variable {X : Cx} {ca : Nat → Addr} {pos p : Pos} {e : Expr} {me : Sl → M W} {tg : Expr} {ms : Sl → M (List W)}
/-! ### methods -/
theorem rcv_app {x : W} {S S' : Sto} {u : Unit} (h : rcv .append x S = some (.ok u S')) : ∃ i xs, x = .r i ∧ S[i]? = some (.lst xs) ∧ S' = S := by
  cases x with
  | d _ => cases h
  | r i =>
    unfold rcv at h
    dsimp only at h
    split at h
    · cases h; exact ⟨i, _, rfl, by assumption, rfl⟩
    · cases h
theorem rcv_sd {x : W} {S S' : Sto} {u : Unit} (h : rcv .setdefault x S = some (.ok u S')) : ∃ i xs, x = .r i ∧ S[i]? = some (.dk xs) ∧ S' = S := by
  cases x with
  | d _ => cases h
  | r i =>
    unfold rcv at h
    dsimp only at h
    split at h
    · cases h; exact ⟨i, _, rfl, by assumption, rfl⟩
    · cases h
theorem e_app {o a : Expr} {mo ma : Sl → M W} {apos cpos : Pos} (ho : PE X o (tE X.K ca mo)) (ha : PE X a (tE X.K ca ma)) (hs1 : starEach [a] X.env = (false, eval a X.env) :: starEach [] X.env)
    (hbase : attributeBase o "append" X.env (eval o X.env) = eval o X.env)
    (hfew : ((backTo cpos (starEach [a] X.env)).all (fun x => !x.1) && (backToKw cpos (keywordEach [] X.env)).all (fun x => x.1.isSome)
      && decide (([a] : List Expr).length + ([] : List Keyword).length + (if ([] : List Keyword).isEmpty then 0 else 1) < 30)) = true)
    (hline : (apos.endLine == cpos.line) = true) (hplain : (backTo cpos (starEach [] X.env)).any (·.1) = false) :
    PE X (.Call (.Attribute o "append" apos) [a] [] cpos) (tE X.K ca fun ρ => bnd (mo ρ) fun x => bnd (rcv .append x) fun _ => bnd (ma ρ) fun w => meW .append x [w]) := by
  refine PE.of (pe_bm PySem.F.plainAttrs_list PySem.F.slot_list_append PySem.F.type_list_append (me_append (ca := ca)) ho (a_cons ha a_nil hs1) hbase hfew hline hs1 hplain) fun σ H Q q => ?_
  obtain ⟨ρ, S, η, er, sr, q⟩ := q
  refine tE_seq er sr q fun x S1 v H1 η1 g er1 sr1 r1 q1 => ?_
  have q1 : post (bnd (rcv .append x) (fun _ => bnd (ma ρ) fun w => meW .append x [w]) S1) (qW X.K ca η H Q) := q1
  rw [post_bnd] at q1
  obtain ⟨u, S2, ew, qz⟩ := post_ok q1
  clear q1
  obtain ⟨i, xs, rfl, es, rfl⟩ := rcv_app ew
  cases r1 with
  | @r i a0 ea =>
    obtain ⟨vs, hv, kr⟩ := sr1.at ea es
    refine ⟨.inl ⟨rfl, vs, .inl (.inl hv)⟩, ?_⟩
    rw [post_bnd] at qz
    refine ⟨ρ, S2, η1, er1, sr1, ?_⟩
    show post (bnd (ma ρ) (fun w => bnd (ret []) fun ws => ret (w :: ws)) S2) _
    rw [post_bnd]
    refine qz.imp fun w S3 q3 vs2 H2 η2 g2 sr2 r2 => ?_
    exact ⟨η2, S3, .r i, [w], sr2, RW.grow g2 (.r ea), r2, q3.imp fun _ _ z => z.mono (g.trans g2)⟩
theorem look_none_any {κ β : Type} [DecidableEq κ] {k : κ} : ∀ {kvs : List (κ × β)}, look k kvs = none → (kvs.any fun kv => decide (kv.1 = k)) = false
  | [], _ => rfl
  | (j, x) :: r, h => by
    unfold look at h
    by_cases e : j = k
    · rw [if_pos e] at h; cases h
    · rw [if_neg e] at h
      rw [List.any_cons, look_none_any h]
      simp [e]
theorem e_sd {o a b : Expr} {mo ma mb : Sl → M W} {apos cpos : Pos} (ho : PE X o (tE X.K ca mo)) (ha : PE X a (tE X.K ca ma)) (hb : PE X b (tE X.K ca mb)) (m : M2 X o "setdefault" apos a b cpos) :
    PE X (.Call (.Attribute o "setdefault" apos) [a, b] [] cpos) (tE X.K ca fun ρ => bnd (mo ρ) fun x => bnd (rcv .setdefault x) fun _ => bnd (ma ρ) fun y => bnd (mb ρ) fun z => meW .setdefault x [y, z]) := by
  refine PE.of (pe_dsetd ho ha hb m) fun σ H Q q => ?_
  obtain ⟨ρ, S, η, er, sr, q⟩ := q
  refine tE_seq er sr q fun x S1 v H1 η1 g er1 sr1 r1 q1 => ?_
  have q1 : post (bnd (rcv .setdefault x) (fun _ => bnd (ma ρ) fun y => bnd (mb ρ) fun z => meW .setdefault x [y, z]) S1) (qW X.K ca η H Q) := q1
  rw [post_bnd] at q1
  obtain ⟨u, S2, ew, qz⟩ := post_ok q1
  clear q1
  obtain ⟨i, kvs, rfl, es, rfl⟩ := rcv_sd ew
  cases r1 with
  | @r i a0 ea =>
    obtain ⟨vs, hv, kr⟩ := sr1.at ea es
    refine ⟨a0, rfl, .inl ⟨vs, .inl hv⟩, ?_⟩
    refine tE_seq er1 sr1 qz fun y S2 v2 H2 η2 g2 er2 sr2 r2 q2 => ?_
    refine tE_seq er2 sr2 q2 fun z S3 v3 H3 η3 g3 er3 sr3 r3 q3 => ?_
    have ea3 : η3.l[i]? = some a0 := g3.at (g2.at ea)
    cases r2 with
    | r _ => exact q3.elim
    | @d _ k r2 =>
      have q3 : post (match S3[i]?, keyD k with
        | some (.dk kvs), some k => if kvs.length < SZ then
            match look k kvs with
            | some x => some (Out.ok x S3)
            | none => some (Out.ok z (S3.set i (.dk (kvs ++ [(k, z)]))))
          else none
        | _, _ => none) (qW X.K ca η H Q) := q3
      split at q3
      · rename_i kvs3 k' es3 ek
        obtain ⟨vs3, hv3, kr3⟩ := sr3.at ea3 es3
        have gg := (g.trans g2).trans g3
        split at q3
        · rename_i hz
          have ey := keyD_rel r2 ek
          obtain ⟨l1, l2⟩ := kr3.look (k := k')
          refine ⟨vs3, k', hv3, ey, szl' (by rw [kr3.length]; exact hz), fun u hu => ?_, fun hu => ?_⟩
          · cases el : look k' kvs3 with
            | none => rw [l2 el] at hu; cases hu
            | some w0 =>
              rw [el] at q3
              obtain ⟨v0, e0, r0⟩ := l1 w0 el
              rw [e0] at hu
              cases hu
              exact q3 _ H3 η3 gg sr3 r0
          · cases el : look k' kvs3 with
            | some w0 =>
              obtain ⟨v0, e0, r0⟩ := l1 w0 el
              rw [e0] at hu; cases hu
            | none =>
              rw [el] at q3
              have g4 := grow_set (o := .dK (putK vs3 k' v3)) sr3 ea3
              have ep : kvs3 ++ [(k', z)] = put kvs3 k' z := by
                unfold put
                rw [look_none_any el]
                rfl
              refine q3 _ _ η3 (gg.trans g4) (sr3.set ea3 ?_) (r3.grow g4)
              rw [ep]
              exact ⟨_, upd_same, KR.put (r3.grow g4) (kr3.grow g4)⟩
        · exact q3.elim
      · exact q3.elim
end
end MP

/-! What is walked; built-ins; methods; f-strings; op=. -/
namespace MP
open PySem L2 PySem.Spec PyProof.Rows
section
variable {X : Cx} {ca : Nat → Addr} {pos p : Pos} {e : Expr} {me : Sl → M W} {tg : Expr} {ms : Sl → M (List W)}
/-! ### f-strings -/
theorem e_fmt {a : Expr} {ma : Sl → M W} (ha : PE X a (tE X.K ca ma)) : PE X (.FormattedValue a (-1) none pos) (tE X.K ca fun ρ => bnd (ma ρ) fun w => b1W .fmt [w]) := by
  refine PE.of (pe_fmt ha) fun σ H Q q => ?_
  obtain ⟨ρ, S, η, er, sr, q⟩ := q
  refine tE_seq er sr q fun x S1 v H1 η1 g er1 sr1 r1 q1 => ?_
  rw [b1_only (by intro z; cases z) (by intro z; cases z)] at q1
  cases r1 with
  | r _ => exact q1.elim
  | @d _ d r =>
    have q1 : post (((fmtD d).map PyData.str).map fun y => Out.ok (W.d y) S1) (qW X.K ca η H Q) := q1
    obtain ⟨y, ey, q2⟩ := post_map _ _ _ q1
    obtain ⟨z, e1, e2⟩ := Option.map_eq_some_iff.mp ey
    subst e2
    cases r with
    | str y0 =>
      obtain ⟨c, e1⟩ := ite_some e1
      subst e1
      exact .inl ⟨y0, rfl, szl c, qW.same (qW.mono g q2) sr1 (.d (.str _))⟩
    | int i =>
      obtain ⟨c, e1⟩ := ite_some e1
      subst e1
      exact .inr ⟨i, rfl, c, qW.same (qW.mono g q2) sr1 (.d (.str _))⟩
    | _ => cases e1
inductive PJs (X : Cx) (ca : Nat → Addr) : List Expr → (Sl → M (List W)) → Prop where
  | nil : PJs X ca [] (fun _ => ret [])
  | cons {e : Expr} {m : Sl → M W} {es : List Expr} {r : Sl → M (List W)} (h : PE X e (tE X.K ca m)) (t : PJs X ca es r) : PJs X ca (e :: es) (fun ρ => bnd (m ρ) fun w => bnd (r ρ) fun ws => ret (w :: ws))
def joinM (ws : List W) (acc : Str) : M Str := match dataOf ws with
  | none => bad
  | some xs => match joinD xs acc with
    | none => bad
    | some z => ret z
theorem dataOf_cons {w : W} {ws : List W} {xs : List D} (h : dataOf (w :: ws) = some xs) : ∃ x r, w = .d x ∧ dataOf ws = some r ∧ xs = x :: r := by
  cases w with
  | r _ => cases h
  | d x =>
    unfold dataOf at h
    obtain ⟨m, e1, e2⟩ := Option.map_eq_some_iff.mp h
    exact ⟨x, m, rfl, e1, e2.symm⟩
theorem pj_of {es : List Expr} {ms : Sl → M (List W)} (h : PJs X ca es ms) : ∃ ts, PJ X es ts ∧ ∀ acc σ H Q ρ S η, ER X.K η H σ ρ → SR X.K ca η H S → post (bnd (ms ρ) (fun ws => joinM ws acc) S) (fun z S' => ∀ H' η', Grow η H η' H' → SR X.K ca η' H' S' → Q z H') → tJs ts acc σ H Q := by
  induction h with
  | nil => exact ⟨[], .nil, fun acc σ H Q ρ S η er sr q => q H η (Grow.refl _ _) sr⟩
  | @cons e m es r he t ih =>
    obtain ⟨ts, h1, h2⟩ := ih
    refine ⟨_, .cons he h1, fun acc σ H Q ρ S η er sr q => ?_⟩
    rw [bnd_assoc] at q
    refine tE_seq er sr q fun x S1 v H1 η1 g er1 sr1 r1 q1 => ?_
    rw [bnd_assoc] at q1
    have q1 : post (bnd (r ρ) (fun ws => joinM (x :: ws) acc) S1) _ := q1
    rw [post_bnd] at q1
    obtain ⟨ws, S2, ew, q2⟩ := post_ok q1
    unfold joinM at q2
    cases ed : dataOf (x :: ws) with
    | none => rw [ed] at q2; exact q2.elim
    | some xs =>
      rw [ed] at q2
      obtain ⟨d, rs, rfl, e2, rfl⟩ := dataOf_cons ed
      cases d with
      | str y =>
        have q2 : post ((match (if (acc ++ y).length ≤ SZ then joinD rs (acc ++ y) else none) with
          | none => bad
          | some z => ret z : M Str) S2) (fun z S' => ∀ H' η', Grow η H η' H' → SR X.K ca η' H' S' → Q z H') := q2
        by_cases hz : (acc ++ y).length ≤ SZ
        · rw [if_pos hz] at q2
          cases r1 with
          | d r1 => cases r1 with
            | str _ =>
              refine ⟨y, rfl, szl hz, h2 _ _ _ _ ρ S1 η1 er1 sr1 ?_⟩
              rw [post_bnd, ew]
              show post (joinM ws (acc ++ y) S2) _
              unfold joinM
              rw [e2]
              exact q2.imp fun z S3 k H3 η3 g3 sr3 => k H3 η3 (g.trans g3) sr3
        · rw [if_neg hz] at q2
          exact q2.elim
      | _ => exact q2.elim
theorem e_fs {e1 e2 : Expr} {es : List Expr} (h : PJs X ca (e1 :: e2 :: es) ms) : PE X (.JoinedStr (e1 :: e2 :: es) pos) (tE X.K ca fun ρ => bnd (ms ρ) fun ws => bnd (joinM ws Str.empty) fun z => ret (.d (.str z))) := by
  obtain ⟨ts, h1, h2⟩ := pj_of h
  refine PE.of (pe_joined h1) fun σ H Q q => ?_
  obtain ⟨ρ, S, η, er, sr, q⟩ := q
  refine h2 _ _ _ _ ρ S η er sr ?_
  have q : post (bnd (ms ρ) (fun ws => bnd (joinM ws Str.empty) fun z => ret (.d (.str z))) S) (qW X.K ca η H Q) := q
  rw [← bnd_assoc, post_bnd] at q
  exact q.imp fun z S1 k H1 η1 g1 sr1 => k _ H1 η1 g1 sr1 (.d (.str _))
theorem e_fs1 {e1 : Expr} {m : Sl → M W} (h : PE X e1 (tE X.K ca m)) : PE X (.JoinedStr [e1] pos) (tE X.K ca m) := pe_joined1 h
end
end MP

/-! List comprehensions. -/
namespace MP
open PySem L2 PySem.Spec PyProof.Rows
theorem wipe_at {σ : Sg} : ∀ {vs : List Nat} {i : Nat}, (wipe σ vs)[i]? = if i ∈ vs then σ[i]?.map fun _ => none else σ[i]?
  | [], i => by simp [wipe]
  | v :: vs, i => by
    unfold wipe
    by_cases e : v = i
    · subst e
      rw [if_pos (List.mem_cons_self)]
      by_cases hl : v < σ.length
      · rw [List.getElem?_set_self (by rw [wipe_length]; exact hl), List.getElem?_eq_getElem hl]; rfl
      · rw [List.getElem?_eq_none (by rw [List.length_set, wipe_length]; omega), List.getElem?_eq_none (by omega)]; rfl
    · rw [List.getElem?_set_ne e, wipe_at (vs := vs)]
      have : i ∈ v :: vs ↔ i ∈ vs := ⟨fun m => (List.mem_cons.mp m).elim (fun z => absurd z.symm e) id, List.mem_cons_of_mem _⟩
      by_cases hm : i ∈ vs
      · rw [if_pos hm, if_pos (this.mpr hm)]
      · rw [if_neg hm, if_neg (fun z => hm (this.mp z))]
theorem wipe_same {σ σ2 : Sg} {vs : List Nat} (hl : σ2.length = σ.length) (h : ∀ i, i ∉ vs → σ2[i]? = (wipe σ vs)[i]?) : wipe σ2 vs = wipe σ vs := by
  refine List.ext_getElem? fun i => ?_
  rw [wipe_at, wipe_at]
  by_cases hm : i ∈ vs
  · rw [if_pos hm, if_pos hm]
    by_cases hi : i < σ.length
    · rw [List.getElem?_eq_getElem hi, List.getElem?_eq_getElem (by omega)]; rfl
    · rw [List.getElem?_eq_none (by omega), List.getElem?_eq_none (by omega)]
  · rw [if_neg hm, if_neg hm, h i hm, wipe_at, if_neg hm]
theorem bindL_len : ∀ {is : List Nat} {xs : List D} {ρ ρ' : Sl}, bindL is xs ρ = some ρ' → ρ'.length = ρ.length
  | [], [], _, _, e => by cases e; rfl
  | [], _ :: _, _, _, e => by cases e
  | _ :: _, [], _, _, e => by cases e
  | i :: is, x :: xs, ρ, ρ', e => by
    rw [bindL_len (is := is) (xs := xs) (ρ := ρ.set i (some (.d x))) e, List.length_set]
theorem bindP_len {p : P} {w : W} {ρ ρ' : Sl} (e : bindP p w ρ = some ρ') : ρ'.length = ρ.length := by
  unfold bindP at e
  split at e
  · cases e; rw [List.length_set]
  · exact bindL_len e
  · cases e
theorem wipeW_len {ρ : Sl} : ∀ vs : List Nat, (wipeW ρ vs).length = ρ.length
  | [] => rfl
  | v :: vs => by unfold wipeW; rw [List.length_set, wipeW_len vs]
/-- one turn of a comprehension -/
def lcT (p : P) (own : List Nat) (mt : Sl → M Bool) (me : Sl → M W) (ρ : Sl) (x : D) : M (Option D) := bnd (opt (bindP p (.d x) (wipeW ρ own))) fun ρ' =>
  bnd (mt ρ') fun t => if t = true then bnd (me ρ') fun y => bnd (asD y) fun z => ret (some z) else ret none
def lcE (mi : Sl → M (List D)) (p : P) (own : List Nat) (mt : Sl → M Bool) (me : Sl → M W) : Sl → M W := fun ρ => bnd (mi ρ) fun items => bnd (lcM (lcT p own mt me ρ) items) sizeOk
section
variable {X : Cx} {ca : Nat → Addr}
theorem PTs.of {e : List Expr} {t t' : TT} (h : PTs X e t) (k : ∀ σ H Q, t' σ H Q → t σ H Q) : PTs X e t' := ⟨fun pins s σ H Q I q => h.run pins s σ H Q I (k σ H Q q)⟩
theorem c_nil : PTs X [] (tT X.K ca fun _ => ret true) := by
  refine PTs.of pts_nil fun σ H Q q => ?_
  obtain ⟨ρ, S, η, er, sr, q⟩ := q
  exact q H η (Grow.refl _ _) sr
theorem c_one {c : Expr} {m : Sl → M Bool} (h : PT X c (tT X.K ca m)) : PTs X [c] (tT X.K ca m) := pts_one h
theorem tLc_of {K : PySem.W.Frag} {mi : Sl → M (List D)} {p : P} {own : List Nat} {mt : Sl → M Bool} {me : Sl → M W} (hp : ∀ i ∈ p.slots, i ∈ own) {σ : Sg} {H : Hp} {Q : VK} (q : tE K ca (lcE mi p own mt me) σ H Q) :
    tLc (iW K ca mi) (gW K p) (tT K ca mt) (tE K ca me) own σ H Q := by
  obtain ⟨ρ, S, η, er, sr, q⟩ := q
  have q : post (bnd (mi ρ) (fun items => bnd (lcM (lcT p own mt me ρ) items) sizeOk) S) (qW K ca η H Q) := q
  rw [post_bnd] at q
  refine ⟨ρ, S, η, er, sr, q.imp fun items S1 q1 J H1 η1 g1 sr1 yl L hL => ?_⟩
  rw [post_bnd] at q1
  have gt := grow_tmp (η := η1) (o := .lst []) hL
  have nt : L ∉ η.t := fun m => by
    obtain ⟨_, u, e⟩ := sr1.tmp L (g1.tk L m)
    rw [hL] at e; cases e
  refine ⟨fun i n H2 => i + n = items.length ∧ ∃ S2 η2, Grow η1 H1 η2 H2 ∧ L ∈ η2.t ∧ SR K ca η2 H2 S2 ∧ ∃ av ad, H2 L = some (.lst av) ∧ RpAll K η2 H2 av ad ∧
      post (lcM (lcT p own mt me ρ) (items.drop i) S2) (fun ys S3 => post (sizeOk (ad ++ ys) S3) (qW K ca η H Q)),
    ⟨items.length, by omega, S1, η1.tmp L, gt, List.mem_cons_self, sr1.up hL, [], [], upd_same, .nil, q1⟩, fun i n H2 w => ?_⟩
  obtain ⟨hn, S2, η2, g12, mL, sr2, av, ad, eL, ra, q2⟩ := w
  obtain ⟨y1, y2⟩ := yl η2 H2 S2 g12 sr2 i
  by_cases hi : i < items.length
  · refine .inr ⟨(y2 hi).1, fun H3 => ∃ S3 η3, Grow η1 H1 η3 H3 ∧ L ∈ η3.t ∧ SR K ca η3 H3 S3 ∧ ∃ av ad, H3 L = some (.lst av) ∧ RpAll K η3 H3 av ad ∧
      post (lcM (lcT p own mt me ρ) (items.drop (i + 1)) S3) (fun ys S4 => post (sizeOk (ad ++ ys) S4) (qW K ca η H Q)), fun H3 w => ⟨n - 1, by omega, by omega, w⟩, fun x H3 y => ?_⟩
    obtain ⟨d, ed, g3, sr3, rd⟩ := (y2 hi).2 x H3 y
    have e0 : items.drop i = d :: items.drop (i + 1) := by
      rw [List.drop_eq_getElem_cons hi]
      rw [List.getElem?_eq_getElem hi] at ed
      rw [Option.some.inj ed]
    rw [e0] at q2
    unfold lcM at q2
    rw [post_bnd] at q2
    unfold lcT at q2
    obtain ⟨ρ', eb, q3⟩ := post_opt _ _ _ q2
    have g13 := g12.trans g3
    refine ⟨.d d, wipeW ρ own, ρ', η2, .d rd, ((er.grow g1).grow g13).wipe own, eb, fun σ4 er4 hs => ⟨?_, ?_⟩⟩
    · refine wipe_same ?_ fun j hj => hs j fun z => hj (hp j z)
      rw [er4.1, bindP_len eb, wipeW_len, er.1]
    · refine tT_seq er4 sr3 q3 fun b S5 H5 η5 g5 er5 sr5 q5 => ?_
      have gH5 := g12.trans (g3.trans g5)
      have keepL : ∀ {η6 : Zs} {H6 : Hp}, Grow η2 H2 η6 H6 → H6 L = some (.lst av) := fun g6 => (g6.keep L _ eL (sr2.tmp L mL).1).1
      cases b with
      | false =>
        simp only [Bool.false_eq_true, if_false] at q5 ⊢
        have q5 : post (bnd (lcM (lcT p own mt me ρ) (items.drop (i + 1))) (fun ys => ret ys) S5) _ := q5
        rw [post_bnd] at q5
        exact ⟨S5, η5, gH5, (g3.trans g5).tk L mL, sr5, av, ad, keepL (g3.trans g5), RpAll.grow (g3.trans g5) _ _ ra, q5⟩
      | true =>
        simp only [if_true] at q5 ⊢
        refine tE_seq er5 sr5 q5 fun w S6 v H6 η6 g6 er6 sr6 r6 q6 => ?_
        cases r6 with
        | r _ => exact q6.elim
        | @d _ z r6 =>
          have q6 : post (bnd (lcM (lcT p own mt me ρ) (items.drop (i + 1))) (fun ys => ret (z :: ys)) S6) (fun ys S3 => post (sizeOk (ad ++ ys) S3) (qW K ca η H Q)) := q6
          rw [post_bnd] at q6
          have g36 := (g3.trans g5).trans g6
          have mL6 : L ∈ η6.t := g36.tk L mL
          have hz : ad.length < SZ := by
            obtain ⟨ys, S7, _, q7⟩ := post_ok q6
            have q7 : post (sizeOk (ad ++ z :: ys) S7) (qW K ca η H Q) := q7
            unfold sizeOk at q7
            by_cases c : (ad ++ z :: ys).length ≤ SZ
            · rw [List.length_append, List.length_cons] at c; omega
            · rw [if_neg c] at q7; exact q7.elim
          have ra6 := RpAll.grow g36 _ _ ra
          have gw : Grow η1 H1 η6 (upd H6 L (.lst (av ++ [v]))) := by
            have g16 := g12.trans g36
            refine ⟨g16.pre, fun a u e n => ?_, fun a u e n n2 => g16.tm a u e n n2, g16.tk⟩
            have ne : a ≠ L := fun z => by rw [z, hL] at e; cases e
            rw [upd_ne ne]
            exact g16.keep a u e n
          refine ⟨av, keepL g36, szl' (by rw [ra.length]; exact hz), S6, η6, gw, mL6, sr6.wr mL6, av ++ [v], ad ++ [z], upd_same, (RpAll.wr mL6 _ _ ra6).append (.cons (Rp.wr mL6 _ _ r6) .nil), q6.imp fun ys S7 q7 => ?_⟩
          have q7 : post (sizeOk (ad ++ z :: ys) S7) (qW K ca η H Q) := q7
          rw [List.append_assoc]
          exact q7
  · rw [List.drop_of_length_le (by omega)] at q2
    have q2 : post (sizeOk (ad ++ []) S2) (qW K ca η H Q) := q2
    rw [List.append_nil] at q2
    unfold sizeOk at q2
    by_cases c : ad.length ≤ SZ
    · rw [if_pos c] at q2
      have q2 : qW K ca η H Q (.d (.list ad)) S2 := q2
      refine .inl ⟨y1 (by omega), q2 (.ref L) H2 (η2.drp L) (grow_drp (g1.trans g12) nt) sr2.drp (.d (.lst (.inl ⟨.inl eL, (sr2.tmp L mL).1, fun m => ?_⟩) (RpAll.drp _ _ ra)))⟩
      have := (List.mem_filter.mp m).2
      simp at this
    · rw [if_neg c] at q2
      exact q2.elim
theorem e_lc (ck : Ck X) {elt tg iter : Expr} {ifs : List Expr} {scope : Scope} {own : List (Str × Nat)} {pos : Pos} {p : P} {mi : Sl → M (List D)} {mt : Sl → M Bool} {me : Sl → M W} (hi : PI X tg iter (iW X.K ca mi)) (ok : BlkOk X.N X.env.scope scope own) (hp : ∀ i ∈ p.slots, i ∈ own.map (·.2))
    (hg : ∀ (s : Shared) (H : Hp) (C : Addr) (cl : List (Str × Addr)) (fp : List Addr), PG (X.blk s H scope (compEnvC scope cl C X.env) fp) tg (gW X.K p)) (ht : ∀ (s : Shared) (H : Hp) (C : Addr) (cl : List (Str × Addr)) (fp : List Addr), PTs (X.blk s H scope (compEnvC scope cl C X.env) fp) ifs (tT X.K ca mt))
    (he : ∀ (s : Shared) (H : Hp) (C : Addr) (cl : List (Str × Addr)) (fp : List Addr), PE (X.blk s H scope (compEnvC scope cl C X.env) fp) elt (tE X.K ca me)) (hs : ∀ x, foldedSetIterable iter X.env x = pure x) :
    PE X (.ListComp elt [⟨tg, iter, ifs, 0⟩] scope pos) (tE X.K ca (lcE mi p (own.map (·.2)) mt me)) :=
  PE.of (pe_lc ck.calm ck.nd hi ok hg ht he hs) fun _ _ _ q => tLc_of hp q
theorem s_setLc (ck : Ck X) {i : Nat} {y : Str} {py spos : Pos} {elt tg iter : Expr} {ifs : List Expr} {scope : Scope} {own : List (Str × Nat)} {pos : Pos} {p : P} {mi : Sl → M (List D)} {mt : Sl → M Bool} {me : Sl → M W} (hy : X.N[i]? = some y) (hyl : X.env.scope.names.lookup y = some .local)
    (hsw : swapsWith (.ListComp elt [⟨tg, iter, ifs, 0⟩] scope pos) (some (.Name y py)) spos.line X.env = pure true) (hi : PI X tg iter (iW X.K ca mi)) (ok : BlkOk X.N X.env.scope scope own) (hp : ∀ i ∈ p.slots, i ∈ own.map (·.2))
    (hg : ∀ (s : Shared) (H : Hp) (C : Addr) (cl : List (Str × Addr)) (fp : List Addr), PG (X.blk s H scope (compEnvC scope cl C X.env) fp) tg (gW X.K p)) (ht : ∀ (s : Shared) (H : Hp) (C : Addr) (cl : List (Str × Addr)) (fp : List Addr), PTs (X.blk s H scope (compEnvC scope cl C X.env) fp) ifs (tT X.K ca mt))
    (he : ∀ (s : Shared) (H : Hp) (C : Addr) (cl : List (Str × Addr)) (fp : List Addr), PE (X.blk s H scope (compEnvC scope cl C X.env) fp) elt (tE X.K ca me)) (hs : ∀ x, foldedSetIterable iter X.env x = pure x) :
    PS X (.Assign [.Name y py] (.ListComp elt [⟨tg, iter, ifs, 0⟩] scope pos) spos) (tS X.K ca fun ρ => bnd (lcE mi p (own.map (·.2)) mt me ρ) fun w => bnd (opt (bindP (.nm i) w ρ)) fun ρ' => ret (.nx ρ')) := by
  refine PS.of (ps_setLc ck.calm ck.nd hy hyl hsw hi ok hg ht he hs) fun D σ H q => ?_
  obtain ⟨ρ, S, η, er, sr, q⟩ := q
  refine tLc_of hp (tE_seq er sr q fun w S1 v H1 η1 g er1 sr1 r1 q1 => ?_)
  have q1 : qS X.K ca η H D (.nx (ρ.set i (some w))) S1 := q1
  exact q1 H1 η1 g sr1 _ (er1.set r1 i)
end
end MP

/-! Defs, calls, a law's end. -/
namespace MP
open PySem L2 PySem.Spec PyProof.Rows
/-- a def: np parameters, nsl names -/
def fnB (np nsl : Nat) (body : Sl → M Fl) (ws : List W) : M W := fun S => if ws.length = np then
  bnd (body (ws.map some ++ List.replicate (nsl - ws.length) none)) (fun f => match f with
    | .nx _ => finB S.length (.d .none)
    | .rt w => finB S.length w
    | _ => bad) S else none
section
variable {K : PySem.W.Frag} {ca : Nat → Addr} {η : Zs} {H : Hp} {n : Nat}
abbrev Zs.tk (z : Zs) (n : Nat) : Zs := ⟨z.l.take n, z.t⟩
mutual
theorem Rp.tk : ∀ (d : D) (v : V), Rp K η H v d → Rp K (η.tk n) H v d
  | .none, _, h => by cases h; exact .non
  | .bool b, _, h => by cases h; exact .bl b
  | .int i, _, h => by cases h; exact .int i
  | .str x, _, h => by cases h; exact .str x
  | .list ds, _, h => by
    cases h with
    | lst a b => exact .lst (a.elim (fun a => .inl ⟨a.1, fun m => a.2.1 (List.mem_of_mem_take m), a.2.2⟩) .inr) (RpAll.tk ds _ b)
  | .tuple ds, _, h => by
    cases h with
    | tup a b => exact .tup (a.elim (fun a => .inl ⟨a.1, fun m => a.2.1 (List.mem_of_mem_take m), a.2.2⟩) .inr) (RpAll.tk ds _ b)
  | .dict _, _, h => by cases h
theorem RpAll.tk : ∀ (ds : List D) (vs : List V), RpAll K η H vs ds → RpAll K (η.tk n) H vs ds
  | [], _, h => by cases h; exact .nil
  | d :: ds, _, h => by
    cases h with
    | cons a b => exact .cons (Rp.tk d _ a) (RpAll.tk ds _ b)
end
theorem RW.tk {v : V} {w : W} (h : RW K η H v w) (b : w.below n = true) : RW K (η.tk n) H v w := by
  cases h with
  | d r => exact .d (Rp.tk _ _ r)
  | r e =>
    have hn := of_decide_eq_true b
    exact .r (by rw [List.getElem?_take_of_lt hn]; exact e)
theorem RWs.tk : ∀ {vs : List V} {ws : List W}, RWs K η H vs ws → ws.all (W.below n) = true → RWs K (η.tk n) H vs ws
  | _, _, .nil, _ => .nil
  | _, _, .cons r t, b => by
    rw [List.all_cons, Bool.and_eq_true] at b
    exact .cons (r.tk b.1) (RWs.tk t b.2)
theorem KR.tk {κ : Type} : ∀ {vs : List (κ × V)} {ws : List (κ × W)}, KR K η H vs ws → (ws.all fun p => p.2.below n) = true → KR K (η.tk n) H vs ws
  | _, _, .nil, _ => .nil
  | _, _, .cons r t, b => by
    rw [List.all_cons, Bool.and_eq_true] at b
    exact .cons (r.tk b.1) (KR.tk t b.2)
theorem OR.tk {a : Addr} {o : O} (h : OR K ca η H a o) (b : o.below n = true) : OR K ca (η.tk n) H a o := by
  cases o with
  | lst _ => obtain ⟨vs, q, r⟩ := h; exact ⟨vs, q, r.tk b⟩
  | dk _ => obtain ⟨vs, q, r⟩ := h; exact ⟨vs, q, r.tk b⟩
  | dt _ => obtain ⟨vs, q, r⟩ := h; exact ⟨vs, q, r.tk b⟩
  | ins _ _ => obtain ⟨dx, vs, q, r⟩ := h; exact ⟨dx, vs, q, r.tk b⟩
theorem take_at {α : Type} {l : List α} {i : Nat} {a : α} (h : (l.take n)[i]? = some a) : i < n ∧ l[i]? = some a := by
  have hi := (List.getElem?_eq_some_iff.mp h).1
  rw [List.length_take] at hi
  have hn : i < n := by omega
  rw [List.getElem?_take_of_lt hn] at h
  exact ⟨hn, h⟩
theorem SR.tk {S : Sto} (h : SR K ca η H S) (b : (S.take n).all (O.below n) = true) : SR K ca (η.tk n) H (S.take n) := by
  refine ⟨by rw [List.length_take, List.length_take, h.len], h.nd.sublist (List.take_sublist _ _), fun a m => ?_, fun i a o e1 e2 => ?_⟩
  · obtain ⟨x, y⟩ := h.tmp a m
    exact ⟨fun z => x (List.mem_of_mem_take z), y⟩
  · obtain ⟨_, e1⟩ := take_at e1
    exact (h.obj i a o e1 (take_at e2).2).tk (List.all_eq_true.mp b o (List.mem_of_getElem? e2))
theorem qW.left {Q : VK} {w : W} {S : Sto} (h : qW K ca η H Q w (leave η.l.length w S)) {η' : Zs} {H' : Hp} (g : Grow η H η' H') (sr : SR K ca η' H' S) {v : V} (r : RW K η' H' v w) : Q v H' := by
  unfold leave at h
  split at h
  · exact h v H' η' g sr r
  · cases w with
    | r _ => exact h v H' η' g sr r
    | d x =>
      dsimp only at h
      split at h
      · rename_i b
        refine h v H' (η'.tk η.l.length) ⟨?_, fun a o e n => ?_, fun a o e n n2 => g.tm a o e n n2, g.tk⟩ (sr.tk b) (r.tk rfl)
        · obtain ⟨m, e⟩ := g.pre
          refine ⟨[], ?_⟩
          show η'.l.take _ = _
          rw [e, List.take_left', List.append_nil]
          rfl
        · obtain ⟨q, m⟩ := g.keep a o e n
          exact ⟨q, fun z => m (List.mem_of_mem_take z)⟩
      · exact h v H' η' g sr r
end

/-! ### a def's promise -/
structure Gn (P : Program) (w : World) (K : PySem.W.Frag) (mg : Str → Option Value) (base : Heap) (ca : Nat → Addr) (k : Nat) (f : Addr) (fd : FuncData) (ps : List Str) (m : List W → M W) : Prop where
  len : ∀ ws S r, m ws S = some r → ws.length = ps.length
  run : ∀ (A : Around) (outer : List Env) (s : Shared) (H : Hp) (args : Args) (us : List Value) (vs : List V) (Q : VK), Room k A → A.guards = some [] → Env0 P w K mg base A outer s H → BindsTo s fd args (ps.zip us) → Vals vs us →
    (∃ η S ws, SR K ca η H S ∧ RWs K η H vs ws ∧ post (m ws S) (qW K ca η H Q)) → codeAny (model P w) A (.call (.ref f) args) (CR CX0 outer P w H s Q E0) s
/-- a global name that calls it -/
structure Cl (P : Program) (w : World) (K : PySem.W.Frag) (mg : Str → Option Value) (base : Heap) (ca : Nat → Addr) (k : Nat) (x : Str) (m : List W → M W) : Prop where
  ex : ∃ (f : Addr) (fd : FuncData) (ps : List Str), Gn P w K mg base ca k f fd ps m ∧ mg x = some (.ref f) ∧ PySem.W.keepIn K (.ref f) = true ∧ Binds K fd ps []
section
variable {X : Cx} {ca : Nat → Addr} {k : Nat} {x : Str} {pos p : Pos} {m : List W → M W} {ms : Sl → M (List W)} {e : Expr} {es : List Expr}
theorem Gn.mono {P : Program} {w : World} {K : PySem.W.Frag} {mg : Str → Option Value} {base : Heap} {j : Nat} {f : Addr} {fd : FuncData} {ps : List Str} (G : Gn P w K mg base ca j f fd ps m) (h : j ≤ k) : Gn P w K mg base ca k f fd ps m :=
  ⟨G.len, fun A o s H a us vs Q r => G.run A o s H a us vs Q (r.mono h)⟩
theorem Cl.mono {P : Program} {w : World} {K : PySem.W.Frag} {mg : Str → Option Value} {base : Heap} {j : Nat} (C : Cl P w K mg base ca j x m) (h : j ≤ k) : Cl P w K mg base ca k x m := by
  obtain ⟨f, fd, ps, G, a, b, c⟩ := C.ex
  exact ⟨f, fd, ps, G.mono h, a, b, c⟩
theorem run_gn {pins : List (Addr × Obj)} {σ : Sg} {H : Hp} {s : Shared} {Q : VK} {us : List Value} {vs : List V} {f : Addr} {fd : FuncData} {ps : List Str} (ck : Ck X) (G : Gn X.prog X.w X.K X.mg X.base ca k f fd ps m) (room : Room k X.A) (bd : Binds X.K fd ps [])
    (I : Inv X pins σ H s) (r : Vals vs us) (h : ∃ η S ws, SR X.K ca η H S ∧ RWs X.K η H vs ws ∧ post (m ws S) (qW X.K ca η H Q)) : wpAny (model X.prog X.w) X.A (call (.ref f) us) (EP X pins σ Q) X.xe s := by
  have lu : us.length = ps.length := by
    obtain ⟨η, S, ws, _, rr, h⟩ := h
    obtain ⟨a, S', e, _⟩ := post_ok h
    rw [← r.length, rr.length]
    exact G.len ws S _ e
  have b0 := bd s us I.kIn (by rw [List.append_nil]; exact lu)
  rw [List.append_nil] at b0
  refine wpAny_call (codeAny_mono (G.run X.A X.stack s H ⟨us, []⟩ us vs Q room ck.gd I.env0 b0 r h) fun res s' hq => ?_)
  match res, hq with
  | .error _, hq => exact hq.elim
  | .ok (.ret u), hq => exact I.after hq
  | .ok .next, hq => exact hq.elim
  | .ok .brk, hq => exact hq.elim
  | .ok .cont, hq => exact hq.elim
theorem e_call (ck : Ck X) (C : Cl X.prog X.w X.K X.mg X.base ca k x m) (room : Room k X.A) (hg : Gl X x) (ha : PA X (e :: es) (tA X.K ca ms)) (hdb : (x == ("__debug__" : Str)) = false)
    (he : starEach (e :: es) X.env = (false, eval e X.env) :: starEach es X.env) (hpl : (backTo pos (starEach es X.env)).any (·.1) = false) : PE X (.Call (.Name x p) (e :: es) [] pos) (tE X.K ca fun ρ => bnd (ms ρ) m) := by
  obtain ⟨f, fd, ps, G, hm, hk, bd⟩ := C.ex
  refine ⟨fun pins s σ H Q I q => ?_⟩
  obtain ⟨ρ, S, η, er, sr, q⟩ := q
  have q' : tA X.K ca ms σ H fun vs H1 => ∃ η S ws, SR X.K ca η H1 S ∧ RWs X.K η H1 vs ws ∧ post (m ws S) (qW X.K ca η H1 Q) :=
    tA_seq er sr q fun ws S1 vs H1 η1 g er1 sr1 r1 q1 => ⟨η1, S1, ws, sr1, r1, q1.imp fun _ _ z => z.mono g⟩
  refine wpAny_Call_Name_kw (ld_glob I hg hm ?_ hdb)
  refine PySem.W.callWith_K (h₀ := X.base) I.ok.mod.kin hk (thn (ha.run pos pins s σ H _ I q') fun us s1 ⟨vs, H1, I1, r, q1⟩ => ⟨I1.kIn, ?_⟩) he hpl
  exact run_gn ck G room bd I1 r q1
theorem e_call0 (ck : Ck X) (C : Cl X.prog X.w X.K X.mg X.base ca k x m) (room : Room k X.A) (hg : Gl X x) (hdb : (x == ("__debug__" : Str)) = false) : PE X (.Call (.Name x p) [] [] pos) (tE X.K ca fun _ => m []) := by
  obtain ⟨f, fd, ps, G, hm, hk, bd⟩ := C.ex
  refine ⟨fun pins s σ H Q I q => ?_⟩
  obtain ⟨ρ, S, η, er, sr, q⟩ := q
  refine wpAny_Call_Name_kw (ld_glob I hg hm ?_ hdb)
  exact PySem.W.callWith_K0 I.kIn hk (run_gn (us := []) (vs := []) ck G room bd I .nil ⟨η, S, [], sr, .nil, q⟩)
end

/-! ### from the body to the promise -/
theorem er_start {K : PySem.W.Frag} {η : Zs} {H : Hp} {N : List Str} {vs : List V} {ws : List W} (r : RWs K η H vs ws) : ER K η H (L2.start N vs) (ws.map some ++ List.replicate (N.length - ws.length) none) := by
  unfold L2.start
  refine ⟨by simp [r.length], fun i w e => ?_⟩
  by_cases hi : i < ws.length
  · rw [List.getElem?_append_left (by simpa using hi), List.getElem?_map] at e
    cases q : ws[i]? with
    | none => rw [q] at e; cases e
    | some w' =>
      rw [q] at e
      cases e
      obtain ⟨v, ev, rv⟩ := r.get q
      refine ⟨v, ?_, rv⟩
      rw [List.getElem?_append_left (by rw [List.length_map, r.length]; exact hi), List.getElem?_map, ev]
      rfl
  · rw [List.getElem?_append_right (by simpa using hi), List.getElem?_replicate] at e
    split at e <;> cases e
section
variable {P : Program} {w : World} {K : PySem.W.Frag} {mg : Str → Option Value} {base : Heap} {ca : Nat → Addr}
/-- the surroundings of a def's body -/
abbrev cxF (P : Program) (w : World) (K : PySem.W.Frag) (mg : Str → Option Value) (base : Heap) (N : List Str) (qual : Str) (st : Stmt) (f : Addr) (cdv : Value) (A : Around) (outer : List Env) (s : Shared) (H : Hp) : Cx :=
  (cxOf CX0 P w K mg base N qual (defScope st) f cdv A outer s H E0).nox
theorem Gn.of {x qual : Str} {st : Stmt} {f : Addr} {fd : FuncData} {N ps : List Str} {k np nsl : Nat} {body : Sl → M Fl} (F : Fun K x qual st f fd) (sc : FnScope N ps (defScope st)) (hnp : ps.length = np) (hns : N.length = nsl)
    (hb : ∀ (cdv : Value) (A : Around) (outer : List Env) (s : Shared) (H : Hp), Room k (cxF P w K mg base N qual st f cdv A outer s H).A → Ck (cxF P w K mg base N qual st f cdv A outer s H) → PSs (cxF P w K mg base N qual st f cdv A outer s H) (defBody st) (tS K ca body)) :
    Gn P w K mg base ca (k + 1) f fd ps (fnB np nsl body) := by
  obtain ⟨c1, d1, v1, v2, v3, a1, cdv, v4, sl, efd, look, code⟩ := F.ex
  subst efd; subst hnp; subst hns
  have ln : ∀ ws S r, fnB ps.length N.length body ws S = some r → ws.length = ps.length := fun ws S r h => by
    unfold fnB at h
    by_cases c : ws.length = ps.length
    · exact c
    · rw [if_neg c] at h; cases h
  refine ⟨ln, fun A outer s H args us vs Q room gd env bind rel hq => ?_⟩
  obtain ⟨η, S, ws, sr, rs, hq⟩ := hq
  have lw : ws.length = ps.length := by
    obtain ⟨_, _, e, _⟩ := post_ok hq
    exact ln _ _ _ e
  have lv : vs.length = ps.length := by rw [rs.length, lw]
  have inK : K.In s.heap := env.mod.kin.keeps fun b o e => (env.bs b o e).1
  have noL : s.heap.NoLimit := env.mod.nolimit.keeps fun b o e => (env.bs b o e).1
  have kinds : ∀ y ∈ ps.zip us, (defScope st).names.lookup y.1 = some .local ∨ ((defScope st).names.lookup y.1 = some .cell ∧ ((cellsFrom (s.heap.objs.size + 1) (defScope st).names []).lookup y.1).isSome = true) := by
    rintro ⟨n, v⟩ hy
    rcases sc.par n (List.of_mem_zip hy).1 with z | z
    · exact Or.inl z
    · exact Or.inr ⟨z, PySem.W.cellsFrom_some _ _ _ (Or.inl z)⟩
  refine codeAny_call_function room.depth (inK _ _ look) rfl sc.co sc.gen rfl (PySem.W.codeRec_of inK code) (bind _ _ _ _ ?_)
  refine wpAny_newFunctionEnv_cells sc.kind kinds fun env' he s1 x1 => ?_
  subst he
  refine ⟨noL.keeps x1.toInCall.keep, codeAny_func ?_⟩
  have room' : Room k (A.deeper (envOfC qual (defScope st) s.heap.objs.size f cdv)) := room.deeper _
  have ck : Ck (cxF P w K mg base N qual st f cdv A outer s H) := by
    refine ⟨rfl, sc.nd, ?_, gd⟩
    have := room'.un
    show (A.deeper (envOfC qual (defScope st) s.heap.objs.size f cdv)).units + 150 < cLine
    omega
  have I0 : Inv (cxOf CX0 P w K mg base N qual (defScope st) f cdv A outer s H E0) [] (L2.start N vs) H s1 := inv_start sc room.hd env lv rel x1
  have hq2 : tS K ca body { nx := fun _ H' => Q .non H', rt := Q } (L2.start N vs) H := by
    refine ⟨_, S, η, er_start rs, sr, ?_⟩
    unfold fnB at hq
    rw [if_pos lw, post_bnd] at hq
    refine hq.imp fun fl S1 z H1 η1 g sr1 => ?_
    rw [← sr.len] at z
    cases fl with
    | nx ρ1 => exact fun σ1 er1 => qW.left (K := K) (ca := ca) z g sr1 (.d .non)
    | rt w1 => exact fun v r => qW.left (K := K) (ca := ca) z g sr1 r
    | bk _ => exact z.elim
    | ct _ => exact z.elim
  refine wpAny_mono (((hb cdv A outer s H room' ck).nox).run [] s1 (L2.start N vs) H _ I0 hq2) (fun fl s' hs => ?_) fun _ _ z => z
  match fl, hs with
  | .ret u, hs => obtain ⟨v, σ', H', J, rv, q⟩ := hs; exact ⟨v, H', J.os, J.bare, J.base, J.hok, rv, q⟩
  | .next, hs => obtain ⟨σ', H', J, q⟩ := hs; exact ⟨.non, H', J.os, J.bare, J.base, J.hok, rfl, q⟩
  | .brk, hs => obtain ⟨_, _, _, q⟩ := hs; exact q.elim
  | .cont, hs => obtain ⟨_, _, _, q⟩ := hs; exact q.elim
end
theorem hns_ok {X : Cx} (h : X.xe = fun _ _ => False) : PassesOwn (model X.prog X.w) X.A X.env X.xe := by rw [h]; exact PassesOwn.never
end MP

/-! A law's end. -/
namespace MP
open PySem L2 PySem.Spec PyProof.Rows
theorem rp_ints {K : PySem.W.Frag} {η : Zs} {H : Hp} : ∀ ns : List Int, RpAll K η H (ns.map V.int) (ns.map PyData.int)
  | [] => .nil
  | n :: ns => .cons (.int n) (rp_ints ns)
/-- what the caller is told of the law's call -/
abbrev Told (s : Shared) : Result → Shared → Prop := fun r s' => r = .ok (.ret (.bool true)) ∧ OldK s.heap s'.heap ∧ s'.os = s.os ∧ AllBare s'.gens
section
variable {P : Program} {w : World} {K : PySem.W.Frag} {mg mb : Str → Option Value} {ca : Nat → Addr} {k : Nat} {fa a : Addr} {fd : FuncData} {x : Str} {m : List W → M W} {s : Shared} {vs : List Value} {ns : List Int}
/-- over a heap in which at most the script is followed -/
theorem told_of {H : Hp} (inK : K.In s.heap) (gl : s.heap.Ns mainGlobals mg) (bl : s.heap.Ns builtinsNs mb) (bb : ∀ x : Str, x ≠ "__name__" → mb x = bootBuiltins x) (nl : s.heap.NoLimit) (ng : s.gens = #[])
    (ea : s.heap.get? a = some { cls := .type "list", data := .seq vs.toArray }) (room : Room k callerA)
    (F : ∀ base : Heap, K.In base → base.Ns mainGlobals mg → Gn P w K mg base ca k fa fd [x] m) (bd : ∀ (s : Shared) (u : Value), BindsTo s fd ⟨[u], []⟩ [(x, u)])
    (fz : Only H) (at' : LstAt K ⟨[], []⟩ H a (ns.map V.int)) (hok : HOk P w H s.heap) (only : ∀ b, H b ≠ none → b = a) (nk : H a ≠ none → K.lookup a = none)
    (hm : ∃ S, m [.d (.list (ns.map .int))] [] = some (.ok (.d (.bool true)) S)) : codeAny (model P w) callerA (.call (.ref fa) ⟨[.ref a], []⟩) (Told s) s := by
  have dictFree : ∀ {b : Addr} {o : Obj} {es : Array DictEntry} {ep : Nat}, s.heap.get? b = some o → o.data = .dict es ep → H b = none := by
    intro b o es ep e d
    by_cases z : H b = none
    · exact z
    · have eb := only b z
      subst eb
      rw [ea] at e
      cases e
      exact (nomatch (show Data.seq vs.toArray _ = Data.dict es ep from d))
  have nsH : ∀ {b : Addr} {f : Str → Option Value}, s.heap.Ns b f → (hidT s.heap H).Ns b f := by
    intro b f h
    obtain ⟨o, es, ep, e, d, r⟩ := h
    exact ⟨o, es, ep, hidT_get e (dictFree e d), d, r⟩
  have inH : K.In (hidT s.heap H) := by
    intro b o e
    refine hidT_get (inK b o e) ?_
    by_cases z : H b = none
    · exact z
    · have eb := only b z
      subst eb
      rw [nk z] at e
      cases e
  have mod : Mod K mg (hidT s.heap H) := ⟨inH, nsH gl, ⟨mb, nsH bl, bb⟩, let ⟨c, h1, h2⟩ := nl; ⟨c, nsH h1, h2⟩⟩
  have env : Env0 P w K mg (hidT s.heap H) callerA [] s H :=
    { frames := rfl, mod := mod, bs := fun b o e => of_hidT e, bsz := Nat.le_of_eq (hidT_size _ _), funs := trivial, frf := fun b z => absurd (show b ∈ ([] : List Addr) from z) (by simp), hok := hok, bare := .of_eq ng }
  have want : ∃ η S ws, SR K ca η H S ∧ RWs K η H [.ref a] ws ∧ post (m ws S) (qW K ca η H fun v _ => v = .bl true) := by
    obtain ⟨S, e⟩ := hm
    refine ⟨⟨[], []⟩, [], [.d (.list (ns.map .int))], ⟨rfl, List.nodup_nil, fun b z => absurd z (by simp), fun i b o e => by simp at e⟩, .cons (.d (.lst at' (rp_ints ns))) .nil, ?_⟩
    rw [e]
    intro v H' η' _ _ r
    cases r with
    | d r => cases r; rfl
  refine codeAny_mono ((F _ inH (nsH gl)).run callerA [] s H ⟨[.ref a], []⟩ [.ref a] [.ref a] _ room rfl env (bd s (.ref a)) (.cons rfl .nil) want) fun r s' h => ?_
  match r, h with
  | .error _, h => exact h.elim
  | .ok .next, h => exact h.elim
  | .ok .brk, h => exact h.elim
  | .ok .cont, h => exact h.elim
  | .ok (.ret u), h =>
    obtain ⟨v, H', os, bare, un, hok', rv, q⟩ := h
    cases (show v = .bl true from q)
    cases (show u = Value.bool true from rv)
    refine ⟨rfl, OldK.of_keep fun b o e => ?_, os, bare⟩
    rcases fz b with z | ⟨ob, xs, z⟩
    · exact un.keep b o e z (fun h => absurd (show b ∈ ([] : List Addr) from h) (by simp)) (by simp)
    · obtain ⟨p1, _⟩ := hok b _ z
      obtain ⟨p2, _⟩ := hok' b _ (un.frzs b ob _ z)
      rw [e] at p1
      cases p1
      exact p2
theorem told (inK : K.In s.heap) (gl : s.heap.Ns mainGlobals mg) (bl : s.heap.Ns builtinsNs mb) (bb : ∀ x : Str, x ≠ "__name__" → mb x = bootBuiltins x) (nl : s.heap.NoLimit) (ng : s.gens = #[])
    (ea : s.heap.get? a = some { cls := .type "list", data := .seq vs.toArray }) (hi : IntsAre vs ns) (small : ns.length ≤ sizeLine) (room : Room k callerA)
    (F : ∀ base : Heap, K.In base → base.Ns mainGlobals mg → Gn P w K mg base ca k fa fd [x] m) (bd : ∀ (s : Shared) (u : Value), BindsTo s fd ⟨[u], []⟩ [(x, u)])
    (hm : ∃ S, m [.d (.list (ns.map .int))] [] = some (.ok (.d (.bool true)) S)) : codeAny (model P w) callerA (.call (.ref fa) ⟨[.ref a], []⟩) (Told s) s := by
  have rel := vals_ints hi
  have len := hi.length
  cases look : K.lookup a with
  | some o =>
    have e := inK a o look
    rw [ea] at e
    cases e
    refine told_of (H := fun _ => none) inK gl bl bb nl ng ea room F bd (fun _ => Or.inl rfl) (.inr (.inr ⟨_, vs.toArray, _, look, rfl, rfl, rfl, ?_, by simpa using rel⟩)) (fun b u z => nomatch (show (none : Option HO) = some u from z)) (fun b z => absurd rfl z) (fun z => absurd rfl z) hm
    rw [List.size_toArray, len]
    exact small
  | none =>
    let G : Hp := fun b => if b = a then some (.frz { cls := .type "list", data := .seq vs.toArray } (.lst (ns.map V.int))) else none
    have Ga : G a = some (.frz { cls := .type "list", data := .seq vs.toArray } (.lst (ns.map V.int))) := if_pos rfl
    have Gn' : ∀ b, b ≠ a → G b = none := fun b z => if_neg z
    have only : ∀ b, G b ≠ none → b = a := fun b z => Classical.byContradiction fun y => z (Gn' b y)
    refine told_of (H := G) inK gl bl bb nl ng ea room F bd (fun b => ?_) (.inl ⟨.inr ⟨_, Ga⟩, by simp, by simp⟩) (fun b u z => ?_) only (fun _ => look) hm
    · by_cases z : b = a
      · exact Or.inr ⟨_, _, by rw [z]; exact Ga⟩
      · exact Or.inl (Gn' b z)
    · have eb := only b (by rw [z]; simp)
      subst eb
      rw [Ga] at z
      cases z
      exact ⟨ea, by rw [List.length_map]; exact small, vs, _, rel, ea⟩
end
/-- the goal that the head leaves -/
theorem end_of {l : PySem.W.OpenLaw} {n k : Nat} {q : Program} {loose : List Str} {XP : (Str → Option Value) → Heap → Prop} {YP : World → Heap → Prop} {d : DefRec} {K : Params → PySem.W.Frag} {ca : Nat → Addr} {x : Str} {m : List W → M W}
    (hn : l.most = some n) (hn2 : n ≤ sizeLine) (hdf : d.params.defaults = []) (room : Room k callerA) (hY : ∀ (w : World) (h : Heap), YP w h → (K w.params).In h)
    (F : ∀ (w : World) (mg : Str → Option Value) (fa : Addr) (h : Heap), (K w.params).In h → h.Ns mainGlobals mg → mg d.name = some (.ref fa) →
      ∃ fd : FuncData, (∀ (s : Shared) (u : Value), BindsTo s fd ⟨[u], []⟩ [(x, u)]) ∧ ∀ base : Heap, (K w.params).In base → base.Ns mainGlobals mg → Gn l.prog w (K w.params) mg base ca k fa fd [x] m)
    (hm : ∀ ns : List Int, ns.length ≤ n → ∃ S, m [.d (.list (ns.map .int))] [] = some (.ok (.d (.bool true)) S)) :
    PySem.W.WalkO q loose XP YP l.row.toRowW d [] (fun f vs => PySem.call f vs) := by
  refine Att.attach_call hn hdf fun w s₀ s mg mb fa o pm cd doc a vs ns G Y ho hd hcd hmg hobj hints hlen hg => ?_
  have inK := hY w _ Y
  obtain ⟨fd, bd, hF⟩ := F w mg fa _ inK G.T.g hmg
  exact told inK G.T.g G.T.b G.T.builtins G.T.nolimit hg hobj hints (Nat.le_trans hlen hn2) room hF bd (hm ns hlen)
end MP

/-! The rules in short. -/
namespace MP
open PySem L2 PySem.Spec PyProof.Rows
abbrev EM := Sl → M W
abbrev AM := Sl → M (List W)
abbrev SM := Sl → M Fl
def kM (d : D) : EM := fun _ => ret (.d d)
def vM (i : Nat) : EM := fun ρ => getV ρ i
def binM (o : B2) (a b : EM) : EM := fun ρ => bnd (a ρ) fun x => bnd (b ρ) fun y => binW o x y
def cmpM (o : C2) (a b : EM) : EM := fun ρ => bnd (a ρ) fun x => bnd (b ρ) fun y => cmpV o x y
def chM (o1 o2 : C2) (a b c : EM) : EM := fun ρ => bnd (a ρ) fun x => bnd (b ρ) fun y => bnd (cmpW o1 x y) fun t => if t = true then bnd (c ρ) fun z => cmpV o2 y z else ret (.d (.bool false))
def negM (a : EM) : EM := fun ρ => bnd (a ρ) fun x => negW x
def notM (a : EM) : EM := fun ρ => bnd (a ρ) fun x => bnd (truW x) fun t => ret (.d (.bool (!t)))
def andM (a b : EM) : EM := fun ρ => bnd (a ρ) fun x => bnd (truW x) fun t => if t = true then b ρ else ret x
def orM (a b : EM) : EM := fun ρ => bnd (a ρ) fun x => bnd (truW x) fun t => if t = true then ret x else b ρ
def iteM (c a b : EM) : EM := fun ρ => bnd (c ρ) fun x => bnd (truW x) fun t => if t = true then a ρ else b ρ
def tupM (ms : AM) : EM := fun ρ => bnd (ms ρ) fun ws => match dataOf ws with
    | some xs => if xs.length ≤ SZ then ret (.d (.tuple xs)) else bad
    | none => bad
def lstM (ms : AM) : EM := fun ρ => bnd (ms ρ) fun ws => match dataOf ws with
    | some xs => if xs.length ≤ SZ then ret (.d (.list xs)) else bad
    | none => bad
def nlM (ms : AM) : EM := fun ρ => bnd (ms ρ) fun ws => if ws.length ≤ SZ then alloc (.lst ws) else bad
def ndkM : EM := fun _ => alloc (.dk [])
def subM (a b : EM) : EM := fun ρ => bnd (a ρ) fun x => bnd (b ρ) fun y => subW x y
def noM : Sl → M (Option W) := fun _ => ret none
def soM (a : EM) : Sl → M (Option W) := fun ρ => bnd (a ρ) fun w => ret (some w)
def slcM (a : EM) (lo hi : Sl → M (Option W)) : EM := fun ρ => bnd (a ρ) fun x => bnd (lo ρ) fun l => bnd (hi ρ) fun h => match asOI l, asOI h with
      | some l, some h => slcW x l h
      | _, _ => bad
def nilM : AM := fun _ => ret []
def consM (a : EM) (r : AM) : AM := fun ρ => bnd (a ρ) fun w => bnd (r ρ) fun ws => ret (w :: ws)
def callM (m : List W → M W) (ms : AM) : EM := fun ρ => bnd (ms ρ) m
def call0M (m : List W → M W) : EM := fun _ => m []
def biM (f : B1) (ms : AM) : EM := fun ρ => bnd (ms ρ) fun ws => b1W f ws
def isiM (T : String) (a : EM) : EM := fun ρ => bnd (a ρ) fun w => b1W (.isI T) [w]
def appM (o a : EM) : EM := fun ρ => bnd (o ρ) fun x => bnd (rcv .append x) fun _ => bnd (a ρ) fun w => meW .append x [w]
def sdM (o a b : EM) : EM := fun ρ => bnd (o ρ) fun x => bnd (rcv .setdefault x) fun _ => bnd (a ρ) fun y => bnd (b ρ) fun z => meW .setdefault x [y, z]
def fmtM (a : EM) : EM := fun ρ => bnd (a ρ) fun w => b1W .fmt [w]
def fsM (ms : AM) : EM := fun ρ => bnd (ms ρ) fun ws => bnd (joinM ws Str.empty) fun z => ret (.d (.str z))
def yesM : Sl → M Bool := fun _ => ret true
/-- what is walked -/
def seqI (a : EM) : Sl → M (List D) := fun ρ => bnd (a ρ) fun w => opt (itemsOf .seq [w])
def rng1I (ms : AM) : Sl → M (List D) := fun ρ => bnd (ms ρ) fun ws => match ws with
      | [w] => opt (itemsOf .rng [w])
      | _ => bad
def rng2I (ms : AM) : Sl → M (List D) := fun ρ => bnd (ms ρ) fun ws => match ws with
      | [w, u] => opt (itemsOf .rng [w, u])
      | _ => bad
def enumI (ms : AM) : Sl → M (List D) := fun ρ => bnd (ms ρ) fun ws => opt (itemsOf .enum ws)
def zipI (ms : AM) : Sl → M (List D) := fun ρ => bnd (ms ρ) fun ws => opt (itemsOf .zip ws)
/-- statements -/
def skM : SM := fun ρ => ret (.nx ρ)
def brkM : SM := fun ρ => ret (.bk ρ)
def cntM : SM := fun ρ => ret (.ct ρ)
def badM : SM := fun _ => bad
def exM (a : EM) : SM := fun ρ => bnd (a ρ) fun _ => ret (.nx ρ)
def retM (a : EM) : SM := fun ρ => bnd (a ρ) fun w => ret (.rt w)
def retN : SM := fun _ => ret (.rt (.d .none))
def ifM (c : EM) (a b : SM) : SM := fun ρ => bnd (tst c ρ) fun t => if t = true then a ρ else b ρ
def asgM (p : P) (a : EM) : SM := fun ρ => bnd (a ρ) fun w => bnd (opt (bindP p w ρ)) fun ρ' => ret (.nx ρ')
def par2M (i j : Nat) (ms : AM) : SM := fun ρ => bnd (ms ρ) fun ws => match ws with
      | [w1, w2] => ret (.nx ((ρ.set i (some w1)).set j (some w2)))
      | _ => bad
def par3M (i j l : Nat) (ms : AM) : SM := fun ρ => bnd (ms ρ) fun ws => match ws with
      | [w1, w2, w3] => ret (.nx (((ρ.set i (some w1)).set j (some w2)).set l (some w3)))
      | _ => bad
def setM (o i e : EM) : SM := fun ρ => bnd (e ρ) fun w => bnd (o ρ) fun x => bnd (i ρ) fun y => bnd (setW x y w) fun _ => ret (.nx ρ)
def whM (c : EM) (b : SM) : SM := fun ρ => whileM (tst c) b WF ρ
def foM (p : P) (mi : Sl → M (List D)) (b : SM) : SM := fun ρ => bnd (mi ρ) fun items => forM p b items ρ
theorem Ck.blk {X : Cx} (h : Ck X) {s : Shared} {H : Hp} {sc : Scope} {ce : Env} {fp : List Addr} : Ck (X.blk s H sc ce fp) := ⟨h.calm, h.nd, h.hu, h.gd⟩
/-- a global constant -/
structure Gc (K : PySem.W.Frag) (mg : Str → Option Value) (x : Str) (d : D) : Prop where
  ex : ∃ v u, mg x = some u ∧ RelV v u ∧ ∀ η H, Rp K η H v d
theorem Gc.int {K : PySem.W.Frag} {mg : Str → Option Value} {x : Str} {i : Int} {t : Tok} (h : mg x = some (.int i t)) : Gc K mg x (.int i) := ⟨⟨.int i, _, h, ⟨t, rfl⟩, fun _ _ => .int i⟩⟩
section
variable {X : Cx} {ca : Nat → Addr} {a b c e : Expr} {ma mb mc : EM} {ms : AM} {pos p p2 : Pos} {es : List Expr} {x : Str} {st : Stmt} {sa sb : List Stmt} {na nb : SM}
theorem r_int {i : Int} {j} : PE X (.Constant (.int i) j pos) (tE X.K ca (kM (.int i))) := e_k pe_int fun _ _ => .int i
theorem r_str {z : Str} {j} : PE X (.Constant (.str z) j pos) (tE X.K ca (kM (.str z))) := e_k pe_str fun _ _ => .str z
theorem r_bl {z : Bool} {j} : PE X (.Constant (.bool z) j pos) (tE X.K ca (kM (.bool z))) := e_k pe_bl fun _ _ => .bl z
theorem r_non {j} : PE X (.Constant .none j pos) (tE X.K ca (kM .none)) := e_k pe_non fun _ _ => .non
theorem r_gc {d : D} (h : Gc X.K X.mg x d) (hg : Gl X x := by rfl) (hd : (x == ("__debug__" : Str)) = false := by decide) : PE X (.Name x pos) (tE X.K ca (kM d)) := by
  obtain ⟨v, u, h1, h2, h3⟩ := h.ex
  exact e_k (pe_glob hg h1 h2 hd) h3
theorem r_v (i : Nat) (hN : X.N[i]? = some x := by rfl) (hv : Vis X.env.scope x := by first | exact Or.inl rfl | exact Or.inr (Or.inl rfl) | exact Or.inr (Or.inr rfl)) (hd : (x == ("__debug__" : Str)) = false := by decide) (hcd : (x == ("__classdict__" : Str)) = false := by decide) :
    PE X (.Name x pos) (tE X.K ca (vM i)) := e_v (pe_var hN hv hd hcd)
theorem r_bin {op : Operator} {o : B2} (ho : opOf op = some o) (ha : PE X a (tE X.K ca ma)) (hb : PE X b (tE X.K ca mb)) : PE X (.BinOp a op b pos) (tE X.K ca (binM o ma mb)) := e_bin ho ha hb
theorem r_cmp (ck : Ck X) {op : CmpOp} {o : C2} (ho : cmpOf op = some o) (ha : PE X a (tE X.K ca ma)) (hb : PE X b (tE X.K ca mb)) (hm : behindInMarks op b = false := by first | exact nomark _ | rfl | with_unfolding_all rfl) : PE X (.Compare a [op] [b] pos) (tE X.K ca (cmpM o ma mb)) := e_cmp ck ho hm ha hb
theorem r_ch (ck : Ck X) {op op' : CmpOp} {o1 o2 : C2} (h1 : cmpOf op = some o1) (h2 : cmpOf op' = some o2) (ha : PE X a (tE X.K ca ma)) (hb : PE X b (tE X.K ca mb)) (hc : PE X c (tE X.K ca mc)) (hm : lastMarks [op, op'] [b, c] = false := by first | rfl | with_unfolding_all rfl) :
    PE X (.Compare a [op, op'] [b, c] pos) (tE X.K ca (chM o1 o2 ma mb mc)) := e_chain ck h1 h2 hm ha hb hc
theorem r_neg (ha : PE X a (tE X.K ca ma)) : PE X (.UnaryOp .USub a pos) (tE X.K ca (negM ma)) := e_neg ha
theorem r_not (ha : PE X a (tE X.K ca ma)) : PE X (.UnaryOp .Not a pos) (tE X.K ca (notM ma)) := e_not ha
theorem r_b1 {op} (ha : PE X a (tE X.K ca ma)) : PE X (.BoolOp op [a] pos) (tE X.K ca ma) := pe_one ha
theorem r_and (ha : PE X a (tE X.K ca ma)) (hb : PE X (.BoolOp .And (b :: es) pos) (tE X.K ca mb)) : PE X (.BoolOp .And (a :: b :: es) pos) (tE X.K ca (andM ma mb)) := e_and ha hb
theorem r_or (ha : PE X a (tE X.K ca ma)) (hb : PE X (.BoolOp .Or (b :: es) pos) (tE X.K ca mb)) : PE X (.BoolOp .Or (a :: b :: es) pos) (tE X.K ca (orM ma mb)) := e_or ha hb
theorem r_ite (hc : PT X c (tT X.K ca (tst mc))) (ha : PE X a (tE X.K ca ma)) (hb : PE X b (tE X.K ca mb)) : PE X (.IfExp c a b pos) (tE X.K ca (iteM mc ma mb)) := e_ite hc ha hb
theorem r_tup {k : Nat} (h : PA X es (tA X.K ca ms)) : PE X (.Tuple es k pos) (tE X.K ca (tupM ms)) := e_tup h
theorem r_lst (h : PA X es (tA X.K ca ms)) : PE X (.List es pos) (tE X.K ca (lstM ms)) := e_lst h
theorem r_nl (h : PA X es (tA X.K ca ms)) : PE X (.List es pos) (tE X.K ca (nlM ms)) := e_nl h
theorem r_ndk : PE X (.Dict [] [] pos) (tE X.K ca ndkM) := e_ndk
theorem r_sub (ck : Ck X) (ha : PE X a (tE X.K ca ma)) (hb : PE X b (tE X.K ca mb)) (hs : PlainIx b := by exact fun _ _ => rfl) : PE X (.Subscript a b pos) (tE X.K ca (subM ma mb)) := e_sub ck hs ha hb
theorem r_slc {lo hi : Option Expr} {ml mh : Sl → M (Option W)} (ha : PE X a (tE X.K ca ma)) (hl : (lo = none ∧ ml = noM) ∨ ∃ e' m', lo = some e' ∧ ml = soM m' ∧ PE X e' (tE X.K ca m')) (hh : (hi = none ∧ mh = noM) ∨ ∃ e' m', hi = some e' ∧ mh = soM m' ∧ PE X e' (tE X.K ca m')) :
    PE X (.Subscript a (.Slice lo hi none p2) pos) (tE X.K ca (slcM ma ml mh)) := e_slc ha hl hh
theorem r_nil : PA X [] (tA X.K ca nilM) := a_nil
theorem r_cons (ha : PE X a (tE X.K ca ma)) (hr : PA X es (tA X.K ca ms)) (hs : starEach (a :: es) X.env = (false, eval a X.env) :: starEach es X.env := by rfl) : PA X (a :: es) (tA X.K ca (consM ma ms)) := a_cons ha hr hs
theorem r_call (ck : Ck X) {m : List W → M W} {k j : Nat} (room : Room k X.A) (C : Cl X.prog X.w X.K X.mg X.base ca j x m) (ha : PA X (e :: es) (tA X.K ca ms)) (hk : j ≤ k := by decide) (hg : Gl X x := by rfl) (hdb : (x == ("__debug__" : Str)) = false := by decide)
    (he : starEach (e :: es) X.env = (false, eval e X.env) :: starEach es X.env := by rfl) (hpl : (backTo pos (starEach es X.env)).any (·.1) = false := by rfl) : PE X (.Call (.Name x p) (e :: es) [] pos) (tE X.K ca (callM m ms)) := e_call ck (C.mono hk) room hg ha hdb he hpl
theorem r_call0 (ck : Ck X) {m : List W → M W} {k j : Nat} (room : Room k X.A) (C : Cl X.prog X.w X.K X.mg X.base ca j x m) (hk : j ≤ k := by decide) (hg : Gl X x := by rfl) (hdb : (x == ("__debug__" : Str)) = false := by decide) : PE X (.Call (.Name x p) [] [] pos) (tE X.K ca (call0M m)) := e_call0 ck (C.mono hk) room hg hdb
theorem r_biB {f : B1} {id : String} (hc : CallR X (.builtin id) (rWs X.K ca (b1W f))) (hm : X.mg x = none) (ha : PA X (a :: es) (tA X.K ca ms)) (hv : bootBuiltins x = some (.builtin id) := by decide +kernel) (hg : Gl X x := by rfl) (hn : x ≠ "__name__" := by decide) (hdb : (x == ("__debug__" : Str)) = false := by decide)
    (he : starEach (a :: es) X.env = (false, eval a X.env) :: starEach es X.env := by rfl) (hpl : (backTo pos (starEach es X.env)).any (·.1) = false := by rfl) : PE X (.Call (.Name x p) (a :: es) [] pos) (tE X.K ca (biM f ms)) := e_biB hc hg hm hv ha hn hdb he hpl
theorem r_biT {f : B1} {T : String} (hc : CallR X (.type T) (rWs X.K ca (b1W f))) (hm : X.mg x = none) (ha : PA X (a :: es) (tA X.K ca ms)) (hv : bootBuiltins x = some (.type T) := by decide +kernel) (hg : Gl X x := by rfl) (hn : x ≠ "__name__" := by decide) (hdb : (x == ("__debug__" : Str)) = false := by decide)
    (he : starEach (a :: es) X.env = (false, eval a X.env) :: starEach es X.env := by rfl) (hpl : (backTo pos (starEach es X.env)).any (·.1) = false := by rfl) : PE X (.Call (.Name x p) (a :: es) [] pos) (tE X.K ca (biM f ms)) := e_biT hc hg hm hv ha hn hdb he hpl
theorem r_isi {T : String} (hm : X.mg "isinstance" = none) (hm2 : X.mg x = none) (ha : PE X a (tE X.K ca ma)) (hv : bootBuiltins x = some (.type T) := by decide +kernel) (hb : bootBuiltins "isinstance" = some (.builtin "isinstance") := by decide +kernel) (hg : Gl X "isinstance" := by rfl) (hg2 : Gl X x := by rfl) (hn : x ≠ "__name__" := by decide) (hdb : (x == ("__debug__" : Str)) = false := by decide)
    (he : starEach [a, .Name x p2] X.env = (false, eval a X.env) :: starEach [.Name x p2] X.env := by rfl) (he2 : starEach [.Name x p2] X.env = (false, eval (.Name x p2) X.env) :: starEach [] X.env := by rfl) (hpl : (backTo pos (starEach [.Name x p2] X.env)).any (·.1) = false := by rfl) :
    PE X (.Call (.Name "isinstance" p) [a, .Name x p2] [] pos) (tE X.K ca (isiM T ma)) := e_isi hg hm hb hg2 hm2 hv hn hdb ha he he2 hpl
theorem r_app {o : Expr} {mo : EM} {apos : Pos} (ho : PE X o (tE X.K ca mo)) (ha : PE X a (tE X.K ca ma)) (hs1 : starEach [a] X.env = (false, eval a X.env) :: starEach [] X.env := by rfl) (hbase : attributeBase o "append" X.env (eval o X.env) = eval o X.env := by rfl)
    (hfew : ((backTo pos (starEach [a] X.env)).all (fun x => !x.1) && (backToKw pos (keywordEach [] X.env)).all (fun x => x.1.isSome) && decide (([a] : List Expr).length + ([] : List Keyword).length + (if ([] : List Keyword).isEmpty then 0 else 1) < 30)) = true := by rfl)
    (hline : (apos.endLine == pos.line) = true := by rfl) (hplain : (backTo pos (starEach [] X.env)).any (·.1) = false := by rfl) : PE X (.Call (.Attribute o "append" apos) [a] [] pos) (tE X.K ca (appM mo ma)) := e_app ho ha hs1 hbase hfew hline hplain
theorem r_sd {o : Expr} {mo : EM} {apos : Pos} (ho : PE X o (tE X.K ca mo)) (ha : PE X a (tE X.K ca ma)) (hb : PE X b (tE X.K ca mb)) (m : M2 X o "setdefault" apos a b pos := by exact ⟨rfl, rfl, rfl, rfl⟩) : PE X (.Call (.Attribute o "setdefault" apos) [a, b] [] pos) (tE X.K ca (sdM mo ma mb)) := e_sd ho ha hb m
theorem r_fmt (ha : PE X a (tE X.K ca ma)) : PE X (.FormattedValue a (-1) none pos) (tE X.K ca (fmtM ma)) := e_fmt ha
theorem r_jn : PJs X ca [] nilM := .nil
theorem r_jc (ha : PE X a (tE X.K ca ma)) (hr : PJs X ca es ms) : PJs X ca (a :: es) (consM ma ms) := .cons ha hr
theorem r_fs (h : PJs X ca (a :: b :: es) ms) : PE X (.JoinedStr (a :: b :: es) pos) (tE X.K ca (fsM ms)) := e_fs h
theorem r_fs1 (h : PE X a (tE X.K ca ma)) : PE X (.JoinedStr [a] pos) (tE X.K ca ma) := e_fs1 h
/-! tests -/
theorem t_val (ha : PE X a (tE X.K ca ma)) (he : ∀ whole, isTrue a X.env whole = (do let v ← whole; standAt a.pos; holding [v] (truthy v)) := by exact fun _ => rfl) : PT X a (tT X.K ca (tst ma)) := p_val ha he
theorem t_cmp (ck : Ck X) {op : CmpOp} {o : C2} (ho : cmpOf op = some o) (ha : PE X a (tE X.K ca ma)) (hb : PE X b (tE X.K ca mb)) (hm : behindInMarks op b = false := by first | exact nomark _ | rfl | with_unfolding_all rfl) : PT X (.Compare a [op] [b] pos) (tT X.K ca (tst (cmpM o ma mb))) := p_cmp ck ho hm ha hb
theorem t_ch (ck : Ck X) {op op' : CmpOp} {o1 o2 : C2} (h1 : cmpOf op = some o1) (h2 : cmpOf op' = some o2) (ha : PE X a (tE X.K ca ma)) (hb : PE X b (tE X.K ca mb)) (hc : PE X c (tE X.K ca mc)) (hm : lastMarks [op, op'] [b, c] = false := by first | rfl | with_unfolding_all rfl) :
    PT X (.Compare a [op, op'] [b, c] pos) (tT X.K ca (tst (chM o1 o2 ma mb mc))) := p_chain ck h1 h2 hm ha hb hc
theorem t_not (ha : PT X a (tT X.K ca (tst ma))) : PT X (.UnaryOp .Not a pos) (tT X.K ca (tst (notM ma))) := p_not ha
theorem w_and1 (ha : PT X a (tT X.K ca (tst ma))) : PW X (.BoolOp .And [a] pos) (tT X.K ca (tst ma)) := pw_and1 ha
theorem w_or1 (ha : PT X a (tT X.K ca (tst ma))) : PW X (.BoolOp .Or [a] pos) (tT X.K ca (tst ma)) := pw_or1 ha
theorem w_and (ha : PT X a (tT X.K ca (tst ma))) (hb : PW X (.BoolOp .And (b :: es) pos) (tT X.K ca (tst mb))) : PW X (.BoolOp .And (a :: b :: es) pos) (tT X.K ca (tst (andM ma mb))) := p_and ha hb
theorem w_or (ha : PT X a (tT X.K ca (tst ma))) (hb : PW X (.BoolOp .Or (b :: es) pos) (tT X.K ca (tst mb))) : PW X (.BoolOp .Or (a :: b :: es) pos) (tT X.K ca (tst (orM ma mb))) := p_or ha hb
/-! sources -/
section
variable {tg : Expr} {elts : List Expr} {kk : Nat} {tpos : Pos}
theorem q_seq (he : PE X e (tE X.K ca ma)) : PI X tg e (iW X.K ca (seqI ma)) := i_seq he
theorem q_rng1 (hm : X.mg "range" = none) (ha : PA X [a] (tA X.K ca ms)) (hg : Gl X "range" := by rfl) (hs : starEach [a] X.env = [(false, eval a X.env)] := by rfl) : PI X tg (.Call (.Name "range" p) [a] [] pos) (iW X.K ca (rng1I ms)) := i_rng1 hg hm ha hs
theorem q_rng2 (hm : X.mg "range" = none) (ha : PA X [a, b] (tA X.K ca ms)) (hg : Gl X "range" := by rfl) (hs : starEach [a, b] X.env = [(false, eval a X.env), (false, eval b X.env)] := by rfl) (hs2 : starEach [b] X.env = [(false, eval b X.env)] := by rfl) : PI X tg (.Call (.Name "range" p) [a, b] [] pos) (iW X.K ca (rng2I ms)) := i_rng2 hg hm ha hs hs2
theorem q_enum (hm : X.mg "enumerate" = none) (ha : PA X [a] (tA X.K ca ms)) (hg : Gl X "enumerate" := by rfl) (hs : starEach [a] X.env = [(false, eval a X.env)] := by rfl) : PI X (.Tuple elts kk tpos) (.Call (.Name "enumerate" p) [a] [] pos) (iW X.K ca (enumI ms)) := i_enum hg hm ha hs
theorem q_zip (hm : X.mg "zip" = none) (ha : PA X [a, b] (tA X.K ca ms)) (hg : Gl X "zip" := by rfl) (hs : starEach [a, b] X.env = (false, eval a X.env) :: starEach [b] X.env := by rfl) (hpl : (backTo pos (starEach [b] X.env)).any (·.1) = false := by rfl) :
    PI X (.Tuple elts kk tpos) (.Call (.Name "zip" p) [a, b] [] pos) (iW X.K ca (zipI ms)) := i_zip hg hm ha hs hpl
end
/-! targets -/
theorem x_nm (ck : Ck X) (i : Nat) (hi : X.N[i]? = some x := by rfl) (hx : Loc X.env.scope x := by first | exact Or.inl rfl | exact Or.inr rfl) (hf : X.fn x = true ∨ X.env.scope.names.lookup x = some .local := by first | exact Or.inl rfl | exact Or.inr rfl) : PG X (.Name x pos) (gW X.K (.nm i)) := g_nm ck.nd hi hx hf
theorem x_nil : PGs X [] (gL []) := gs_nil
theorem x_cons (ck : Ck X) (i : Nat) {is : List Nat} (h2 : PGs X es (gL is)) (hi : X.N[i]? = some x := by rfl) (hx : Loc X.env.scope x := by first | exact Or.inl rfl | exact Or.inr rfl) (hf : X.fn x = true ∨ X.env.scope.names.lookup x = some .local := by first | exact Or.inl rfl | exact Or.inr rfl)
    (hs : (assignEach (.Name x p :: es) X.env).map (·.2) = assign (.Name x p) X.env :: (assignEach es X.env).map (·.2) := by rfl) : PGs X (.Name x p :: es) (gL (i :: is)) := gs_cons ck.nd hi hx hf h2 hs
theorem x_tup (ck : Ck X) {k n : Nat} {is : List Nat} (h : PGs X es (gL is)) (hl : is.length = n := by rfl) (hn : (assignEach es X.env).length = n := by rfl) (hst : (assignEach es X.env).findIdx? (·.1) = none := by rfl) : PG X (.Tuple es k pos) (gW X.K (.tup is)) := g_tup ck h hl hn hst
/-! comprehensions -/
theorem r_lc (ck : Ck X) {elt tg iter : Expr} {ifs : List Expr} {scope : Scope} (own : List (Str × Nat)) {p : P} {mi : Sl → M (List D)} {mt : Sl → M Bool} {me : EM} {vs : List Nat} (hi : PI X tg iter (iW X.K ca mi))
    (hg : ∀ (s : Shared) (H : Hp) (C : Addr) (cl : List (Str × Addr)) (fp : List Addr), PG (X.blk s H scope (compEnvC scope cl C X.env) fp) tg (gW X.K p)) (ht : ∀ (s : Shared) (H : Hp) (C : Addr) (cl : List (Str × Addr)) (fp : List Addr), PTs (X.blk s H scope (compEnvC scope cl C X.env) fp) ifs (tT X.K ca mt))
    (he : ∀ (s : Shared) (H : Hp) (C : Addr) (cl : List (Str × Addr)) (fp : List Addr), PE (X.blk s H scope (compEnvC scope cl C X.env) fp) elt (tE X.K ca me)) (hv : own.map (·.2) = vs := by rfl) (ok : blkC X.N X.env.scope scope own = true := by first | decide +kernel | (dsimp only [cxF, Cx.nox, Cx.wish, cxOf, envOfC]; decide +kernel) | rfl) (hp : ∀ i ∈ p.slots, i ∈ vs := by decide) (hs : ∀ x, foldedSetIterable iter X.env x = pure x := by exact fun _ => rfl) :
    PE X (.ListComp elt [⟨tg, iter, ifs, 0⟩] scope pos) (tE X.K ca (lcE mi p vs mt me)) := by
  subst hv
  exact e_lc ck hi (blkOk_by ok) hp hg ht he hs
theorem s_lc (ck : Ck X) (i : Nat) {y : Str} {py spos : Pos} {elt tg iter : Expr} {ifs : List Expr} {scope : Scope} (own : List (Str × Nat)) {p : P} {mi : Sl → M (List D)} {mt : Sl → M Bool} {me : EM} {vs : List Nat} (hi : PI X tg iter (iW X.K ca mi))
    (hg : ∀ (s : Shared) (H : Hp) (C : Addr) (cl : List (Str × Addr)) (fp : List Addr), PG (X.blk s H scope (compEnvC scope cl C X.env) fp) tg (gW X.K p)) (ht : ∀ (s : Shared) (H : Hp) (C : Addr) (cl : List (Str × Addr)) (fp : List Addr), PTs (X.blk s H scope (compEnvC scope cl C X.env) fp) ifs (tT X.K ca mt))
    (he : ∀ (s : Shared) (H : Hp) (C : Addr) (cl : List (Str × Addr)) (fp : List Addr), PE (X.blk s H scope (compEnvC scope cl C X.env) fp) elt (tE X.K ca me)) (hv : own.map (·.2) = vs := by rfl) (hy : X.N[i]? = some y := by rfl) (hyl : X.env.scope.names.lookup y = some .local := by rfl)
    (hsw : swapsWith (.ListComp elt [⟨tg, iter, ifs, 0⟩] scope pos) (some (.Name y py)) spos.line X.env = pure true := by rfl) (ok : blkC X.N X.env.scope scope own = true := by first | decide +kernel | (dsimp only [cxF, Cx.nox, Cx.wish, cxOf, envOfC]; decide +kernel) | rfl) (hp : ∀ i ∈ p.slots, i ∈ vs := by decide) (hs : ∀ x, foldedSetIterable iter X.env x = pure x := by exact fun _ => rfl) :
    PS X (.Assign [.Name y py] (.ListComp elt [⟨tg, iter, ifs, 0⟩] scope pos) spos) (tS X.K ca (asgM (.nm i) (lcE mi p vs mt me))) := by
  subst hv
  exact s_setLc ck hy hyl hsw hi (blkOk_by ok) hp hg ht he hs
/-! statements -/
theorem z_nil : PSs X [] (tS X.K ca skM) := s_nil
theorem z_cons (h1 : PS X st (tS X.K ca na)) (h2 : PSs X sa (tS X.K ca nb)) : PSs X (st :: sa) (tS X.K ca (sq na nb)) := s_cons h1 h2
theorem z_one (h1 : PS X st (tS X.K ca na)) : PSs X [st] (tS X.K ca na) := s_one h1
theorem z_pass : PS X (.Pass pos) (tS X.K ca skM) := s_pass
theorem z_brk : PS X (.Break pos) (tS X.K ca brkM) := s_brk
theorem z_cnt : PS X (.Continue pos) (tS X.K ca cntM) := s_cont
theorem z_bad : PS X st (tS X.K ca badM) := s_bad
theorem z_ex (he : PE X e (tE X.K ca ma)) (hs : swapsWith e none pos.line X.env = pure false := by rfl) : PS X (.Expr e pos) (tS X.K ca (exM ma)) := s_ex he hs
theorem z_ret (he : PE X e (tE X.K ca ma)) : PS X (.Return (some e) pos) (tS X.K ca (retM ma)) := s_ret he
theorem z_retN : PS X (.Return none pos) (tS X.K ca retN) := s_retN
theorem z_if (hc : PT X e (tT X.K ca (tst ma))) (ha : PSs X sa (tS X.K ca na)) (hb : PSs X sb (tS X.K ca nb)) : PS X (.If e sa sb pos) (tS X.K ca (ifM ma na nb)) := s_if hc ha hb
theorem z_asg {tg : Expr} {p : P} (hg : PG X tg (gW X.K p)) (he : PE X e (tE X.K ca ma)) (hs : swapsWithSole [tg] e pos.line X.env = pure false := by rfl) (hw : swappedStores [tg] e X.env = pure none := by rfl)
    (h1 : (assignEach [tg] X.env).map (·.2) = [assign tg X.env] := by rfl) : PS X (.Assign [tg] e pos) (tS X.K ca (asgM p ma)) := s_asg he hg hs hw h1
theorem z_par2 (ck : Ck X) (i j : Nat) {x y : Str} {px py pt : Pos} {kt k2 pt2} (ha : PA X [a, b] (tA X.K ca ms)) (hi : X.N[i]? = some x := by rfl) (hj : X.N[j]? = some y := by rfl) (hij : i ≠ j := by decide) (hx : X.env.scope.names.lookup x = some .local := by rfl) (hy : X.env.scope.names.lookup y = some .local := by rfl)
    (hw : swappedStores [.Tuple [.Name x px, .Name y py] kt pt] (.Tuple [a, b] k2 pt2) X.env = pure (some [x, y]) := by rfl)
    (hs : swapsWithSole [.Tuple [.Name x px, .Name y py] kt pt] (.Tuple [a, b] k2 pt2) pos.line X.env = pure false := by rfl) :
    PS X (.Assign [.Tuple [.Name x px, .Name y py] kt pt] (.Tuple [a, b] k2 pt2) pos) (tS X.K ca (par2M i j ms)) := s_par2 ck hi hj hij hx hy ha hw hs
theorem z_par3 (ck : Ck X) (i j l : Nat) {x y z : Str} {px py pz pt : Pos} {kt k2 pt2} (ha : PA X [a, b, c] (tA X.K ca ms)) (hi : X.N[i]? = some x := by rfl) (hj : X.N[j]? = some y := by rfl) (hl : X.N[l]? = some z := by rfl) (hij : i ≠ j := by decide) (hil : i ≠ l := by decide) (hjl : j ≠ l := by decide)
    (hx : X.env.scope.names.lookup x = some .local := by rfl) (hy : X.env.scope.names.lookup y = some .local := by rfl) (hz : X.env.scope.names.lookup z = some .local := by rfl)
    (hw : swappedStores [.Tuple [.Name x px, .Name y py, .Name z pz] kt pt] (.Tuple [a, b, c] k2 pt2) X.env = pure (some [x, y, z]) := by rfl)
    (hs : swapsWithSole [.Tuple [.Name x px, .Name y py, .Name z pz] kt pt] (.Tuple [a, b, c] k2 pt2) pos.line X.env = pure false := by rfl) :
    PS X (.Assign [.Tuple [.Name x px, .Name y py, .Name z pz] kt pt] (.Tuple [a, b, c] k2 pt2) pos) (tS X.K ca (par3M i j l ms)) := s_par3 ck hi hj hl hij hil hjl hx hy hz ha hw hs
theorem z_set (ck : Ck X) {o i : Expr} {mo mi : EM} {tp : Pos} (ho : PE X o (tE X.K ca mo)) (hi : PE X i (tE X.K ca mi)) (he : PE X e (tE X.K ca ma))
    (ha : ∀ v, assign (.Subscript o i tp) X.env v = (do
      let ov ← holding [v] (eval o X.env)
      let iv ← holding [v, ov] (eval i X.env)
      standAt tp
      holding [v, ov, iv] (setItem ov iv v)
      release [v, ov, iv] []) := by exact fun _ => rfl)
    (hs : swapsWithSole [.Subscript o i tp] e pos.line X.env = pure false := by rfl) (hw : swappedStores [.Subscript o i tp] e X.env = pure none := by rfl)
    (h1 : (assignEach [.Subscript o i tp] X.env).map (·.2) = [assign (.Subscript o i tp) X.env] := by rfl) : PS X (.Assign [.Subscript o i tp] e pos) (tS X.K ca (setM mo mi ma)) := s_setI ck he ho hi ha hs hw h1
theorem z_wh (hp : PassesOwn (model X.prog X.w) X.A X.env X.xe) (hc : PT X e (tT X.K ca (tst ma))) (hb : PSs X sa (tS X.K ca na)) : PS X (.While e sa [] pos) (tS X.K ca (whM ma na)) := s_whl hp hc hb WF
theorem z_for (ck : Ck X) (hp : PassesOwn (model X.prog X.w) X.A X.env X.xe) {tg iter : Expr} {p : P} {mi : Sl → M (List D)} (hi : PI X tg iter (iW X.K ca mi)) (hg : PG X tg (gW X.K p)) (hb : PSs X sa (tS X.K ca na))
    (hs : ∀ x, foldedSetIterable iter X.env x = pure x := by exact fun _ => rfl) : PS X (.For tg iter sa [] pos) (tS X.K ca (foM p mi na)) := s_for ck hp hi hg hb hs
end
end MP

/-! Reckoning with the core. -/
namespace MP
open PySem L2 PySem.Spec PyProof.Rows
section
variable {S : Sto} {ρ : Sl} {q : W → Sto → Prop}
theorem post_some {α : Type} (a : α) (q : α → Sto → Prop) : post (some (Out.ok a S)) q = q a S := rfl
theorem post_none {α : Type} (q : α → Sto → Prop) : post (none : Option (Out α)) q = False := rfl
theorem post_fn {np nsl : Nat} {body : SM} {ws : List W} (h : ws.length = np)
    (k : post (body (ws.map some ++ List.replicate (nsl - np) none) S) (fun f S' => match f with
      | .nx _ => q (.d .none) (leave S.length (.d .none) S')
      | .rt w => q w (leave S.length w S')
      | _ => False)) : post (fnB np nsl body ws S) q := by
  unfold fnB
  rw [if_pos h, post_bnd, h]
  refine k.imp fun f S' z => ?_
  cases f <;> exact z
theorem leave_same {n : Nat} {w : W} {S : Sto} (h : S.length ≤ n) : leave n w S = S := if_pos h
theorem leave_cut {n : Nat} {x : D} {R : Sto} (hn : n = S.length) (h : S.all (O.below n) = true) : leave n (.d x) (S ++ R) = S := by
  subst hn
  unfold leave
  by_cases c : (S ++ R).length ≤ S.length
  · rw [if_pos c]
    rw [List.length_append] at c
    rw [List.eq_nil_of_length_eq_zero (show R.length = 0 by omega), List.append_nil]
  · rw [if_neg c]
    dsimp only
    rw [List.take_left', if_pos h]
    rfl
theorem opt_some {α : Type} (a : α) : opt (some a) = ret a := rfl
theorem opt_none {α : Type} : (opt none : M α) = bad := rfl
theorem sq_ap (a b : SM) (q : Fl → Sto → Prop) : post (sq a b ρ S) q = post (a ρ S) (fun f S' => match f with
    | .nx ρ' => post (b ρ' S') q
    | .rt w => q (.rt w) S'
    | .bk r => q (.bk r) S'
    | .ct r => q (.ct r) S') := by
  unfold sq
  rw [post_bnd]
  congr 1
  funext f S'
  cases f <;> rfl
/-! expressions -/
theorem a_k (d : D) : post (kM d ρ S) q = q (.d d) S := rfl
theorem a_v (i : Nat) : post (vM i ρ S) q = post (getV ρ i S) q := rfl
theorem getV_cons0 (w : W) (r : Sl) : getV (some w :: r) 0 = ret w := rfl
theorem getV_cons (x : Option W) (r : Sl) (i : Nat) : getV (x :: r) (i + 1) = getV r i := rfl
theorem a_bin (o : B2) (a b : EM) : post (binM o a b ρ S) q = post (a ρ S) fun x S1 => post (b ρ S1) fun y S2 => post (binW o x y S2) q := by
  unfold binM; rw [post_bnd]; congr 1; funext x S1; rw [post_bnd]
theorem a_cmp (o : C2) (a b : EM) : post (cmpM o a b ρ S) q = post (a ρ S) fun x S1 => post (b ρ S1) fun y S2 => post (cmpW o x y S2) fun t S3 => q (.d (.bool t)) S3 := by
  unfold cmpM cmpV; rw [post_bnd]; congr 1; funext x S1; rw [post_bnd]; congr 1; funext y S2; rw [post_bnd]; rfl
theorem a_ch (o1 o2 : C2) (a b c : EM) : post (chM o1 o2 a b c ρ S) q = post (a ρ S) fun x S1 => post (b ρ S1) fun y S2 => post (cmpW o1 x y S2) fun t S3 => if t = true then post (c ρ S3) fun z S4 => post (cmpW o2 y z S4) fun t S5 => q (.d (.bool t)) S5 else q (.d (.bool false)) S3 := by
  unfold chM; rw [post_bnd]; congr 1; funext x S1; rw [post_bnd]; congr 1; funext y S2; rw [post_bnd]; congr 1; funext t S3
  cases t
  · rfl
  · rw [if_pos rfl, if_pos rfl, post_bnd]; congr 1; funext z S4; unfold cmpV; rw [post_bnd]; rfl
theorem a_neg (a : EM) : post (negM a ρ S) q = post (a ρ S) fun x S1 => post (negW x S1) q := by unfold negM; rw [post_bnd]
theorem a_not (a : EM) : post (notM a ρ S) q = post (a ρ S) fun x S1 => post (truW x S1) fun t S2 => q (.d (.bool (!t))) S2 := by unfold notM; rw [post_bnd]; congr 1; funext x S1; rw [post_bnd]; rfl
theorem post_ite {α : Type} (t : Bool) (a b : M α) (S : Sto) (q : α → Sto → Prop) : post ((if t = true then a else b) S) q = if t = true then post (a S) q else post (b S) q := by cases t <;> rfl
theorem a_and (a b : EM) : post (andM a b ρ S) q = post (a ρ S) fun x S1 => post (truW x S1) fun t S2 => if t = true then post (b ρ S2) q else q x S2 := by
  unfold andM; rw [post_bnd]; congr 1; funext x S1; rw [post_bnd]; congr 1; funext t S2; rw [post_ite]; rfl
theorem a_or (a b : EM) : post (orM a b ρ S) q = post (a ρ S) fun x S1 => post (truW x S1) fun t S2 => if t = true then q x S2 else post (b ρ S2) q := by
  unfold orM; rw [post_bnd]; congr 1; funext x S1; rw [post_bnd]; congr 1; funext t S2; rw [post_ite]; rfl
theorem a_ite (c a b : EM) : post (iteM c a b ρ S) q = post (c ρ S) fun x S1 => post (truW x S1) fun t S2 => if t = true then post (a ρ S2) q else post (b ρ S2) q := by
  unfold iteM; rw [post_bnd]; congr 1; funext x S1; rw [post_bnd]; congr 1; funext t S2; rw [post_ite]
theorem a_sub (a b : EM) : post (subM a b ρ S) q = post (a ρ S) fun x S1 => post (b ρ S1) fun y S2 => post (subW x y S2) q := by
  unfold subM; rw [post_bnd]; congr 1; funext x S1; rw [post_bnd]
theorem a_slc (a : EM) (lo hi : Sl → M (Option W)) : post (slcM a lo hi ρ S) q = post (a ρ S) fun x S1 => post (lo ρ S1) fun l S2 => post (hi ρ S2) fun h S3 => match asOI l, asOI h with
    | some l, some h => post (slcW x l h S3) q
    | _, _ => False := by
  unfold slcM; rw [post_bnd]; congr 1; funext x S1; rw [post_bnd]; congr 1; funext l S2; rw [post_bnd]; congr 1; funext h S3
  cases asOI l <;> cases asOI h <;> rfl
theorem a_no (q : Option W → Sto → Prop) : post (noM ρ S) q = q none S := rfl
theorem a_so (a : EM) (q : Option W → Sto → Prop) : post (soM a ρ S) q = post (a ρ S) fun w S1 => q (some w) S1 := by unfold soM; rw [post_bnd]; rfl
theorem a_nil' (q : List W → Sto → Prop) : post (nilM ρ S) q = q [] S := rfl
theorem a_cons' (a : EM) (r : AM) (q : List W → Sto → Prop) : post (consM a r ρ S) q = post (a ρ S) fun w S1 => post (r ρ S1) fun ws S2 => q (w :: ws) S2 := by unfold consM; rw [post_bnd]; congr 1; funext w S1; rw [post_bnd]; rfl
theorem a_tup (ms : AM) : post (tupM ms ρ S) q = post (ms ρ S) fun ws S1 => ∃ xs, dataOf ws = some xs ∧ xs.length ≤ SZ ∧ q (.d (.tuple xs)) S1 := by
  unfold tupM; rw [post_bnd]; congr 1; funext ws S1
  cases dataOf ws with
  | none => exact propext ⟨fun h => h.elim, fun ⟨_, h, _⟩ => by cases h⟩
  | some xs =>
    by_cases c : xs.length ≤ SZ
    · simp only [if_pos c]; exact propext ⟨fun h => ⟨xs, rfl, c, h⟩, fun ⟨_, h, _, k⟩ => by cases h; exact k⟩
    · simp only [if_neg c]; exact propext ⟨fun h => h.elim, fun ⟨_, h, c', _⟩ => by cases h; exact c c'⟩
theorem a_lst (ms : AM) : post (lstM ms ρ S) q = post (ms ρ S) fun ws S1 => ∃ xs, dataOf ws = some xs ∧ xs.length ≤ SZ ∧ q (.d (.list xs)) S1 := by
  unfold lstM; rw [post_bnd]; congr 1; funext ws S1
  cases dataOf ws with
  | none => exact propext ⟨fun h => h.elim, fun ⟨_, h, _⟩ => by cases h⟩
  | some xs =>
    by_cases c : xs.length ≤ SZ
    · simp only [if_pos c]; exact propext ⟨fun h => ⟨xs, rfl, c, h⟩, fun ⟨_, h, _, k⟩ => by cases h; exact k⟩
    · simp only [if_neg c]; exact propext ⟨fun h => h.elim, fun ⟨_, h, c', _⟩ => by cases h; exact c c'⟩
theorem a_nl (ms : AM) : post (nlM ms ρ S) q = post (ms ρ S) fun ws S1 => ws.length ≤ SZ ∧ q (.r S1.length) (S1 ++ [.lst ws]) := by
  unfold nlM; rw [post_bnd]; congr 1; funext ws S1
  by_cases c : ws.length ≤ SZ
  · rw [if_pos c]; exact propext ⟨fun h => ⟨c, h⟩, fun h => h.2⟩
  · rw [if_neg c]; exact propext ⟨fun h => h.elim, fun h => c h.1⟩
theorem a_ndk : post (ndkM ρ S) q = q (.r S.length) (S ++ [.dk []]) := rfl
theorem a_call (m : List W → M W) (ms : AM) : post (callM m ms ρ S) q = post (ms ρ S) fun ws S1 => post (m ws S1) q := by unfold callM; rw [post_bnd]
theorem a_bi (f : B1) (ms : AM) : post (biM f ms ρ S) q = post (ms ρ S) fun ws S1 => post (b1W f ws S1) q := by unfold biM; rw [post_bnd]
theorem a_isi (T : String) (a : EM) : post (isiM T a ρ S) q = post (a ρ S) fun w S1 => post (b1W (.isI T) [w] S1) q := by unfold isiM; rw [post_bnd]
theorem a_app (o a : EM) : post (appM o a ρ S) q = post (o ρ S) fun x S1 => post (rcv .append x S1) fun _ S2 => post (a ρ S2) fun w S3 => post (meW .append x [w] S3) q := by
  unfold appM; rw [post_bnd]; congr 1; funext x S1; rw [post_bnd]; congr 1; funext u S2; rw [post_bnd]
theorem a_sd (o a b : EM) : post (sdM o a b ρ S) q = post (o ρ S) fun x S1 => post (rcv .setdefault x S1) fun _ S2 => post (a ρ S2) fun y S3 => post (b ρ S3) fun z S4 => post (meW .setdefault x [y, z] S4) q := by
  unfold sdM; rw [post_bnd]; congr 1; funext x S1; rw [post_bnd]; congr 1; funext u S2; rw [post_bnd]; congr 1; funext y S3; rw [post_bnd]
theorem a_tst (m : EM) (q : Bool → Sto → Prop) : post (tst m ρ S) q = post (m ρ S) fun w S1 => post (truW w S1) q := by unfold tst; rw [post_bnd]
/-! statements -/
variable {Q : Fl → Sto → Prop}
theorem a_sk : post (skM ρ S) Q = Q (.nx ρ) S := rfl
theorem a_brk : post (brkM ρ S) Q = Q (.bk ρ) S := rfl
theorem a_cnt : post (cntM ρ S) Q = Q (.ct ρ) S := rfl
theorem a_bad : post (badM ρ S) Q = False := rfl
theorem a_ex (a : EM) : post (exM a ρ S) Q = post (a ρ S) fun _ S1 => Q (.nx ρ) S1 := by unfold exM; rw [post_bnd]; rfl
theorem a_ret (a : EM) : post (retM a ρ S) Q = post (a ρ S) fun w S1 => Q (.rt w) S1 := by unfold retM; rw [post_bnd]; rfl
theorem a_retN : post (retN ρ S) Q = Q (.rt (.d .none)) S := rfl
theorem a_if (c : EM) (a b : SM) : post (ifM c a b ρ S) Q = post (c ρ S) fun w S1 => post (truW w S1) fun t S2 => if t = true then post (a ρ S2) Q else post (b ρ S2) Q := by
  unfold ifM; rw [post_bnd, a_tst]; congr 1; funext w S1; congr 1; funext t S2; rw [post_ite]
theorem a_asg (i : Nat) (a : EM) : post (asgM (.nm i) a ρ S) Q = post (a ρ S) fun w S1 => Q (.nx (ρ.set i (some w))) S1 := by unfold asgM; rw [post_bnd]; rfl
theorem a_asgT (is : List Nat) (a : EM) : post (asgM (.tup is) a ρ S) Q = post (a ρ S) fun w S1 => ∃ ρ', bindP (.tup is) w ρ = some ρ' ∧ Q (.nx ρ') S1 := by
  unfold asgM; rw [post_bnd]; congr 1; funext w S1; rw [post_bnd]
  cases bindP (.tup is) w ρ with
  | none => exact propext ⟨fun h => h.elim, fun ⟨_, h, _⟩ => by cases h⟩
  | some r => exact propext ⟨fun h => ⟨r, rfl, h⟩, fun ⟨_, h, k⟩ => by cases h; exact k⟩
theorem a_par2 (i j : Nat) (a b : EM) : post (par2M i j (consM a (consM b nilM)) ρ S) Q = post (a ρ S) fun x S1 => post (b ρ S1) fun y S2 => Q (.nx ((ρ.set i (some x)).set j (some y))) S2 := by
  unfold par2M; rw [post_bnd, a_cons']; congr 1; funext x S1; rw [a_cons']; rfl
theorem a_par3 (i j l : Nat) (a b c : EM) : post (par3M i j l (consM a (consM b (consM c nilM))) ρ S) Q = post (a ρ S) fun x S1 => post (b ρ S1) fun y S2 => post (c ρ S2) fun z S3 => Q (.nx (((ρ.set i (some x)).set j (some y)).set l (some z))) S3 := by
  unfold par3M; rw [post_bnd, a_cons']; congr 1; funext x S1; rw [a_cons']; congr 1; funext y S2; rw [a_cons']; rfl
theorem a_set (o i e : EM) : post (setM o i e ρ S) Q = post (e ρ S) fun w S1 => post (o ρ S1) fun x S2 => post (i ρ S2) fun y S3 => post (setW x y w S3) fun _ S4 => Q (.nx ρ) S4 := by
  unfold setM; rw [post_bnd]; congr 1; funext w S1; rw [post_bnd]; congr 1; funext x S2; rw [post_bnd]; congr 1; funext y S3; rw [post_bnd]; rfl
theorem a_for (p : P) (mi : Sl → M (List D)) (b : SM) : post (foM p mi b ρ S) Q = post (mi ρ S) fun items S1 => post (forM p b items ρ S1) Q := by unfold foM; rw [post_bnd]
theorem for_nil (p : P) (b : SM) : post (forM p b [] ρ S) Q = Q (.nx ρ) S := rfl
theorem for_cons (p : P) (b : SM) (x : D) (r : List D) : post (forM p b (x :: r) ρ S) Q = ∃ ρ', bindP p (.d x) ρ = some ρ' ∧ post (b ρ' S) (fun f S1 => match f with
    | .nx ρ2 => post (forM p b r ρ2 S1) Q
    | .ct ρ2 => post (forM p b r ρ2 S1) Q
    | .bk ρ2 => Q (.nx ρ2) S1
    | .rt w => Q (.rt w) S1) := by
  conv => lhs; unfold forM
  rw [post_bnd]
  cases bindP p (.d x) ρ with
  | none => exact propext ⟨fun h => h.elim, fun ⟨_, h, _⟩ => by cases h⟩
  | some r' =>
    have e : post (opt (some r') S) (fun a S' => post ((bnd (b a) fun f => match f with
      | .nx ρ2 => forM p b r ρ2
      | .ct ρ2 => forM p b r ρ2
      | .bk ρ2 => ret (.nx ρ2)
      | .rt w => ret (.rt w)) S') Q) = post (b r' S) (fun f S1 => match f with
      | .nx ρ2 => post (forM p b r ρ2 S1) Q
      | .ct ρ2 => post (forM p b r ρ2 S1) Q
      | .bk ρ2 => Q (.nx ρ2) S1
      | .rt w => Q (.rt w) S1) := by
      show post ((bnd (b r') _) S) Q = _
      rw [post_bnd]; congr 1; funext f S1; cases f <;> rfl
    exact propext ⟨fun h => ⟨r', rfl, Eq.mp e h⟩, fun ⟨_, h, k⟩ => by cases h; exact Eq.mpr e k⟩
/-- a loop by an invariant -/
theorem for_inv {p : P} {b : SM} {Q : Fl → Sto → Prop} (I : Nat → Sl → Sto → Prop) : ∀ (items : List D) (n : Nat), (∀ (i : Nat) (x : D) ρ S, items[i]? = some x → I (n + i) ρ S → ∃ ρ', bindP p (.d x) ρ = some ρ' ∧ post (b ρ' S) (fun f S1 => match f with
    | .nx ρ2 => I (n + i + 1) ρ2 S1
    | .ct ρ2 => I (n + i + 1) ρ2 S1
    | .bk ρ2 => False
    | .rt w => False)) → (∀ ρ S, I (n + items.length) ρ S → Q (.nx ρ) S) → ∀ ρ S, I n ρ S → post (forM p b items ρ S) Q
  | [], n, _, fin, ρ, S, h => fin ρ S h
  | x :: r, n, turn, fin, ρ, S, h => by
    rw [for_cons]
    obtain ⟨ρ', e, k⟩ := turn 0 x ρ S rfl h
    refine ⟨ρ', e, k.imp fun f S1 z => ?_⟩
    have go : ∀ ρ2, I (n + 1) ρ2 S1 → post (forM p b r ρ2 S1) Q := fun ρ2 h2 => for_inv I r (n + 1) (fun i x ρ S e h => by
        have q := turn (i + 1) x ρ S (by simpa using e) (by rw [← Nat.add_assoc, Nat.add_right_comm]; exact h)
        rw [show n + 1 + i + 1 = n + (i + 1) + 1 by omega]; exact q) (fun ρ S h => fin ρ S (by rw [List.length_cons, show n + (r.length + 1) = n + 1 + r.length by omega]; exact h)) ρ2 S1 h2
    cases f with
    | nx ρ2 => exact go ρ2 z
    | ct ρ2 => exact go ρ2 z
    | bk _ => exact z.elim
    | rt _ => exact z.elim
theorem a_seq (a : EM) (q : List D → Sto → Prop) : post (seqI a ρ S) q = post (a ρ S) fun w S1 => ∃ xs, itemsOf .seq [w] = some xs ∧ q xs S1 := by
  unfold seqI; rw [post_bnd]; congr 1; funext w S1
  cases itemsOf .seq [w] with
  | none => exact propext ⟨fun h => h.elim, fun ⟨_, h, _⟩ => by cases h⟩
  | some r => exact propext ⟨fun h => ⟨r, rfl, h⟩, fun ⟨_, h, k⟩ => by cases h; exact k⟩
theorem a_enum (ms : AM) (q : List D → Sto → Prop) : post (enumI ms ρ S) q = post (ms ρ S) fun w S1 => ∃ xs, itemsOf .enum w = some xs ∧ q xs S1 := by
  unfold enumI; rw [post_bnd]; congr 1; funext w S1
  cases itemsOf .enum w with
  | none => exact propext ⟨fun h => h.elim, fun ⟨_, h, _⟩ => by cases h⟩
  | some r => exact propext ⟨fun h => ⟨r, rfl, h⟩, fun ⟨_, h, k⟩ => by cases h; exact k⟩
theorem a_rng1 (a : EM) (q : List D → Sto → Prop) : post (rng1I (consM a nilM) ρ S) q = post (a ρ S) fun w S1 => ∃ xs, itemsOf .rng [w] = some xs ∧ q xs S1 := by
  unfold rng1I; rw [post_bnd, a_cons']; congr 1; funext w S1
  show post (opt (itemsOf .rng [w]) S1) q = _
  cases itemsOf .rng [w] with
  | none => exact propext ⟨fun h => h.elim, fun ⟨_, h, _⟩ => by cases h⟩
  | some r => exact propext ⟨fun h => ⟨r, rfl, h⟩, fun ⟨_, h, k⟩ => by cases h; exact k⟩
theorem a_rng2 (a b : EM) (q : List D → Sto → Prop) : post (rng2I (consM a (consM b nilM)) ρ S) q = post (a ρ S) fun w S1 => post (b ρ S1) fun u S2 => ∃ xs, itemsOf .rng [w, u] = some xs ∧ q xs S2 := by
  unfold rng2I; rw [post_bnd, a_cons']; congr 1; funext w S1; rw [a_cons']; congr 1; funext u S2
  show post (opt (itemsOf .rng [w, u]) S2) q = _
  cases itemsOf .rng [w, u] with
  | none => exact propext ⟨fun h => h.elim, fun ⟨_, h, _⟩ => by cases h⟩
  | some r => exact propext ⟨fun h => ⟨r, rfl, h⟩, fun ⟨_, h, k⟩ => by cases h; exact k⟩
theorem a_lc (mi : Sl → M (List D)) (p : P) (own : List Nat) (mt : Sl → M Bool) (me : EM) : post (lcE mi p own mt me ρ S) q = post (mi ρ S) fun items S1 => post (lcM (lcT p own mt me ρ) items S1) fun ys S2 => ys.length ≤ SZ ∧ q (.d (.list ys)) S2 := by
  unfold lcE; rw [post_bnd]; congr 1; funext items S1; rw [post_bnd]; congr 1; funext ys S2
  unfold sizeOk
  by_cases c : ys.length ≤ SZ
  · rw [if_pos c]; exact propext ⟨fun h => ⟨c, h⟩, fun h => h.2⟩
  · rw [if_neg c]; exact propext ⟨fun h => h.elim, fun h => c h.1⟩
/-- a comprehension without a test, turn by turn -/
theorem lc_inv {turn : D → M (Option D)} {q : List D → Sto → Prop} (I : List D → Sto → Prop) (R : Nat → D → Prop) : ∀ (items : List D) (n : Nat) (acc : List D), (∀ (i : Nat) (x : D) acc S, items[i]? = some x → I acc S → acc.length = n + i → post (turn x S) (fun y S1 => ∃ z, y = some z ∧ I (acc ++ [z]) S1)) → acc.length = n →
    (∀ acc S, I acc S → acc.length = n + items.length → q acc S) → ∀ S, I acc S → post (lcM turn items S) (fun ys S1 => q (acc ++ ys) S1)
  | [], n, acc, _, hl, fin, S, h => by
    show q (acc ++ []) S
    rw [List.append_nil]
    exact fin acc S h hl
  | x :: r, n, acc, step, hl, fin, S, h => by
    unfold lcM
    rw [post_bnd]
    refine (step 0 x acc S rfl h hl).imp fun y S1 z => ?_
    obtain ⟨d, rfl, h1⟩ := z
    rw [post_bnd]
    have go := lc_inv (q := q) I R r (n + 1) (acc ++ [d]) (fun i x acc S e h hl => step (i + 1) x acc S (by simpa using e) h (by omega)) (by simp [hl]) (fun acc S h hl => fin acc S h (by rw [List.length_cons]; omega)) S1 h1
    refine go.imp fun ys S2 k => ?_
    show q (acc ++ d :: ys) S2
    rw [List.append_cons]
    exact k
/-! values -/
theorem v_add (i j : Int) : post (binW .add (.d (.int i)) (.d (.int j)) S) q = q (.d (.int (i + j))) S := rfl
theorem v_sub (i j : Int) : post (binW .sub (.d (.int i)) (.d (.int j)) S) q = q (.d (.int (i - j))) S := rfl
theorem v_band (i j : Int) : post (binW .band (.d (.int i)) (.d (.int j)) S) q = q (.d (.int (Builtin.bitAnd i j))) S := rfl
theorem bin_pos {o : B2} {x y z : D} (h : binD o x y = some z) : post (binW o (.d x) (.d y) S) q = q (.d z) S := by
  show post (bnd (opt (binD o x y)) (fun z => ret (.d z)) S) q = _
  rw [h]; rfl
theorem v_mul {i j : Int} (h : (-(2 ^ 64) < i ∧ i < 2 ^ 64) ∨ (-(2 ^ 64) < j ∧ j < 2 ^ 64)) : post (binW .mul (.d (.int i)) (.d (.int j)) S) q = q (.d (.int (i * j))) S := bin_pos (if_pos h)
theorem v_fdiv {i j : Int} (h : 0 < j ∧ j < 18446744073709551616) : post (binW .fdiv (.d (.int i)) (.d (.int j)) S) q = q (.d (.int (i / j))) S := bin_pos (if_pos h)
theorem v_mod {i j : Int} (h : 0 < j) : post (binW .mod (.d (.int i)) (.d (.int j)) S) q = q (.d (.int (i % j))) S := bin_pos (if_pos h)
theorem v_pow {i j : Int} (h : 0 ≤ j ∧ j ≤ 1000000 ∧ i.natAbs < 2 ^ 64) : post (binW .pow (.d (.int i)) (.d (.int j)) S) q = q (.d (.int (i ^ j.toNat))) S := bin_pos (if_pos h)
theorem v_cat {xs ys : List D} (h : xs.length + ys.length ≤ SZ) : post (binW .add (.d (.tuple xs)) (.d (.tuple ys)) S) q = q (.d (.tuple (xs ++ ys))) S := bin_pos (if_pos h)
theorem v_catL {xs ys : List D} (h : xs.length + ys.length ≤ SZ) : post (binW .add (.d (.list xs)) (.d (.list ys)) S) q = q (.d (.list (xs ++ ys))) S := bin_pos (if_pos h)
theorem v_rep {xs : List D} {k : Int} (h : xs ≠ [] ∧ 2 ≤ k ∧ (xs.length : Int) * k ≤ 1000000) : post (binW .mul (.d (.tuple xs)) (.d (.int k)) S) q = q (.d (.tuple (List.replicate k.toNat xs).flatten)) S := bin_pos (if_pos h)
theorem v_neg (i : Int) : post (negW (.d (.int i)) S) q = q (.d (.int (-i))) S := rfl
section
variable {qb : Bool → Sto → Prop}
theorem v_trB (b : Bool) : post (truW (.d (.bool b)) S) qb = qb b S := rfl
theorem v_trI (i : Int) : post (truW (.d (.int i)) S) qb = qb (i != 0) S := rfl
theorem v_trN : post (truW (.d .none) S) qb = qb false S := rfl
theorem v_lt (i j : Int) : post (cmpW .lt (.d (.int i)) (.d (.int j)) S) qb = qb (decide (i < j)) S := rfl
theorem v_le (i j : Int) : post (cmpW .le (.d (.int i)) (.d (.int j)) S) qb = qb (decide (i ≤ j)) S := rfl
theorem v_gt (i j : Int) : post (cmpW .gt (.d (.int i)) (.d (.int j)) S) qb = qb (decide (j < i)) S := rfl
theorem v_ge (i j : Int) : post (cmpW .ge (.d (.int i)) (.d (.int j)) S) qb = qb (decide (j ≤ i)) S := rfl
theorem v_eqI (i j : Int) : post (cmpW .eq (.d (.int i)) (.d (.int j)) S) qb = qb (i == j) S := rfl
theorem v_neI (i j : Int) : post (cmpW .ne (.d (.int i)) (.d (.int j)) S) qb = qb (!(i == j)) S := rfl
theorem v_eqS (x y : Str) : post (cmpW .eq (.d (.str x)) (.d (.str y)) S) qb = qb (x == y) S := rfl
theorem v_neS (x y : Str) : post (cmpW .ne (.d (.str x)) (.d (.str y)) S) qb = qb (!(x == y)) S := rfl
theorem v_isn (x : W) : post (cmpW .isn x (.d .none) S) qb = qb (isNone x) S := by cases x with
  | r _ => rfl
  | d x => cases x <;> rfl
theorem v_isnn (x : W) : post (cmpW .isnn x (.d .none) S) qb = qb (!isNone x) S := by cases x with
  | r _ => rfl
  | d x => cases x <;> rfl
theorem v_eqD {x y : D} {b : Bool} (h : eqD x y = some b) : post (cmpW .eq (.d x) (.d y) S) qb = qb b S := by
  show post ((eqD x y).map fun b => .ok b S) qb = _
  rw [h]; rfl
theorem v_neD {x y : D} {b : Bool} (h : eqD x y = some b) : post (cmpW .ne (.d x) (.d y) S) qb = qb (!b) S := by
  show post ((eqD x y).map fun b => .ok (!b) S) qb = _
  rw [h]; rfl
end
theorem v_ixT {xs : List D} {k : Int} {x : D} (h : L2.atI xs k = some x) : post (subW (.d (.tuple xs)) (.d (.int k)) S) q = q (.d x) S := by
  show post ((L2.atI xs k).map fun x => .ok (.d x) S) q = _
  rw [h]; rfl
theorem v_ixL {xs : List D} {k : Int} {x : D} (h : L2.atI xs k = some x) : post (subW (.d (.list xs)) (.d (.int k)) S) q = q (.d x) S := by
  show post ((L2.atI xs k).map fun x => .ok (.d x) S) q = _
  rw [h]; rfl
theorem v_ixR {i : Nat} {xs : List W} {k : Int} {x : W} (e : S[i]? = some (.lst xs)) (h : L2.atI xs k = some x) : post (subW (.r i) (.d (.int k)) S) q = q x S := by
  unfold subW
  simp only [e, h]
  rfl
theorem v_setR {i j : Nat} {xs : List W} {k : Int} {w : W} {qu : Unit → Sto → Prop} (e : S[i]? = some (.lst xs)) (h : ixN xs.length k = some j) : post (setW (.r i) (.d (.int k)) w S) qu = qu () (S.set i (.lst (xs.set j w))) := by
  unfold setW
  simp only [e, h]
  rfl
theorem v_b1 {f : B1} {xs : List D} {y : D} (h1 : f ≠ .len) (h2 : f ≠ .tuple) (h : b1D f xs = some y) : post (b1W f (xs.map .d) S) q = q (.d y) S := by
  rw [b1_only h1 h2]
  have e : dataOf (xs.map W.d) = some xs := by
    clear h
    induction xs with
    | nil => rfl
    | cons x r ih => show (dataOf (r.map W.d)).map (x :: ·) = _; rw [ih]; rfl
  rw [e]
  show post ((b1D f xs).map fun y => .ok (.d y) S) q = _
  rw [h]; rfl
theorem v_int (i : Int) : post (b1W .int [.d (.int i)] S) q = q (.d (.int i)) S := rfl
theorem v_abs (i : Int) : post (b1W .abs [.d (.int i)] S) q = q (.d (.int (if i < 0 then -i else i))) S := rfl
theorem v_lenT (xs : List D) : post (b1W .len [.d (.tuple xs)] S) q = q (.d (.int xs.length)) S := rfl
theorem v_lenL (xs : List D) : post (b1W .len [.d (.list xs)] S) q = q (.d (.int xs.length)) S := rfl
theorem v_tupL (xs : List D) : post (b1W .tuple [.d (.list xs)] S) q = q (.d (.tuple xs)) S := rfl
theorem v_lstL (xs : List D) : post (b1W .list [.d (.list xs)] S) q = q (.d (.list xs)) S := rfl
theorem v_repr {x : D} {z : Str} (h : reprD x = some z) : post (b1W .repr [.d x] S) q = q (.d (.str z)) S := by
  have e : b1D .repr [x] = some (.str z) := by
    show (reprD x).map PyData.str = _
    rw [h]; rfl
  exact v_b1 (xs := [x]) (by decide) (by decide) e
end
end MP

/-! Tables; texts of tuples. -/
namespace MP
open PySem L2 PySem.Spec PyProof.Rows
theorem v_isi {S : Sto} {q : W → Sto → Prop} {T : String} {x : D} {b : Bool} (h : isI T x = some b) : post (b1W (.isI T) [.d x] S) q = q (.d (.bool b)) S := by
  have e : b1D (.isI T) [x] = some (.bool b) := by
    show (isI T x).map PyData.bool = _
    rw [h]; rfl
  exact v_b1 (xs := [x]) (by intro z; cases z) (by intro z; cases z) e
/-! ### a table of ints -/
abbrev Tab := List (Int × Int)
def tabK (t : Tab) : List (Key × W) := t.map fun p => (.inl p.1, .d (.int p.2))
theorem look_tab (k : Int) : ∀ t : Tab, look (Sum.inl k : Key) (tabK t) = (look k t).map fun v => W.d (.int v)
  | [] => rfl
  | (j, v) :: t => by
    show (if (Sum.inl j : Key) = Sum.inl k then some (W.d (.int v)) else look (Sum.inl k : Key) (tabK t)) = (if j = k then some v else look k t).map _
    by_cases e : j = k
    · rw [if_pos (by rw [e]), if_pos e]; rfl
    · rw [if_neg (fun z => e (Sum.inl.inj z)), if_neg e, look_tab k t]
def sd (t : Tab) (k v : Int) : Tab := if (look k t).isSome = true then t else t ++ [(k, v)]
theorem sd_len (t : Tab) (k v : Int) : (sd t k v).length ≤ t.length + 1 := by
  unfold sd
  split
  · omega
  · simp
theorem look_app (k j v : Int) : ∀ t : Tab, look k (t ++ [(j, v)]) = (look k t).or (if j = k then some v else none)
  | [] => by show (if j = k then some v else look k []) = _; rfl
  | (i, u) :: t => by
    show (if i = k then some u else look k (t ++ [(j, v)])) = (if i = k then some u else look k t).or _
    by_cases e : i = k
    · rw [if_pos e, if_pos e]; rfl
    · rw [if_neg e, if_neg e, look_app k j v t]
theorem look_sd (k j v : Int) (t : Tab) : look k (sd t j v) = (look k t).or (if j = k then some v else none) := by
  unfold sd
  split
  · rename_i h
    by_cases e : j = k
    · subst e
      obtain ⟨w, hw⟩ := Option.isSome_iff_exists.mp h
      rw [hw]; rfl
    · rw [if_neg e]; simp
  · exact look_app k j v t
/-- what is written from place p on -/
def addO (t : Tab) (p : Int) : List Int → Tab
  | [] => t
  | o :: r => addO (sd t p o) (p + 1) r
theorem addO_len : ∀ (os : List Int) (t : Tab) (p : Int), (addO t p os).length ≤ t.length + os.length
  | [], t, p => Nat.le_refl _
  | o :: r, t, p => by
    have h1 := addO_len r (sd t p o) (p + 1)
    have h2 := sd_len t p o
    show (addO (sd t p o) (p + 1) r).length ≤ t.length + (r.length + 1)
    omega
theorem look_addO (k : Int) : ∀ (os : List Int) (t : Tab) (p : Int), look k (addO t p os) = (look k t).or (if p ≤ k then os[(k - p).toNat]? else none)
  | [], t, p => by show look k t = _; simp
  | o :: r, t, p => by
    show look k (addO (sd t p o) (p + 1) r) = _
    rw [look_addO k r, look_sd, Option.or_assoc]
    congr 1
    by_cases e : p = k
    · subst e
      rw [if_pos rfl, if_pos (Int.le_refl _), Int.sub_self]
      rfl
    · rw [if_neg e, Option.none_or]
      by_cases c : p ≤ k
      · rw [if_pos (by omega), if_pos c, show (k - p).toNat = (k - (p + 1)).toNat + 1 by omega, List.getElem?_cons_succ]
      · rw [if_neg (by omega), if_neg c]
def okT (t : Tab) : Prop := ∀ p ∈ t, 0 ≤ p.2 ∧ p.2 < 256
theorem okT.sd {t : Tab} {k v : Int} (h : okT t) (hv : 0 ≤ v ∧ v < 256) : okT (sd t k v) := by
  unfold MP.sd
  split
  · exact h
  · intro p hp
    rcases List.mem_append.mp hp with m | m
    · exact h p m
    · rw [List.mem_singleton.mp m]; exact hv
theorem okT.addO : ∀ {os : List Int} {t : Tab} {p : Int}, okT t → (∀ o ∈ os, 0 ≤ o ∧ o < 256) → okT (addO t p os)
  | [], t, p, h, _ => h
  | o :: r, t, p, h, ho => okT.addO (os := r) (h.sd (ho o List.mem_cons_self)) fun x m => ho x (List.mem_cons_of_mem _ m)
theorem okT.look {t : Tab} {k v : Int} (h : okT t) (e : look k t = some v) : 0 ≤ v ∧ v < 256 := by
  induction t with
  | nil => cases e
  | cons p t ih =>
    obtain ⟨j, u⟩ := p
    unfold MP.look at e
    by_cases c : j = k
    · rw [if_pos c] at e; cases e; exact h _ List.mem_cons_self
    · rw [if_neg c] at e; exact ih (fun p m => h p (List.mem_cons_of_mem _ m)) e
/-- how many stand in a row from n on -/
def cnt (t : Tab) : Nat → Nat → Nat
  | 0, n => n
  | d + 1, n => if (look (n : Int) t).isSome = true then cnt t d (n + 1) else n
theorem cnt_le (t : Tab) : ∀ d n, n ≤ cnt t d n ∧ cnt t d n ≤ n + d
  | 0, n => ⟨Nat.le_refl _, Nat.le_refl _⟩
  | d + 1, n => by
    unfold cnt
    obtain ⟨h1, h2⟩ := cnt_le t d (n + 1)
    split
    · exact ⟨by omega, by omega⟩
    · exact ⟨by omega, by omega⟩
theorem cnt_in (t : Tab) : ∀ d n i, n ≤ i → i < cnt t d n → (look (i : Int) t).isSome = true
  | 0, n, i, h1, h2 => by unfold cnt at h2; omega
  | d + 1, n, i, h1, h2 => by
    unfold cnt at h2
    split at h2
    · rename_i h
      by_cases e : n = i
      · subst e; exact h
      · exact cnt_in t d (n + 1) i (by omega) h2
    · omega
theorem cnt_ge (t : Tab) : ∀ d n m, n ≤ m → m ≤ n + d → (∀ i : Nat, n ≤ i → i < m → (look (i : Int) t).isSome = true) → m ≤ cnt t d n
  | 0, n, m, h1, h2, _ => by unfold cnt; omega
  | d + 1, n, m, h1, h2, h => by
    unfold cnt
    by_cases e : n = m
    · subst e
      split
      · exact Nat.le_of_succ_le (cnt_le t d (n + 1)).1
      · exact Nat.le_refl _
    · rw [if_pos (h n (Nat.le_refl _) (by omega))]
      exact cnt_ge t d (n + 1) m (by omega) (by omega) fun i a b => h i (by omega) b
def res (t : Tab) : List Int := (List.range (cnt t 65535 0)).map fun (i : Nat) => (look (i : Int) t).getD 0
theorem res_ok {t : Tab} (h : okT t) : (∀ x ∈ res t, 0 ≤ x ∧ x < 256) ∧ (res t).length ≤ 65535 := by
  refine ⟨fun x m => ?_, ?_⟩
  · obtain ⟨i, hi, rfl⟩ := List.mem_map.mp m
    have e := cnt_in t 65535 0 i (Nat.zero_le _) (List.mem_range.mp hi)
    obtain ⟨v, hv⟩ := Option.isSome_iff_exists.mp e
    rw [hv]
    exact h.look hv
  · unfold res
    rw [List.length_map, List.length_range]
    have := (cnt_le t 65535 0).2
    omega
/-! ### the text of a tuple of octets -/
theorem small_text : ∀ n : Fin 256, ((toString ((n.val : Int)) : Str)).length ≤ 3 := by decide +kernel
theorem small_text' {i : Int} (h : 0 ≤ i ∧ i < 256) : ((toString i : Str)).length ≤ 3 := by
  have q := small_text ⟨i.toNat, by omega⟩
  have e : ((i.toNat : Nat) : Int) = i := Int.toNat_of_nonneg h.1
  simpa only [e] using q
theorem repr_octs {xs : List Int} (h : ∀ x ∈ xs, 0 ≤ x ∧ x < 256) (hl : xs.length ≤ 100000) : ∃ z, reprD (.tuple (xs.map .int)) = some z := by
  refine ⟨_, if_pos ⟨?_, ?_, ?_, ?_⟩⟩
  · show PyData.showableAll _ = true
    clear hl
    induction xs with
    | nil => rfl
    | cons x r ih =>
      show (decide (x.natAbs.log2 < 1920) && PyData.showableAll (r.map .int)) = true
      rw [ih fun y m => h y (List.mem_cons_of_mem _ m), Bool.and_true]
      have h0 := h x List.mem_cons_self
      refine decide_eq_true ?_
      by_cases z : x.natAbs = 0
      · rw [z]; decide
      · have := (Nat.log2_lt z (k := 8)).mpr (by omega)
        omega
  · show PyData.hasDictAll _ = false
    clear hl h
    induction xs with
    | nil => rfl
    | cons x r ih => show (false || PyData.hasDictAll (r.map .int)) = false; rw [ih]; rfl
  · show PyData.depthAll _ + 1 ≤ 60
    have : PyData.depthAll (xs.map PyData.int) = 0 := by
      clear hl h
      induction xs with
      | nil => rfl
      | cons x r ih => show max 0 (PyData.depthAll (r.map .int)) = 0; rw [ih]; rfl
    omega
  · show (tupleText (PyData.shownAll (xs.map .int))).length ≤ SZ
    have e : PyData.shownAll (xs.map PyData.int) = xs.map fun i => (toString i : Str) := by
      clear hl h
      induction xs with
      | nil => rfl
      | cons x r ih => show _ :: PyData.shownAll (r.map .int) = _; rw [ih]; rfl
    rw [e]
    unfold tupleText
    rw [Str.length_append, Str.length_append]
    have j := StrLaws.join_length_le ((", " : String) : Str) (xs.map fun i => (toString i : Str))
    have b : ((xs.map fun i => (toString i : Str)).map (·.length)).sum ≤ 3 * xs.length := by
      clear j e hl
      induction xs with
      | nil => simp
      | cons x r ih =>
        have h1 := ih fun y m => h y (List.mem_cons_of_mem _ m)
        have h2 := small_text' (h x List.mem_cons_self)
        rw [List.map_cons, List.map_cons, List.sum_cons, List.length_cons]
        omega
    have l1 : (("(" : String) : Str).length = 1 := rfl
    have l2 : ((", " : String) : Str).length = 2 := rfl
    have l3 : ((if (xs.map fun i => (toString i : Str)).length == 1 then ",)" else ")" : String) : Str).length ≤ 2 := by
      split <;> decide
    rw [l2, List.length_map] at j
    show _ ≤ 16777216
    omega
theorem lay_ints : ∀ xs : List Int, PyData.canLayAll0 (xs.map .int) = true
  | [] => rfl
  | x :: r => by show (true && PyData.canLayAll0 (r.map .int)) = true; rw [lay_ints r]; rfl
theorem depth_ints : ∀ xs : List Int, PyData.depthAll (xs.map .int) = 0
  | [] => rfl
  | x :: r => by show max 0 (PyData.depthAll (r.map .int)) = 0; rw [depth_ints r]; rfl
theorem shaped_ints (xs : List Int) : SeqAt.shaped (.tuple (xs.map .int)) = true := by
  have e : (PyData.tuple (xs.map .int)).depth = 1 := by
    show PyData.depthAll _ + 1 = 1
    rw [depth_ints]
  unfold SeqAt.shaped
  rw [e, show (PyData.tuple (xs.map .int)).canLay0 = true from lay_ints xs]
  rfl
theorem eq_ints {xs ys : List Int} (h : xs = ys) : eqD (.tuple (xs.map .int)) (.tuple (ys.map .int)) = some true := by
  subst h
  show (if SeqAt.shaped (.tuple (xs.map .int)) = true ∧ SeqAt.shaped (.tuple (xs.map .int)) = true then some (PyData.eqv (.tuple (xs.map .int)) (.tuple (xs.map .int))) else none) = some true
  rw [if_pos ⟨shaped_ints xs, shaped_ints xs⟩]
  congr 1
  exact SeqAt.eqv_refl _ (show PyData.canLayAll0 _ = true from lay_ints xs)
end MP

/-! Constants of the module; op=; sums of lists. -/
namespace MP
open PySem L2 PySem.Spec PyProof.Rows
theorem Gc.str {K : PySem.W.Frag} {mg : Str → Option Value} {x z : Str} {t : Tok} (h : mg x = some (.str z t)) : Gc K mg x (.str z) := ⟨⟨.str z, _, h, ⟨t, rfl⟩, fun _ _ => .str z⟩⟩
theorem Gc.tup {K : PySem.W.Frag} {mg : Str → Option Value} {x : Str} {a : Addr} {dd : Option Addr} {its : Array Value} {n : Nat} {sl : Array (Option Value)} (is : List Int) (h : mg x = some (.ref a)) (hl : K.lookup a = some ⟨.type "tuple", dd, .seq its n, sl⟩) (hz : its.size ≤ sizeLine)
    (hv : Vals (is.map V.int) its.toList) : Gc K mg x (.tuple (is.map .int)) :=
  ⟨⟨.ref a, _, h, rfl, fun _ _ => .tup (.inr (.inr ⟨_, its, n, hl, rfl, rfl, hz, hv⟩)) (rp_ints is)⟩⟩
/-! ### dicts of the module -/
/-- a plain datum and its value -/
inductive FlV : Value → D → Prop
  | int (i : Int) (t : Tok) : FlV (.int i t) (.int i)
  | str (x : Str) (t : Tok) : FlV (.str x t) (.str x)
theorem FlV.rel {u : Value} {d : D} (h : FlV u d) {K : PySem.W.Frag} {η : Zs} {H : Hp} : ∃ v, RelV v u ∧ Rp K η H v d := by
  cases h with
  | int i t => exact ⟨.int i, ⟨t, rfl⟩, .int i⟩
  | str x t => exact ⟨.str x, ⟨t, rfl⟩, .str x⟩
def TblOk (w : World) : List DictEntry → List (Key × D) → Prop
  | [], [] => True
  | e :: r, (k, d) :: t => keyIs k e.key = true ∧ e.hash = keyH w k ∧ FlV e.val d ∧ TblOk w r t
  | _, _ => False
structure Gd (K : PySem.W.Frag) (w : World) (mg : Str → Option Value) (x : Str) (t : List (Key × D)) : Prop where
  ex : ∃ a es n, mg x = some (.ref a) ∧ K.lookup a = some ⟨.type "dict", none, .dict es n, #[]⟩ ∧ (a == sysModules) = false ∧ TblOk w es.toList t
theorem keyIs_eq {P : Program} {w : World} {k k' : Key} {v : Value} (h : keyIs k v = true) : keyIs k' v = decide (k' = k) := KeyKind.is_eq_decide (knd := mixKind P w) h k'
theorem tbl_find {P : Program} {w : World} (k : Key) : ∀ {l : List DictEntry} {t : List (Key × D)}, TblOk w l t →
    (∀ d, look k t = some d → ∃ u, (l.find? fun e => keyIs k e.key).map (·.val) = some u ∧ FlV u d) ∧ (look k t = none → (l.find? fun e => keyIs k e.key).map (·.val) = none)
  | [], [], _ => ⟨fun d (e : none = some d) => (nomatch e), fun _ => rfl⟩
  | [], _ :: _, h => h.elim
  | _ :: _, [], h => h.elim
  | e :: r, (j, x) :: t, h => by
    obtain ⟨h1, h2, h3, h4⟩ := h
    obtain ⟨i1, i2⟩ := tbl_find (P := P) k h4
    have hk := keyIs_eq (P := P) (w := w) (k' := k) h1
    rw [List.find?_cons, hk]
    unfold look
    by_cases c : j = k
    · rw [if_pos c, decide_eq_true c.symm]
      exact ⟨fun d e => by cases e; exact ⟨_, rfl, h3⟩, fun e => by cases e⟩
    · rw [if_neg c, decide_eq_false fun z => c z.symm]
      exact ⟨i1, i2⟩
theorem tbl_keys {w : World} : ∀ {l : List DictEntry} {t : List (Key × D)}, TblOk w l t → ∀ e ∈ l, ∃ k, keyIs k e.key = true ∧ e.hash = keyH w k
  | [], [], _, e, m => by cases m
  | [], _ :: _, h, _, _ => h.elim
  | _ :: _, [], h, _, _ => h.elim
  | x :: r, (j, y) :: t, h, e, m => by
    obtain ⟨h1, h2, h3, h4⟩ := h
    rcases List.mem_cons.mp m with z | z
    · subst z; exact ⟨j, h1, h2⟩
    · exact tbl_keys h4 e z
theorem tbl_map {P : Program} {w : World} {K : PySem.W.Frag} {h : Heap} {a : Addr} {es : Array DictEntry} {n : Nat} {t : List (Key × D)} (X : K.In h) (hl : K.lookup a = some ⟨.type "dict", none, .dict es n, #[]⟩) (ht : TblOk w es.toList t) :
    h.MapOf (mixKind P w) a (fun k => (es.toList.find? fun e => keyIs k e.key).map (·.val)) :=
  ⟨_, es, n, X _ _ hl, ⟨rfl, rfl, rfl⟩, rfl, fun e he => tbl_keys ht e (Array.mem_toList_iff.mpr he), fun k => by
    obtain ⟨l⟩ := es
    unfold findBy
    rw [List.find?_toArray]
    rfl⟩
/-- t[k], k in t for a table of the module -/
def wKey : W → Option Key
  | .d x => keyD x
  | .r _ => none
def tsubW (t : List (Key × D)) (y : W) : M W := opt ((wKey y).bind fun k => (look k t).map .d)
def tinW (t : List (Key × D)) (y : W) : M Bool := opt ((wKey y).map fun k => (look k t).isSome)
def tsubM (t : List (Key × D)) (b : EM) : EM := fun ρ => bnd (b ρ) fun y => tsubW t y
def tinM (t : List (Key × D)) (b : EM) : EM := fun ρ => bnd (b ρ) fun y => bnd (tinW t y) fun c => ret (.d (.bool c))
def tninM (t : List (Key × D)) (b : EM) : EM := fun ρ => bnd (b ρ) fun y => bnd (tinW t y) fun c => ret (.d (.bool (!c)))
section
variable {X : Cx} {ca : Nat → Addr} {a b c e : Expr} {ma mb mc : EM} {ms : AM} {pos p p2 : Pos} {es : List Expr} {x : Str} {st : Stmt} {sa sb : List Stmt} {na nb : SM} {t : List (Key × D)}
theorem keyV_is {K : PySem.W.Frag} {η : Zs} {H : Hp} {y : V} {d : D} {k : Key} {u : Value} (r : Rp K η H y d) (e : keyD d = some k) (ry : RelV y u) : keyIs k u = true := by
  cases r with
  | int i => cases e; obtain ⟨t, rfl⟩ := ry; exact keyIs_int i t
  | str z => cases e; obtain ⟨t, rfl⟩ := ry; exact keyIs_str z t
  | _ => cases e
theorem wKey_is {K : PySem.W.Frag} {η : Zs} {H : Hp} {y : V} {w : W} {k : Key} {u : Value} (r : RW K η H y w) (e : wKey w = some k) (ry : RelV y u) : keyIs k u = true := by
  cases r with
  | r _ => cases e
  | d r => exact keyV_is r e ry
theorem r_tsub (h : Gd X.K X.w X.mg x t) (hb : PE X b (tE X.K ca mb)) (hg : Gl X x := by rfl) (hd : (x == ("__debug__" : Str)) = false := by decide) (hs : PlainIx b := by exact fun _ _ => rfl) : PE X (.Subscript (.Name x p) b pos) (tE X.K ca (tsubM t mb)) := by
  obtain ⟨a, es, n, hm, hl, low, ht⟩ := h.ex
  refine ⟨fun pins s σ H Q I q => ?_⟩
  obtain ⟨ρ, S, η, er, sr, q⟩ := q
  refine Subscript_ (ld_glob I hg hm ?_ hd)
  refine thn (hb.run pins s σ H _ I (tE_seq er sr q fun w S1 v H1 η1 g er1 sr1 r1 q1 => (⟨η1, S1, w, g, sr1, r1, q1⟩ : ∃ η1 S1 w, Grow η H η1 H1 ∧ SR X.K ca η1 H1 S1 ∧ RW X.K η1 H1 v w ∧ post (tsubW t w S1) (qW X.K ca η H Q)))) fun u s1 ⟨y, H1, I1, ry, η1, S1, w, g, sr1, r1, q1⟩ => ?_
  obtain ⟨w0, ew, q1⟩ := post_opt1 q1
  obtain ⟨kk, ek, ew⟩ := Option.bind_eq_some_iff.mp ew
  obtain ⟨d, el, rfl⟩ := Option.map_eq_some_iff.mp ew
  obtain ⟨u0, hf, fl⟩ := (tbl_find (P := X.prog) kk ht).1 d el
  obtain ⟨v0, rv, rp⟩ := fl.rel (K := X.K) (η := η1) (H := H1)
  have hmap := tbl_map (P := X.prog) (w := X.w) I1.kIn hl ht
  exact tail_any hmap.typeIs slot_dict_getitem.lookup (wpAny_getItem_of (knd := mixKind X.prog X.w) (wKey_is r1 ek ry) hmap hf ⟨v0, H1, I1.tok _, rv, q1 v0 H1 η1 g sr1 (.d rp)⟩) (hs _ _)
theorem tin_op (neg : Bool) (h : Gd X.K X.w X.mg x t) : ∃ a, X.mg x = some (.ref a) ∧ OpR X (compareOp (if neg = true then .NotIn else .In)) (fun v y H Q => y = .ref a ∧ ∃ w c η S, RW X.K η H v w ∧ SR X.K ca η H S ∧ (wKey w).map (fun k => (look k t).isSome) = some c ∧ Q (.bl (if neg = true then !c else c)) H) := by
  obtain ⟨a, es, n, hm, hl, low, ht⟩ := h.ex
  refine ⟨a, hm, ?_⟩
  intro pins s σ H v y u1 u2 Q I r1 r2 hq
  obtain ⟨rfl, w, c, η, S, rw', sr, e, q⟩ := hq
  obtain ⟨k, ek, ec⟩ := Option.map_eq_some_iff.mp e
  have hmap := tbl_map (P := X.prog) (w := X.w) I.kIn hl ht
  cases r2
  have hf : ((es.toList.find? fun e => keyIs k e.key).map (·.val)).isSome = c := by
    rw [← ec]
    cases el : look k t with
    | none => rw [(tbl_find (P := X.prog) k ht).2 el]; rfl
    | some d =>
      obtain ⟨u0, hf, _⟩ := (tbl_find (P := X.prog) k ht).1 d el
      rw [hf]; rfl
  cases neg with
  | true =>
    refine wpAny_notIn_of (knd := mixKind X.prog X.w) (wKey_is rw' ek r1) low hmap ?_
    refine ⟨.bl (!c), H, I.tok _, ?_, q⟩
    rw [hf]; rfl
  | false =>
    refine wpAny_in_of (knd := mixKind X.prog X.w) (wKey_is rw' ek r1) low hmap ?_
    refine ⟨.bl c, H, I.tok _, ?_, q⟩
    rw [hf]; rfl
theorem post_tin {w : W} {S : Sto} {q : W → Sto → Prop} {f : Bool → Bool} (h : post (bnd (tinW t w) (fun c => ret (.d (.bool (f c)))) S) q) : ∃ c, (wKey w).map (fun k => (look k t).isSome) = some c ∧ q (.d (.bool (f c))) S := by
  rw [post_bnd] at h
  exact post_opt1 h
theorem tin_tE {neg : Bool} {av : Addr} {K : PySem.W.Frag} {σ : Sg} {H : Hp} {Q : VK} (q : tE K ca (fun ρ => bnd (ma ρ) fun y => bnd (tinW t y) fun c => ret (.d (.bool (if neg = true then !c else c)))) σ H Q) :
    tOp (fun v y H Q => y = .ref av ∧ ∃ w c η S, RW K η H v w ∧ SR K ca η H S ∧ (wKey w).map (fun k => (look k t).isSome) = some c ∧ Q (.bl (if neg = true then !c else c)) H) (tE K ca ma) (tC (.ref av)) σ H Q := by
  obtain ⟨ρ, S, η, er, sr, q⟩ := q
  refine tE_seq er sr q fun w S1 v H1 η1 g er1 sr1 r1 q1 => ?_
  obtain ⟨c, ec, q2⟩ := post_tin q1
  exact ⟨rfl, w, c, η1, S1, r1, sr1, ec, q2 _ H1 η1 g sr1 (.d (.bl _))⟩
theorem tin_bool {neg : Bool} {ρ : Sl} {S S' : Sto} {w : W} (e : (fun ρ => bnd (ma ρ) fun y => bnd (tinW t y) fun c => ret (.d (.bool (if neg = true then !c else c))) : EM) ρ S = some (.ok w S')) : ∃ b, w = .d (.bool b) := by
  obtain ⟨_, _, _, e⟩ := ok_bnd e
  obtain ⟨c, _, _, e⟩ := ok_bnd e
  cases e
  exact ⟨_, rfl⟩
theorem r_tin (h : Gd X.K X.w X.mg x t) (ha : PE X a (tE X.K ca ma)) (hg : Gl X x := by rfl) (hd : (x == ("__debug__" : Str)) = false := by decide) : PE X (.Compare a [.In] [.Name x p] pos) (tE X.K ca (tinM t ma)) := by
  obtain ⟨av, hm, ho⟩ := tin_op (ca := ca) false h
  exact PE.of (pe_cmpR ho ha (pe_glob (v := .ref av) hg hm rfl hd) (by first | rfl | with_unfolding_all rfl)) fun σ H Q q => tin_tE (neg := false) q
theorem r_tnin (h : Gd X.K X.w X.mg x t) (ha : PE X a (tE X.K ca ma)) (hg : Gl X x := by rfl) (hd : (x == ("__debug__" : Str)) = false := by decide) : PE X (.Compare a [.NotIn] [.Name x p] pos) (tE X.K ca (tninM t ma)) := by
  obtain ⟨av, hm, ho⟩ := tin_op (ca := ca) true h
  exact PE.of (pe_cmpR ho ha (pe_glob (v := .ref av) hg hm rfl hd) (by first | rfl | with_unfolding_all rfl)) fun σ H Q q => tin_tE (neg := true) q
theorem t_tin (h : Gd X.K X.w X.mg x t) (ha : PE X a (tE X.K ca ma)) (hg : Gl X x := by rfl) (hd : (x == ("__debug__" : Str)) = false := by decide) : PT X (.Compare a [.In] [.Name x p] pos) (tT X.K ca (tst (tinM t ma))) := by
  obtain ⟨av, hm, ho⟩ := tin_op (ca := ca) false h
  exact PT.of (pt_cmpR ho ha (pe_glob (v := .ref av) hg hm rfl hd) (by first | rfl | with_unfolding_all rfl)) fun σ H Q q => tst_bool (fun Q' q => tin_tE (neg := false) q) (fun ρ S w S' e => tin_bool (neg := false) e) q
theorem t_tnin (h : Gd X.K X.w X.mg x t) (ha : PE X a (tE X.K ca ma)) (hg : Gl X x := by rfl) (hd : (x == ("__debug__" : Str)) = false := by decide) : PT X (.Compare a [.NotIn] [.Name x p] pos) (tT X.K ca (tst (tninM t ma))) := by
  obtain ⟨av, hm, ho⟩ := tin_op (ca := ca) true h
  exact PT.of (pt_cmpR ho ha (pe_glob (v := .ref av) hg hm rfl hd) (by first | rfl | with_unfolding_all rfl)) fun σ H Q q => tst_bool (fun Q' q => tin_tE (neg := true) q) (fun ρ S w S' e => tin_bool (neg := true) e) q
end
end MP

namespace MP
open PySem L2 PySem.Spec PyProof.Rows
abbrev pgm : Program := PySem.Challenge.pw_lanternserver_k63_targets_conditions_ran
def topS (i : Nat) : Stmt := pgm.main.body.getD i (.Pass ⟨0, 0, 0, 0⟩)
/-! is_whole: slots 0=value 1=low 2=high -/
def b_is_whole : SM := retM (andM (isiM "int" (vM 0)) (andM (notM (isiM "bool" (vM 0))) (chM .le .le (vM 1) (vM 0) (vM 2))))
def m_is_whole : List W → M W := fnB 3 3 b_is_whole
theorem sc_is_whole : FnScope ["value", "low", "high"] ["value", "low", "high"] (defScope (topS 5)) := ⟨rfl, rfl, rfl, by decide +kernel, rfl, by decide +kernel, by decide +kernel⟩
theorem d_is_whole {P : Program} {w : World} {K : PySem.W.Frag} {mg : Str → Option Value} {base : Heap} {ca : Nat → Addr} {f : Addr} {fd : FuncData} (F : Fun K "is_whole" "is_whole" (topS 5) f fd) (z_isinstance : mg "isinstance" = none) (z_bool : mg "bool" = none) (z_int : mg "int" = none) : Gn P w K mg base ca 1 f fd ["value", "low", "high"] m_is_whole := by
  refine Gn.of F sc_is_whole rfl rfl fun cdv A outer s H room ck => ?_
  have hp : PassesOwn (model (cxF P w K mg base ["value", "low", "high"] "is_whole" (topS 5) f cdv A outer s H).prog (cxF P w K mg base ["value", "low", "high"] "is_whole" (topS 5) f cdv A outer s H).w) (cxF P w K mg base ["value", "low", "high"] "is_whole" (topS 5) f cdv A outer s H).A (cxF P w K mg base ["value", "low", "high"] "is_whole" (topS 5) f cdv A outer s H).env (cxF P w K mg base ["value", "low", "high"] "is_whole" (topS 5) f cdv A outer s H).xe := PassesOwn.never
  unfold b_is_whole
  exact z_one (z_ret (r_and (r_isi z_isinstance z_int (r_v 0)) (r_and (r_not (r_isi z_isinstance z_bool (r_v 0))) (r_b1 (r_ch ck rfl rfl (r_v 1) (r_v 0) (r_v 2))))))
/-! is_tuple_of: slots 0=value 1=low 2=high -/
def b_is_tuple_of : SM := retM (andM (isiM "tuple" (vM 0)) (chM .le .le (vM 1) (biM .len (consM (vM 0) (nilM))) (vM 2)))
def m_is_tuple_of : List W → M W := fnB 3 3 b_is_tuple_of
theorem sc_is_tuple_of : FnScope ["value", "low", "high"] ["value", "low", "high"] (defScope (topS 6)) := ⟨rfl, rfl, rfl, by decide +kernel, rfl, by decide +kernel, by decide +kernel⟩
theorem d_is_tuple_of {P : Program} {w : World} {K : PySem.W.Frag} {mg : Str → Option Value} {base : Heap} {ca : Nat → Addr} {f : Addr} {fd : FuncData} (F : Fun K "is_tuple_of" "is_tuple_of" (topS 6) f fd) (z_len : mg "len" = none) (z_isinstance : mg "isinstance" = none) (z_tuple : mg "tuple" = none) : Gn P w K mg base ca 1 f fd ["value", "low", "high"] m_is_tuple_of := by
  refine Gn.of F sc_is_tuple_of rfl rfl fun cdv A outer s H room ck => ?_
  have hp : PassesOwn (model (cxF P w K mg base ["value", "low", "high"] "is_tuple_of" (topS 6) f cdv A outer s H).prog (cxF P w K mg base ["value", "low", "high"] "is_tuple_of" (topS 6) f cdv A outer s H).w) (cxF P w K mg base ["value", "low", "high"] "is_tuple_of" (topS 6) f cdv A outer s H).A (cxF P w K mg base ["value", "low", "high"] "is_tuple_of" (topS 6) f cdv A outer s H).env (cxF P w K mg base ["value", "low", "high"] "is_tuple_of" (topS 6) f cdv A outer s H).xe := PassesOwn.never
  unfold b_is_tuple_of
  exact z_one (z_ret (r_and (r_isi z_isinstance z_tuple (r_v 0)) (r_b1 (r_ch ck rfl rfl (r_v 1) (r_biB b1_len z_len (r_cons (r_v 0) (r_nil))) (r_v 2)))))
/-! text_octets: slots 0=text 1=sign -/
def b_text_octets : SM := retM (biM .tuple (consM (lcE (seqI (vM 0)) (.nm 1) [1] (yesM) (biM .ord (consM (vM 1) (nilM)))) (nilM)))
def m_text_octets : List W → M W := fnB 1 2 b_text_octets
theorem sc_text_octets : FnScope ["text", "sign"] ["text"] (defScope (topS 11)) := ⟨rfl, rfl, rfl, by decide +kernel, rfl, by decide +kernel, by decide +kernel⟩
theorem d_text_octets {P : Program} {w : World} {K : PySem.W.Frag} {mg : Str → Option Value} {base : Heap} {ca : Nat → Addr} {f : Addr} {fd : FuncData} (F : Fun K "text_octets" "text_octets" (topS 11) f fd) (z_ord : mg "ord" = none) (z_tuple : mg "tuple" = none) : Gn P w K mg base ca 1 f fd ["text"] m_text_octets := by
  refine Gn.of F sc_text_octets rfl rfl fun cdv A outer s H room ck => ?_
  have hp : PassesOwn (model (cxF P w K mg base ["text", "sign"] "text_octets" (topS 11) f cdv A outer s H).prog (cxF P w K mg base ["text", "sign"] "text_octets" (topS 11) f cdv A outer s H).w) (cxF P w K mg base ["text", "sign"] "text_octets" (topS 11) f cdv A outer s H).A (cxF P w K mg base ["text", "sign"] "text_octets" (topS 11) f cdv A outer s H).env (cxF P w K mg base ["text", "sign"] "text_octets" (topS 11) f cdv A outer s H).xe := PassesOwn.never
  unfold b_text_octets
  exact z_one (z_ret (r_biT b1_tuple z_tuple (r_cons (r_lc ck [("sign", 1)] (q_seq (r_v 0)) (fun _ _ _ _ _ => x_nm ck.blk 1) (fun _ _ _ _ _ => c_nil) (fun _ _ _ _ _ => r_biB b1_ord z_ord (r_cons (r_v 1) (r_nil)))) (r_nil))))
/-! fits_sign: slots 0=octet -/
def b_fits_sign : SM := retM (orM (chM .le .le (kM (.int 97)) (vM 0) (kM (.int 122))) (orM (chM .le .le (kM (.int 48)) (vM 0) (kM (.int 57))) (cmpM .eq (vM 0) (kM (.int 46)))))
def m_fits_sign : List W → M W := fnB 1 1 b_fits_sign
theorem sc_fits_sign : FnScope ["octet"] ["octet"] (defScope (topS 17)) := ⟨rfl, rfl, rfl, by decide +kernel, rfl, by decide +kernel, by decide +kernel⟩
theorem d_fits_sign {P : Program} {w : World} {K : PySem.W.Frag} {mg : Str → Option Value} {base : Heap} {ca : Nat → Addr} {f : Addr} {fd : FuncData} (F : Fun K "fits_sign" "fits_sign" (topS 17) f fd) (c_DOT : Gc K mg "DOT" (.int 46)) : Gn P w K mg base ca 1 f fd ["octet"] m_fits_sign := by
  refine Gn.of F sc_fits_sign rfl rfl fun cdv A outer s H room ck => ?_
  have hp : PassesOwn (model (cxF P w K mg base ["octet"] "fits_sign" (topS 17) f cdv A outer s H).prog (cxF P w K mg base ["octet"] "fits_sign" (topS 17) f cdv A outer s H).w) (cxF P w K mg base ["octet"] "fits_sign" (topS 17) f cdv A outer s H).A (cxF P w K mg base ["octet"] "fits_sign" (topS 17) f cdv A outer s H).env (cxF P w K mg base ["octet"] "fits_sign" (topS 17) f cdv A outer s H).xe := PassesOwn.never
  unfold b_fits_sign
  exact z_one (z_ret (r_or (r_ch ck rfl rfl (r_int) (r_v 0) (r_int)) (r_or (r_ch ck rfl rfl (r_int) (r_v 0) (r_int)) (r_b1 (r_cmp ck rfl (r_v 0) (r_gc c_DOT))))))
/-! digits_told: slots 0=octets 1=found 2=octet -/
def b_digits_told : SM := sq (ifM (orM (notM (chM .le .le (kM (.int 1)) (biM .len (consM (vM 0) (nilM))) (kM (.int 6)))) (notM (biM .all (consM (lcE (seqI (vM 0)) (.nm 2) [2] (yesM) (chM .le .le (kM (.int 48)) (vM 2) (kM (.int 57)))) (nilM))))) (retM (kM .none)) (skM)) (sq (asgM (.nm 1) (kM (.int 0))) (sq (foM (.nm 2) (seqI (vM 0)) (asgM (.nm 1) (binM .sub (binM .add (binM .mul (vM 1) (kM (.int 10))) (vM 2)) (kM (.int 48))))) (retM (vM 1))))
def m_digits_told : List W → M W := fnB 1 3 b_digits_told
theorem sc_digits_told : FnScope ["octets", "found", "octet"] ["octets"] (defScope (topS 30)) := ⟨rfl, rfl, rfl, by decide +kernel, rfl, by decide +kernel, by decide +kernel⟩
theorem d_digits_told {P : Program} {w : World} {K : PySem.W.Frag} {mg : Str → Option Value} {base : Heap} {ca : Nat → Addr} {f : Addr} {fd : FuncData} (F : Fun K "digits_told" "digits_told" (topS 30) f fd) (z_all : mg "all" = none) (z_len : mg "len" = none) (c_DIGITS : Gc K mg "DIGITS" (.int 6)) : Gn P w K mg base ca 1 f fd ["octets"] m_digits_told := by
  refine Gn.of F sc_digits_told rfl rfl fun cdv A outer s H room ck => ?_
  have hp : PassesOwn (model (cxF P w K mg base ["octets", "found", "octet"] "digits_told" (topS 30) f cdv A outer s H).prog (cxF P w K mg base ["octets", "found", "octet"] "digits_told" (topS 30) f cdv A outer s H).w) (cxF P w K mg base ["octets", "found", "octet"] "digits_told" (topS 30) f cdv A outer s H).A (cxF P w K mg base ["octets", "found", "octet"] "digits_told" (topS 30) f cdv A outer s H).env (cxF P w K mg base ["octets", "found", "octet"] "digits_told" (topS 30) f cdv A outer s H).xe := PassesOwn.never
  unfold b_digits_told
  exact z_cons (z_if (PW.pt (w_or (t_not (t_ch ck rfl rfl (r_int) (r_biB b1_len z_len (r_cons (r_v 0) (r_nil))) (r_gc c_DIGITS))) (w_or1 (t_not (t_val (r_biB (b1_all ck) z_all (r_cons (r_lc ck [("octet", 2)] (q_seq (r_v 0)) (fun _ _ _ _ _ => x_nm ck.blk 2) (fun _ _ _ _ _ => c_nil) (fun _ _ _ _ _ => r_ch ck.blk rfl rfl (r_int) (r_v 2) (r_int))) (r_nil)))))))) (z_one (z_ret (r_non))) (z_nil))
    (z_cons (z_asg (x_nm ck 1) (r_int))
    (z_cons (z_for ck hp (q_seq (r_v 0)) (x_nm ck 2) (z_one (z_asg (x_nm ck 1) (r_bin rfl (r_bin rfl (r_bin rfl (r_v 1) (r_int)) (r_v 2)) (r_int)))))
    (z_one (z_ret (r_v 1)))))
/-! _law_cup: slots 0=script 1=cell -/
def b__law_cup : SM := sq (asgM (.nm 1) (biM .abs (consM (subM (binM .add (biM .list (consM (vM 0) (nilM))) (lstM (consM (kM (.int 0)) (nilM)))) (kM (.int 0))) (nilM)))) (retM (nlM (consM (iteM (cmpM .ge (vM 1) (binM .pow (kM (.int 10)) (kM (.int 18)))) (binM .fdiv (vM 1) (kM (.int 89))) (kM (.int 0))) (consM (binM .add (binM .mod (biM .int (consM (binM .add (binM .mul (vM 1) (kM (.int 313))) (kM (.int 2971))) (nilM))) (kM (.int 2077503109))) (kM (.int 199))) (nilM)))))
def m__law_cup : List W → M W := fnB 1 2 b__law_cup
theorem sc__law_cup : FnScope ["script", "cell"] ["script"] (defScope (topS 34)) := ⟨rfl, rfl, rfl, by decide +kernel, rfl, by decide +kernel, by decide +kernel⟩
theorem d__law_cup {P : Program} {w : World} {K : PySem.W.Frag} {mg : Str → Option Value} {base : Heap} {ca : Nat → Addr} {f : Addr} {fd : FuncData} (F : Fun K "_law_cup" "_law_cup" (topS 34) f fd) (z_list : mg "list" = none) (z_abs : mg "abs" = none) (z_int : mg "int" = none) : Gn P w K mg base ca 1 f fd ["script"] m__law_cup := by
  refine Gn.of F sc__law_cup rfl rfl fun cdv A outer s H room ck => ?_
  have hp : PassesOwn (model (cxF P w K mg base ["script", "cell"] "_law_cup" (topS 34) f cdv A outer s H).prog (cxF P w K mg base ["script", "cell"] "_law_cup" (topS 34) f cdv A outer s H).w) (cxF P w K mg base ["script", "cell"] "_law_cup" (topS 34) f cdv A outer s H).A (cxF P w K mg base ["script", "cell"] "_law_cup" (topS 34) f cdv A outer s H).env (cxF P w K mg base ["script", "cell"] "_law_cup" (topS 34) f cdv A outer s H).xe := PassesOwn.never
  unfold b__law_cup
  exact z_cons (z_asg (x_nm ck 1) (r_biB b1_abs z_abs (r_cons (r_sub ck (r_bin rfl (r_biT b1_list z_list (r_cons (r_v 0) (r_nil))) (r_lst (r_cons (r_int) (r_nil)))) (r_int)) (r_nil))))
    (z_one (z_ret (r_nl (r_cons (r_ite (t_cmp ck rfl (r_v 1) (r_bin rfl (r_int) (r_int))) (r_bin rfl (r_v 1) (r_int)) (r_int)) (r_cons (r_bin rfl (r_bin rfl (r_biT b1_int z_int (r_cons (r_bin rfl (r_bin rfl (r_v 1) (r_int)) (r_int)) (r_nil))) (r_int)) (r_int)) (r_nil))))))
/-! _law_roll: slots 0=cup 1=many 2=found 3=deep -/
def b__law_roll : SM := sq (ifM (cmpM .gt (subM (vM 0) (kM (.int 0))) (kM (.int 0))) (sq (asgM (.nm 2) (binM .mod (biM .int (consM (subM (vM 0) (kM (.int 0))) (nilM))) (vM 1))) (sq (setM (vM 0) (kM (.int 0)) (binM .fdiv (subM (vM 0) (kM (.int 0))) (vM 1))) (retM (vM 2)))) (skM)) (sq (setM (vM 0) (kM (.int 1)) (binM .mod (biM .int (consM (binM .add (binM .mul (subM (vM 0) (kM (.int 1))) (kM (.int 31111))) (kM (.int 8101))) (nilM))) (kM (.int 2147483399)))) (sq (asgM (.nm 3) (binM .mod (biM .int (consM (binM .mul (subM (vM 0) (kM (.int 1))) (binM .add (subM (vM 0) (kM (.int 1))) (kM (.int 257)))) (nilM))) (kM (.int 2147483549)))) (retM (binM .mod (biM .int (consM (binM .fdiv (vM 3) (kM (.int 853))) (nilM))) (vM 1)))))
def m__law_roll : List W → M W := fnB 2 4 b__law_roll
theorem sc__law_roll : FnScope ["cup", "many", "found", "deep"] ["cup", "many"] (defScope (topS 35)) := ⟨rfl, rfl, rfl, by decide +kernel, rfl, by decide +kernel, by decide +kernel⟩
theorem d__law_roll {P : Program} {w : World} {K : PySem.W.Frag} {mg : Str → Option Value} {base : Heap} {ca : Nat → Addr} {f : Addr} {fd : FuncData} (F : Fun K "_law_roll" "_law_roll" (topS 35) f fd) (z_int : mg "int" = none) : Gn P w K mg base ca 1 f fd ["cup", "many"] m__law_roll := by
  refine Gn.of F sc__law_roll rfl rfl fun cdv A outer s H room ck => ?_
  have hp : PassesOwn (model (cxF P w K mg base ["cup", "many", "found", "deep"] "_law_roll" (topS 35) f cdv A outer s H).prog (cxF P w K mg base ["cup", "many", "found", "deep"] "_law_roll" (topS 35) f cdv A outer s H).w) (cxF P w K mg base ["cup", "many", "found", "deep"] "_law_roll" (topS 35) f cdv A outer s H).A (cxF P w K mg base ["cup", "many", "found", "deep"] "_law_roll" (topS 35) f cdv A outer s H).env (cxF P w K mg base ["cup", "many", "found", "deep"] "_law_roll" (topS 35) f cdv A outer s H).xe := PassesOwn.never
  unfold b__law_roll
  exact z_cons (z_if (t_cmp ck rfl (r_sub ck (r_v 0) (r_int)) (r_int)) (z_cons (z_asg (x_nm ck 2) (r_bin rfl (r_biT b1_int z_int (r_cons (r_sub ck (r_v 0) (r_int)) (r_nil))) (r_v 1)))
    (z_cons (z_set ck (r_v 0) (r_int) (r_bin rfl (r_sub ck (r_v 0) (r_int)) (r_v 1)))
    (z_one (z_ret (r_v 2))))) (z_nil))
    (z_cons (z_set ck (r_v 0) (r_int) (r_bin rfl (r_biT b1_int z_int (r_cons (r_bin rfl (r_bin rfl (r_sub ck (r_v 0) (r_int)) (r_int)) (r_int)) (r_nil))) (r_int)))
    (z_cons (z_asg (x_nm ck 3) (r_bin rfl (r_biT b1_int z_int (r_cons (r_bin rfl (r_sub ck (r_v 0) (r_int)) (r_bin rfl (r_sub ck (r_v 0) (r_int)) (r_int))) (r_nil))) (r_int)))
    (z_one (z_ret (r_bin rfl (r_biT b1_int z_int (r_cons (r_bin rfl (r_v 3) (r_int)) (r_nil))) (r_v 1))))))
/-! _law_text: slots 0=text 1=sign -/
def b__law_text : SM := retM (biM .tuple (consM (lcE (seqI (vM 0)) (.nm 1) [1] (yesM) (biM .ord (consM (vM 1) (nilM)))) (nilM)))
def m__law_text : List W → M W := fnB 1 2 b__law_text
theorem sc__law_text : FnScope ["text", "sign"] ["text"] (defScope (topS 37)) := ⟨rfl, rfl, rfl, by decide +kernel, rfl, by decide +kernel, by decide +kernel⟩
theorem d__law_text {P : Program} {w : World} {K : PySem.W.Frag} {mg : Str → Option Value} {base : Heap} {ca : Nat → Addr} {f : Addr} {fd : FuncData} (F : Fun K "_law_text" "_law_text" (topS 37) f fd) (z_ord : mg "ord" = none) (z_tuple : mg "tuple" = none) : Gn P w K mg base ca 1 f fd ["text"] m__law_text := by
  refine Gn.of F sc__law_text rfl rfl fun cdv A outer s H room ck => ?_
  have hp : PassesOwn (model (cxF P w K mg base ["text", "sign"] "_law_text" (topS 37) f cdv A outer s H).prog (cxF P w K mg base ["text", "sign"] "_law_text" (topS 37) f cdv A outer s H).w) (cxF P w K mg base ["text", "sign"] "_law_text" (topS 37) f cdv A outer s H).A (cxF P w K mg base ["text", "sign"] "_law_text" (topS 37) f cdv A outer s H).env (cxF P w K mg base ["text", "sign"] "_law_text" (topS 37) f cdv A outer s H).xe := PassesOwn.never
  unfold b__law_text
  exact z_one (z_ret (r_biT b1_tuple z_tuple (r_cons (r_lc ck [("sign", 1)] (q_seq (r_v 0)) (fun _ _ _ _ _ => x_nm ck.blk 1) (fun _ _ _ _ _ => c_nil) (fun _ _ _ _ _ => r_biB b1_ord z_ord (r_cons (r_v 1) (r_nil)))) (r_nil))))
/-! _law_digits: slots 0=octets 1=found 2=octet -/
def b__law_digits : SM := sq (asgM (.nm 1) (kM (.int 0))) (sq (foM (.nm 2) (seqI (vM 0)) (asgM (.nm 1) (binM .sub (binM .add (binM .mul (vM 1) (kM (.int 10))) (vM 2)) (kM (.int 48))))) (retM (vM 1)))
def m__law_digits : List W → M W := fnB 1 3 b__law_digits
theorem sc__law_digits : FnScope ["octets", "found", "octet"] ["octets"] (defScope (topS 40)) := ⟨rfl, rfl, rfl, by decide +kernel, rfl, by decide +kernel, by decide +kernel⟩
theorem d__law_digits {P : Program} {w : World} {K : PySem.W.Frag} {mg : Str → Option Value} {base : Heap} {ca : Nat → Addr} {f : Addr} {fd : FuncData} (F : Fun K "_law_digits" "_law_digits" (topS 40) f fd)  : Gn P w K mg base ca 1 f fd ["octets"] m__law_digits := by
  refine Gn.of F sc__law_digits rfl rfl fun cdv A outer s H room ck => ?_
  have hp : PassesOwn (model (cxF P w K mg base ["octets", "found", "octet"] "_law_digits" (topS 40) f cdv A outer s H).prog (cxF P w K mg base ["octets", "found", "octet"] "_law_digits" (topS 40) f cdv A outer s H).w) (cxF P w K mg base ["octets", "found", "octet"] "_law_digits" (topS 40) f cdv A outer s H).A (cxF P w K mg base ["octets", "found", "octet"] "_law_digits" (topS 40) f cdv A outer s H).env (cxF P w K mg base ["octets", "found", "octet"] "_law_digits" (topS 40) f cdv A outer s H).xe := PassesOwn.never
  unfold b__law_digits
  exact z_cons (z_asg (x_nm ck 1) (r_int))
    (z_cons (z_for ck hp (q_seq (r_v 0)) (x_nm ck 2) (z_one (z_asg (x_nm ck 1) (r_bin rfl (r_bin rfl (r_bin rfl (r_v 1) (r_int)) (r_v 2)) (r_int)))))
    (z_one (z_ret (r_v 1))))
/-! _law_target: slots 0=target 1=odd 2=octet -/
def b__law_target : SM := sq (ifM (cmpM .eq (vM 0) (tupM (consM (kM (.int 42)) (nilM)))) (retM (tupM (consM (kM (.str "all")) (nilM)))) (skM)) (sq (ifM (cmpM .ne (subM (vM 0) (kM (.int 0))) (kM (.int 47))) (retM (tupM (consM (kM (.str "strayed")) (consM (kM (.int 400)) (nilM))))) (skM)) (sq (asgM (.nm 1) (lcE (seqI (slcM (vM 0) (soM (kM (.int 1))) (noM))) (.nm 2) [2] (tst (andM (notM (chM .le .le (kM (.int 97)) (vM 2) (kM (.int 122)))) (andM (notM (chM .le .le (kM (.int 48)) (vM 2) (kM (.int 57)))) (cmpM .ne (vM 2) (kM (.int 46)))))) (vM 2))) (sq (ifM (cmpM .eq (vM 0) (tupM (consM (kM (.int 47)) (nilM)))) (retM (tupM (consM (kM (.str "list")) (nilM)))) (skM)) (retM (iteM (orM (cmpM .ne (vM 1) (lstM (nilM))) (cmpM .gt (biM .len (consM (vM 0) (nilM))) (kM (.int 13)))) (tupM (consM (kM (.str "strayed")) (consM (kM (.int 404)) (nilM)))) (tupM (consM (kM (.str "file")) (consM (slcM (vM 0) (soM (kM (.int 1))) (noM)) (nilM)))))))))
def m__law_target : List W → M W := fnB 1 3 b__law_target
theorem sc__law_target : FnScope ["target", "odd", "octet"] ["target"] (defScope (topS 42)) := ⟨rfl, rfl, rfl, by decide +kernel, rfl, by decide +kernel, by decide +kernel⟩
theorem d__law_target {P : Program} {w : World} {K : PySem.W.Frag} {mg : Str → Option Value} {base : Heap} {ca : Nat → Addr} {f : Addr} {fd : FuncData} (F : Fun K "_law_target" "_law_target" (topS 42) f fd) (z_len : mg "len" = none) : Gn P w K mg base ca 1 f fd ["target"] m__law_target := by
  refine Gn.of F sc__law_target rfl rfl fun cdv A outer s H room ck => ?_
  have hp : PassesOwn (model (cxF P w K mg base ["target", "odd", "octet"] "_law_target" (topS 42) f cdv A outer s H).prog (cxF P w K mg base ["target", "odd", "octet"] "_law_target" (topS 42) f cdv A outer s H).w) (cxF P w K mg base ["target", "odd", "octet"] "_law_target" (topS 42) f cdv A outer s H).A (cxF P w K mg base ["target", "odd", "octet"] "_law_target" (topS 42) f cdv A outer s H).env (cxF P w K mg base ["target", "odd", "octet"] "_law_target" (topS 42) f cdv A outer s H).xe := PassesOwn.never
  unfold b__law_target
  exact z_cons (z_if (t_cmp ck rfl (r_v 0) (r_tup (r_cons (r_int) (r_nil)))) (z_one (z_ret (r_tup (r_cons (r_str) (r_nil))))) (z_nil))
    (z_cons (z_if (t_cmp ck rfl (r_sub ck (r_v 0) (r_int)) (r_int)) (z_one (z_ret (r_tup (r_cons (r_str) (r_cons (r_int) (r_nil)))))) (z_nil))
    (z_cons (s_lc ck 1 [("octet", 2)] (q_seq (r_slc (r_v 0) (.inr ⟨_, _, rfl, rfl, r_int⟩) (.inl ⟨rfl, rfl⟩))) (fun _ _ _ _ _ => x_nm ck.blk 2) (fun _ _ _ _ _ => c_one (PW.pt (w_and (t_not (t_ch ck.blk rfl rfl (r_int) (r_v 2) (r_int))) (w_and (t_not (t_ch ck.blk rfl rfl (r_int) (r_v 2) (r_int))) (w_and1 (t_cmp ck.blk rfl (r_v 2) (r_int))))))) (fun _ _ _ _ _ => r_v 2))
    (z_cons (z_if (t_cmp ck rfl (r_v 0) (r_tup (r_cons (r_int) (r_nil)))) (z_one (z_ret (r_tup (r_cons (r_str) (r_nil))))) (z_nil))
    (z_one (z_ret (r_ite (PW.pt (w_or (t_cmp ck rfl (r_v 1) (r_lst (r_nil))) (w_or1 (t_cmp ck rfl (r_biB b1_len z_len (r_cons (r_v 0) (r_nil))) (r_int))))) (r_tup (r_cons (r_str) (r_cons (r_int) (r_nil)))) (r_tup (r_cons (r_str) (r_cons (r_slc (r_v 0) (.inr ⟨_, _, rfl, rfl, r_int⟩) (.inl ⟨rfl, rfl⟩)) (r_nil))))))))))
/-! need_whole: slots 0=value 1=low 2=high -/
def b_need_whole : SM := ifM (notM (callM m_is_whole (consM (vM 0) (consM (vM 1) (consM (vM 2) (nilM)))))) (badM) (skM)
def m_need_whole : List W → M W := fnB 3 3 b_need_whole
theorem sc_need_whole : FnScope ["value", "low", "high"] ["value", "low", "high"] (defScope (topS 7)) := ⟨rfl, rfl, rfl, by decide +kernel, rfl, by decide +kernel, by decide +kernel⟩
theorem d_need_whole {P : Program} {w : World} {K : PySem.W.Frag} {mg : Str → Option Value} {base : Heap} {ca : Nat → Addr} {f : Addr} {fd : FuncData} (F : Fun K "need_whole" "need_whole" (topS 7) f fd) (C_is_whole : Cl P w K mg base ca 1 "is_whole" m_is_whole) : Gn P w K mg base ca 2 f fd ["value", "low", "high"] m_need_whole := by
  refine Gn.of F sc_need_whole rfl rfl fun cdv A outer s H room ck => ?_
  have hp : PassesOwn (model (cxF P w K mg base ["value", "low", "high"] "need_whole" (topS 7) f cdv A outer s H).prog (cxF P w K mg base ["value", "low", "high"] "need_whole" (topS 7) f cdv A outer s H).w) (cxF P w K mg base ["value", "low", "high"] "need_whole" (topS 7) f cdv A outer s H).A (cxF P w K mg base ["value", "low", "high"] "need_whole" (topS 7) f cdv A outer s H).env (cxF P w K mg base ["value", "low", "high"] "need_whole" (topS 7) f cdv A outer s H).xe := PassesOwn.never
  unfold b_need_whole
  exact z_one (z_if (t_not (t_val (r_call ck room C_is_whole (r_cons (r_v 0) (r_cons (r_v 1) (r_cons (r_v 2) (r_nil))))))) (z_one (z_bad)) (z_nil))
/-! are_octets: slots 0=value 1=most 2=octet -/
def b_are_octets : SM := retM (andM (callM m_is_tuple_of (consM (vM 0) (consM (kM (.int 0)) (consM (vM 1) (nilM))))) (biM .all (consM (lcE (seqI (vM 0)) (.nm 2) [2] (yesM) (callM m_is_whole (consM (vM 2) (consM (kM (.int 0)) (consM (kM (.int 255)) (nilM)))))) (nilM))))
def m_are_octets : List W → M W := fnB 2 3 b_are_octets
theorem sc_are_octets : FnScope ["value", "most", "octet"] ["value", "most"] (defScope (topS 9)) := ⟨rfl, rfl, rfl, by decide +kernel, rfl, by decide +kernel, by decide +kernel⟩
theorem d_are_octets {P : Program} {w : World} {K : PySem.W.Frag} {mg : Str → Option Value} {base : Heap} {ca : Nat → Addr} {f : Addr} {fd : FuncData} (F : Fun K "are_octets" "are_octets" (topS 9) f fd) (C_is_whole : Cl P w K mg base ca 1 "is_whole" m_is_whole) (z_all : mg "all" = none) (C_is_tuple_of : Cl P w K mg base ca 1 "is_tuple_of" m_is_tuple_of) : Gn P w K mg base ca 2 f fd ["value", "most"] m_are_octets := by
  refine Gn.of F sc_are_octets rfl rfl fun cdv A outer s H room ck => ?_
  have hp : PassesOwn (model (cxF P w K mg base ["value", "most", "octet"] "are_octets" (topS 9) f cdv A outer s H).prog (cxF P w K mg base ["value", "most", "octet"] "are_octets" (topS 9) f cdv A outer s H).w) (cxF P w K mg base ["value", "most", "octet"] "are_octets" (topS 9) f cdv A outer s H).A (cxF P w K mg base ["value", "most", "octet"] "are_octets" (topS 9) f cdv A outer s H).env (cxF P w K mg base ["value", "most", "octet"] "are_octets" (topS 9) f cdv A outer s H).xe := PassesOwn.never
  unfold b_are_octets
  exact z_one (z_ret (r_and (r_call ck room C_is_tuple_of (r_cons (r_v 0) (r_cons (r_int) (r_cons (r_v 1) (r_nil))))) (r_b1 (r_biB (b1_all ck) z_all (r_cons (r_lc ck [("octet", 2)] (q_seq (r_v 0)) (fun _ _ _ _ _ => x_nm ck.blk 2) (fun _ _ _ _ _ => c_nil) (fun _ _ _ _ _ => r_call ck.blk room C_is_whole (r_cons (r_v 2) (r_cons (r_int) (r_cons (r_int) (r_nil)))))) (r_nil))))))
/-! parts_in: slots 0=value 1=rest 2=at 3=ahead 4=behind 5=fine 6=place 7=octet 8=octets -/
def b_parts_in : SM := sq (asgM (.nm 1) (slcM (vM 0) (soM (biM .len (consM (kM (.tuple [(.int 98), (.int 121), (.int 116), (.int 101), (.int 115), (.int 61)])) (nilM)))) (noM))) (sq (ifM (orM (cmpM .ne (slcM (vM 0) (noM) (soM (biM .len (consM (kM (.tuple [(.int 98), (.int 121), (.int 116), (.int 101), (.int 115), (.int 61)])) (nilM))))) (kM (.tuple [(.int 98), (.int 121), (.int 116), (.int 101), (.int 115), (.int 61)]))) (cmpM .nin (kM (.int 45)) (vM 1))) (retM (kM .none)) (skM)) (sq (asgM (.nm 2) (subM (lcE (enumI (consM (vM 1) (nilM))) (.tup [6, 7]) [6, 7] (tst (cmpM .eq (vM 7) (kM (.int 45)))) (vM 6)) (kM (.int 0)))) (sq (par2M 3 4 (consM (slcM (vM 1) (noM) (soM (vM 2))) (consM (slcM (vM 1) (soM (binM .add (vM 2) (kM (.int 1)))) (noM)) (nilM)))) (sq (ifM (andM (cmpM .eq (vM 3) (tupM (nilM))) (cmpM .eq (vM 4) (tupM (nilM)))) (retM (kM .none)) (skM)) (sq (asgM (.nm 5) (lcE (seqI (tupM (consM (vM 3) (consM (vM 4) (nilM))))) (.nm 8) [8] (yesM) (orM (cmpM .eq (vM 8) (tupM (nilM))) (cmpM .isnn (callM m_digits_told (consM (vM 8) (nilM))) (kM .none))))) (retM (iteM (biM .all (consM (vM 5) (nilM))) (tupM (consM (vM 3) (consM (vM 4) (nilM)))) (kM .none))))))))
def m_parts_in : List W → M W := fnB 1 9 b_parts_in
theorem sc_parts_in : FnScope ["value", "rest", "at", "ahead", "behind", "fine", "place", "octet", "octets"] ["value"] (defScope (topS 31)) := ⟨rfl, rfl, rfl, by decide +kernel, rfl, by decide +kernel, by decide +kernel⟩
theorem d_parts_in {P : Program} {w : World} {K : PySem.W.Frag} {mg : Str → Option Value} {base : Heap} {ca : Nat → Addr} {f : Addr} {fd : FuncData} (F : Fun K "parts_in" "parts_in" (topS 31) f fd) (c_AHEAD : Gc K mg "AHEAD" (.tuple [(.int 98), (.int 121), (.int 116), (.int 101), (.int 115), (.int 61)])) (z_len : mg "len" = none) (c_DASH : Gc K mg "DASH" (.int 45)) (z_enumerate : mg "enumerate" = none) (C_digits_told : Cl P w K mg base ca 1 "digits_told" m_digits_told) (z_all : mg "all" = none) : Gn P w K mg base ca 2 f fd ["value"] m_parts_in := by
  refine Gn.of F sc_parts_in rfl rfl fun cdv A outer s H room ck => ?_
  have hp : PassesOwn (model (cxF P w K mg base ["value", "rest", "at", "ahead", "behind", "fine", "place", "octet", "octets"] "parts_in" (topS 31) f cdv A outer s H).prog (cxF P w K mg base ["value", "rest", "at", "ahead", "behind", "fine", "place", "octet", "octets"] "parts_in" (topS 31) f cdv A outer s H).w) (cxF P w K mg base ["value", "rest", "at", "ahead", "behind", "fine", "place", "octet", "octets"] "parts_in" (topS 31) f cdv A outer s H).A (cxF P w K mg base ["value", "rest", "at", "ahead", "behind", "fine", "place", "octet", "octets"] "parts_in" (topS 31) f cdv A outer s H).env (cxF P w K mg base ["value", "rest", "at", "ahead", "behind", "fine", "place", "octet", "octets"] "parts_in" (topS 31) f cdv A outer s H).xe := PassesOwn.never
  unfold b_parts_in
  exact z_cons (z_asg (x_nm ck 1) (r_slc (r_v 0) (.inr ⟨_, _, rfl, rfl, r_biB b1_len z_len (r_cons (r_gc c_AHEAD) (r_nil))⟩) (.inl ⟨rfl, rfl⟩)))
    (z_cons (z_if (PW.pt (w_or (t_cmp ck rfl (r_slc (r_v 0) (.inl ⟨rfl, rfl⟩) (.inr ⟨_, _, rfl, rfl, r_biB b1_len z_len (r_cons (r_gc c_AHEAD) (r_nil))⟩)) (r_gc c_AHEAD)) (w_or1 (t_cmp ck rfl (r_gc c_DASH) (r_v 1))))) (z_one (z_ret (r_non))) (z_nil))
    (z_cons (z_asg (x_nm ck 2) (r_sub ck (r_lc ck [("place", 6), ("octet", 7)] (q_enum z_enumerate (r_cons (r_v 1) (r_nil))) (fun _ _ _ _ _ => x_tup ck.blk (x_cons ck.blk 6 (x_cons ck.blk 7 (x_nil)))) (fun _ _ _ _ _ => c_one (t_cmp ck.blk rfl (r_v 7) (r_gc c_DASH))) (fun _ _ _ _ _ => r_v 6)) (r_int)))
    (z_cons (z_par2 ck 3 4 (r_cons (r_slc (r_v 1) (.inl ⟨rfl, rfl⟩) (.inr ⟨_, _, rfl, rfl, r_v 2⟩)) (r_cons (r_slc (r_v 1) (.inr ⟨_, _, rfl, rfl, r_bin rfl (r_v 2) (r_int)⟩) (.inl ⟨rfl, rfl⟩)) (r_nil))))
    (z_cons (z_if (PW.pt (w_and (t_cmp ck rfl (r_v 3) (r_tup (r_nil))) (w_and1 (t_cmp ck rfl (r_v 4) (r_tup (r_nil)))))) (z_one (z_ret (r_non))) (z_nil))
    (z_cons (s_lc ck 5 [("octets", 8)] (q_seq (r_tup (r_cons (r_v 3) (r_cons (r_v 4) (r_nil))))) (fun _ _ _ _ _ => x_nm ck.blk 8) (fun _ _ _ _ _ => c_nil) (fun _ _ _ _ _ => r_or (r_cmp ck.blk rfl (r_v 8) (r_tup (r_nil))) (r_b1 (r_cmp ck.blk rfl (r_call ck.blk room C_digits_told (r_cons (r_v 8) (r_nil))) (r_non)))))
    (z_one (z_ret (r_ite (t_val (r_biB (b1_all ck) z_all (r_cons (r_v 5) (r_nil)))) (r_tup (r_cons (r_v 3) (r_cons (r_v 4) (r_nil)))) (r_non)))))))))
/-! _law_some: slots 0=cup 1=things -/
def b__law_some : SM := retM (subM (vM 1) (callM m__law_roll (consM (vM 0) (consM (biM .len (consM (vM 1) (nilM))) (nilM)))))
def m__law_some : List W → M W := fnB 2 2 b__law_some
theorem sc__law_some : FnScope ["cup", "things"] ["cup", "things"] (defScope (topS 36)) := ⟨rfl, rfl, rfl, by decide +kernel, rfl, by decide +kernel, by decide +kernel⟩
theorem d__law_some {P : Program} {w : World} {K : PySem.W.Frag} {mg : Str → Option Value} {base : Heap} {ca : Nat → Addr} {f : Addr} {fd : FuncData} (F : Fun K "_law_some" "_law_some" (topS 36) f fd) (C__law_roll : Cl P w K mg base ca 1 "_law_roll" m__law_roll) (z_len : mg "len" = none) : Gn P w K mg base ca 2 f fd ["cup", "things"] m__law_some := by
  refine Gn.of F sc__law_some rfl rfl fun cdv A outer s H room ck => ?_
  have hp : PassesOwn (model (cxF P w K mg base ["cup", "things"] "_law_some" (topS 36) f cdv A outer s H).prog (cxF P w K mg base ["cup", "things"] "_law_some" (topS 36) f cdv A outer s H).w) (cxF P w K mg base ["cup", "things"] "_law_some" (topS 36) f cdv A outer s H).A (cxF P w K mg base ["cup", "things"] "_law_some" (topS 36) f cdv A outer s H).env (cxF P w K mg base ["cup", "things"] "_law_some" (topS 36) f cdv A outer s H).xe := PassesOwn.never
  unfold b__law_some
  exact z_one (z_ret (r_sub ck (r_v 1) (r_call ck room C__law_roll (r_cons (r_v 0) (r_cons (r_biB b1_len z_len (r_cons (r_v 1) (r_nil))) (r_nil))))))
/-! _law_tag: slots 0=version -/
def b__law_tag : SM := retM (binM .add (binM .add (tupM (consM (kM (.int 34)) (nilM))) (callM m__law_text (consM (binM .add (kM (.str "v")) (biM .str (consM (vM 0) (nilM)))) (nilM)))) (tupM (consM (kM (.int 34)) (nilM))))
def m__law_tag : List W → M W := fnB 1 1 b__law_tag
theorem sc__law_tag : FnScope ["version"] ["version"] (defScope (topS 38)) := ⟨rfl, rfl, rfl, by decide +kernel, rfl, by decide +kernel, by decide +kernel⟩
theorem d__law_tag {P : Program} {w : World} {K : PySem.W.Frag} {mg : Str → Option Value} {base : Heap} {ca : Nat → Addr} {f : Addr} {fd : FuncData} (F : Fun K "_law_tag" "_law_tag" (topS 38) f fd) (C__law_text : Cl P w K mg base ca 1 "_law_text" m__law_text) (z_str : mg "str" = none) : Gn P w K mg base ca 2 f fd ["version"] m__law_tag := by
  refine Gn.of F sc__law_tag rfl rfl fun cdv A outer s H room ck => ?_
  have hp : PassesOwn (model (cxF P w K mg base ["version"] "_law_tag" (topS 38) f cdv A outer s H).prog (cxF P w K mg base ["version"] "_law_tag" (topS 38) f cdv A outer s H).w) (cxF P w K mg base ["version"] "_law_tag" (topS 38) f cdv A outer s H).A (cxF P w K mg base ["version"] "_law_tag" (topS 38) f cdv A outer s H).env (cxF P w K mg base ["version"] "_law_tag" (topS 38) f cdv A outer s H).xe := PassesOwn.never
  unfold b__law_tag
  exact z_one (z_ret (r_bin rfl (r_bin rfl (r_tup (r_cons (r_int) (r_nil))) (r_call ck room C__law_text (r_cons (r_bin rfl (r_str) (r_biT b1_str z_str (r_cons (r_v 0) (r_nil)))) (r_nil)))) (r_tup (r_cons (r_int) (r_nil)))))
/-! _law_span: slots 0=value 1=size 2=rest 3=places 4=one 5=two 6=many 7=first 8=last 9=at 10=octet -/
def b__law_span : SM := sq (asgM (.nm 2) (slcM (vM 0) (soM (kM (.int 6))) (noM))) (sq (asgM (.nm 3) (lcE (rng1I (consM (biM .len (consM (vM 2) (nilM))) (nilM))) (.nm 9) [9] (tst (cmpM .eq (subM (vM 2) (vM 9)) (kM (.int 45)))) (vM 9))) (sq (ifM (orM (cmpM .ne (slcM (vM 0) (noM) (soM (kM (.int 6)))) (callM m__law_text (consM (kM (.str "bytes=")) (nilM)))) (orM (cmpM .ne (biM .len (consM (vM 3) (nilM))) (kM (.int 1))) (cmpM .eq (vM 2) (tupM (consM (kM (.int 45)) (nilM)))))) (retM (kM .none)) (skM)) (sq (par2M 4 5 (consM (slcM (vM 2) (noM) (soM (subM (vM 3) (kM (.int 0))))) (consM (slcM (vM 2) (soM (binM .add (subM (vM 3) (kM (.int 0))) (kM (.int 1)))) (noM)) (nilM)))) (sq (ifM (orM (cmpM .gt (biM .len (consM (vM 4) (nilM))) (kM (.int 6))) (orM (cmpM .gt (biM .len (consM (vM 5) (nilM))) (kM (.int 6))) (cmpM .ne (lcE (seqI (binM .add (vM 4) (vM 5))) (.nm 10) [10] (tst (orM (cmpM .lt (vM 10) (kM (.int 48))) (cmpM .gt (vM 10) (kM (.int 57))))) (vM 10)) (lstM (nilM))))) (retM (kM .none)) (skM)) (sq (ifM (cmpM .eq (vM 4) (tupM (nilM))) (sq (asgM (.nm 6) (biM .min (consM (vM 1) (consM (callM m__law_digits (consM (vM 5) (nilM))) (nilM))))) (retM (iteM (cmpM .gt (vM 6) (kM (.int 0))) (tupM (consM (binM .sub (vM 1) (vM 6)) (consM (binM .sub (vM 1) (kM (.int 1))) (nilM)))) (tupM (nilM))))) (skM)) (sq (par2M 7 8 (consM (callM m__law_digits (consM (vM 4) (nilM))) (consM (iteM (cmpM .ne (vM 5) (tupM (nilM))) (callM m__law_digits (consM (vM 5) (nilM))) (vM 1)) (nilM)))) (retM (iteM (andM (cmpM .lt (vM 7) (vM 1)) (cmpM .le (vM 7) (vM 8))) (tupM (consM (vM 7) (consM (biM .min (consM (vM 8) (consM (binM .sub (vM 1) (kM (.int 1))) (nilM)))) (nilM)))) (tupM (nilM))))))))))
def m__law_span : List W → M W := fnB 2 11 b__law_span
theorem sc__law_span : FnScope ["value", "size", "rest", "places", "one", "two", "many", "first", "last", "at", "octet"] ["value", "size"] (defScope (topS 41)) := ⟨rfl, rfl, rfl, by decide +kernel, rfl, by decide +kernel, by decide +kernel⟩
theorem d__law_span {P : Program} {w : World} {K : PySem.W.Frag} {mg : Str → Option Value} {base : Heap} {ca : Nat → Addr} {f : Addr} {fd : FuncData} (F : Fun K "_law_span" "_law_span" (topS 41) f fd) (z_range : mg "range" = none) (z_len : mg "len" = none) (C__law_text : Cl P w K mg base ca 1 "_law_text" m__law_text) (C__law_digits : Cl P w K mg base ca 1 "_law_digits" m__law_digits) (z_min : mg "min" = none) : Gn P w K mg base ca 2 f fd ["value", "size"] m__law_span := by
  refine Gn.of F sc__law_span rfl rfl fun cdv A outer s H room ck => ?_
  have hp : PassesOwn (model (cxF P w K mg base ["value", "size", "rest", "places", "one", "two", "many", "first", "last", "at", "octet"] "_law_span" (topS 41) f cdv A outer s H).prog (cxF P w K mg base ["value", "size", "rest", "places", "one", "two", "many", "first", "last", "at", "octet"] "_law_span" (topS 41) f cdv A outer s H).w) (cxF P w K mg base ["value", "size", "rest", "places", "one", "two", "many", "first", "last", "at", "octet"] "_law_span" (topS 41) f cdv A outer s H).A (cxF P w K mg base ["value", "size", "rest", "places", "one", "two", "many", "first", "last", "at", "octet"] "_law_span" (topS 41) f cdv A outer s H).env (cxF P w K mg base ["value", "size", "rest", "places", "one", "two", "many", "first", "last", "at", "octet"] "_law_span" (topS 41) f cdv A outer s H).xe := PassesOwn.never
  unfold b__law_span
  exact z_cons (z_asg (x_nm ck 2) (r_slc (r_v 0) (.inr ⟨_, _, rfl, rfl, r_int⟩) (.inl ⟨rfl, rfl⟩)))
    (z_cons (s_lc ck 3 [("at", 9)] (q_rng1 z_range (r_cons (r_biB b1_len z_len (r_cons (r_v 2) (r_nil))) (r_nil))) (fun _ _ _ _ _ => x_nm ck.blk 9) (fun _ _ _ _ _ => c_one (t_cmp ck.blk rfl (r_sub ck.blk (r_v 2) (r_v 9)) (r_int))) (fun _ _ _ _ _ => r_v 9))
    (z_cons (z_if (PW.pt (w_or (t_cmp ck rfl (r_slc (r_v 0) (.inl ⟨rfl, rfl⟩) (.inr ⟨_, _, rfl, rfl, r_int⟩)) (r_call ck room C__law_text (r_cons (r_str) (r_nil)))) (w_or (t_cmp ck rfl (r_biB b1_len z_len (r_cons (r_v 3) (r_nil))) (r_int)) (w_or1 (t_cmp ck rfl (r_v 2) (r_tup (r_cons (r_int) (r_nil)))))))) (z_one (z_ret (r_non))) (z_nil))
    (z_cons (z_par2 ck 4 5 (r_cons (r_slc (r_v 2) (.inl ⟨rfl, rfl⟩) (.inr ⟨_, _, rfl, rfl, r_sub ck (r_v 3) (r_int)⟩)) (r_cons (r_slc (r_v 2) (.inr ⟨_, _, rfl, rfl, r_bin rfl (r_sub ck (r_v 3) (r_int)) (r_int)⟩) (.inl ⟨rfl, rfl⟩)) (r_nil))))
    (z_cons (z_if (PW.pt (w_or (t_cmp ck rfl (r_biB b1_len z_len (r_cons (r_v 4) (r_nil))) (r_int)) (w_or (t_cmp ck rfl (r_biB b1_len z_len (r_cons (r_v 5) (r_nil))) (r_int)) (w_or1 (t_cmp ck rfl (r_lc ck [("octet", 10)] (q_seq (r_bin rfl (r_v 4) (r_v 5))) (fun _ _ _ _ _ => x_nm ck.blk 10) (fun _ _ _ _ _ => c_one (PW.pt (w_or (t_cmp ck.blk rfl (r_v 10) (r_int)) (w_or1 (t_cmp ck.blk rfl (r_v 10) (r_int)))))) (fun _ _ _ _ _ => r_v 10)) (r_lst (r_nil))))))) (z_one (z_ret (r_non))) (z_nil))
    (z_cons (z_if (t_cmp ck rfl (r_v 4) (r_tup (r_nil))) (z_cons (z_asg (x_nm ck 6) (r_biB (b1_min ck) z_min (r_cons (r_v 1) (r_cons (r_call ck room C__law_digits (r_cons (r_v 5) (r_nil))) (r_nil)))))
    (z_one (z_ret (r_ite (t_cmp ck rfl (r_v 6) (r_int)) (r_tup (r_cons (r_bin rfl (r_v 1) (r_v 6)) (r_cons (r_bin rfl (r_v 1) (r_int)) (r_nil)))) (r_tup (r_nil)))))) (z_nil))
    (z_cons (z_par2 ck 7 8 (r_cons (r_call ck room C__law_digits (r_cons (r_v 4) (r_nil))) (r_cons (r_ite (t_cmp ck rfl (r_v 5) (r_tup (r_nil))) (r_call ck room C__law_digits (r_cons (r_v 5) (r_nil))) (r_v 1)) (r_nil))))
    (z_one (z_ret (r_ite (PW.pt (w_and (t_cmp ck rfl (r_v 7) (r_v 1)) (w_and1 (t_cmp ck rfl (r_v 7) (r_v 8))))) (r_tup (r_cons (r_v 7) (r_cons (r_biB (b1_min ck) z_min (r_cons (r_v 8) (r_cons (r_bin rfl (r_v 1) (r_int)) (r_nil)))) (r_nil)))) (r_tup (r_nil)))))))))))
/-! need_octets: slots 0=value 1=low 2=high -/
def b_need_octets : SM := ifM (orM (notM (callM m_are_octets (consM (vM 0) (consM (vM 2) (nilM))))) (cmpM .lt (biM .len (consM (vM 0) (nilM))) (vM 1))) (badM) (skM)
def m_need_octets : List W → M W := fnB 3 3 b_need_octets
theorem sc_need_octets : FnScope ["value", "low", "high"] ["value", "low", "high"] (defScope (topS 10)) := ⟨rfl, rfl, rfl, by decide +kernel, rfl, by decide +kernel, by decide +kernel⟩
theorem d_need_octets {P : Program} {w : World} {K : PySem.W.Frag} {mg : Str → Option Value} {base : Heap} {ca : Nat → Addr} {f : Addr} {fd : FuncData} (F : Fun K "need_octets" "need_octets" (topS 10) f fd) (z_len : mg "len" = none) (C_are_octets : Cl P w K mg base ca 2 "are_octets" m_are_octets) : Gn P w K mg base ca 3 f fd ["value", "low", "high"] m_need_octets := by
  refine Gn.of F sc_need_octets rfl rfl fun cdv A outer s H room ck => ?_
  have hp : PassesOwn (model (cxF P w K mg base ["value", "low", "high"] "need_octets" (topS 10) f cdv A outer s H).prog (cxF P w K mg base ["value", "low", "high"] "need_octets" (topS 10) f cdv A outer s H).w) (cxF P w K mg base ["value", "low", "high"] "need_octets" (topS 10) f cdv A outer s H).A (cxF P w K mg base ["value", "low", "high"] "need_octets" (topS 10) f cdv A outer s H).env (cxF P w K mg base ["value", "low", "high"] "need_octets" (topS 10) f cdv A outer s H).xe := PassesOwn.never
  unfold b_need_octets
  exact z_one (z_if (PW.pt (w_or (t_not (t_val (r_call ck room C_are_octets (r_cons (r_v 0) (r_cons (r_v 2) (r_nil)))))) (w_or1 (t_cmp ck rfl (r_biB b1_len z_len (r_cons (r_v 0) (r_nil))) (r_v 1))))) (z_one (z_bad)) (z_nil))
/-! is_file_name: slots 0=value 1=octet -/
def b_is_file_name : SM := retM (andM (callM m_are_octets (consM (vM 0) (consM (kM (.int 12)) (nilM)))) (andM (cmpM .ne (vM 0) (tupM (nilM))) (biM .all (consM (lcE (seqI (vM 0)) (.nm 1) [1] (yesM) (callM m_fits_sign (consM (vM 1) (nilM)))) (nilM)))))
def m_is_file_name : List W → M W := fnB 1 2 b_is_file_name
theorem sc_is_file_name : FnScope ["value", "octet"] ["value"] (defScope (topS 18)) := ⟨rfl, rfl, rfl, by decide +kernel, rfl, by decide +kernel, by decide +kernel⟩
theorem d_is_file_name {P : Program} {w : World} {K : PySem.W.Frag} {mg : Str → Option Value} {base : Heap} {ca : Nat → Addr} {f : Addr} {fd : FuncData} (F : Fun K "is_file_name" "is_file_name" (topS 18) f fd) (C_fits_sign : Cl P w K mg base ca 1 "fits_sign" m_fits_sign) (z_all : mg "all" = none) (C_are_octets : Cl P w K mg base ca 2 "are_octets" m_are_octets) (c_LONGEST : Gc K mg "LONGEST" (.int 12)) : Gn P w K mg base ca 3 f fd ["value"] m_is_file_name := by
  refine Gn.of F sc_is_file_name rfl rfl fun cdv A outer s H room ck => ?_
  have hp : PassesOwn (model (cxF P w K mg base ["value", "octet"] "is_file_name" (topS 18) f cdv A outer s H).prog (cxF P w K mg base ["value", "octet"] "is_file_name" (topS 18) f cdv A outer s H).w) (cxF P w K mg base ["value", "octet"] "is_file_name" (topS 18) f cdv A outer s H).A (cxF P w K mg base ["value", "octet"] "is_file_name" (topS 18) f cdv A outer s H).env (cxF P w K mg base ["value", "octet"] "is_file_name" (topS 18) f cdv A outer s H).xe := PassesOwn.never
  unfold b_is_file_name
  exact z_one (z_ret (r_and (r_call ck room C_are_octets (r_cons (r_v 0) (r_cons (r_gc c_LONGEST) (r_nil)))) (r_and (r_cmp ck rfl (r_v 0) (r_tup (r_nil))) (r_b1 (r_biB (b1_all ck) z_all (r_cons (r_lc ck [("octet", 1)] (q_seq (r_v 0)) (fun _ _ _ _ _ => x_nm ck.blk 1) (fun _ _ _ _ _ => c_nil) (fun _ _ _ _ _ => r_call ck.blk room C_fits_sign (r_cons (r_v 1) (r_nil)))) (r_nil)))))))
/-! tag_of: slots 0=version -/
def b_tag_of : SM := sq (exM (callM m_need_whole (consM (vM 0) (consM (kM (.int 0)) (consM (kM (.int 1000000000000000)) (nilM)))))) (retM (callM m_text_octets (consM (binM .add (binM .add (kM (.str "\"v")) (biM .str (consM (vM 0) (nilM)))) (kM (.str "\""))) (nilM))))
def m_tag_of : List W → M W := fnB 1 1 b_tag_of
theorem sc_tag_of : FnScope ["version"] ["version"] (defScope (topS 19)) := ⟨rfl, rfl, rfl, by decide +kernel, rfl, by decide +kernel, by decide +kernel⟩
theorem d_tag_of {P : Program} {w : World} {K : PySem.W.Frag} {mg : Str → Option Value} {base : Heap} {ca : Nat → Addr} {f : Addr} {fd : FuncData} (F : Fun K "tag_of" "tag_of" (topS 19) f fd) (C_need_whole : Cl P w K mg base ca 2 "need_whole" m_need_whole) (c_LATEST : Gc K mg "LATEST" (.int 1000000000000000)) (C_text_octets : Cl P w K mg base ca 1 "text_octets" m_text_octets) (z_str : mg "str" = none) : Gn P w K mg base ca 3 f fd ["version"] m_tag_of := by
  refine Gn.of F sc_tag_of rfl rfl fun cdv A outer s H room ck => ?_
  have hp : PassesOwn (model (cxF P w K mg base ["version"] "tag_of" (topS 19) f cdv A outer s H).prog (cxF P w K mg base ["version"] "tag_of" (topS 19) f cdv A outer s H).w) (cxF P w K mg base ["version"] "tag_of" (topS 19) f cdv A outer s H).A (cxF P w K mg base ["version"] "tag_of" (topS 19) f cdv A outer s H).env (cxF P w K mg base ["version"] "tag_of" (topS 19) f cdv A outer s H).xe := PassesOwn.never
  unfold b_tag_of
  exact z_cons (z_ex (r_call ck room C_need_whole (r_cons (r_v 0) (r_cons (r_int) (r_cons (r_gc c_LATEST) (r_nil))))))
    (z_one (z_ret (r_call ck room C_text_octets (r_cons (r_bin rfl (r_bin rfl (r_str) (r_biT b1_str z_str (r_cons (r_v 0) (r_nil)))) (r_str)) (r_nil)))))
/-! _law_fits: slots 0=value 1=version -/
def b__law_fits : SM := retM (andM (cmpM .isnn (vM 1) (kM .none)) (orM (cmpM .eq (vM 0) (tupM (consM (kM (.int 42)) (nilM)))) (cmpM .eq (vM 0) (callM m__law_tag (consM (vM 1) (nilM))))))
def m__law_fits : List W → M W := fnB 2 2 b__law_fits
theorem sc__law_fits : FnScope ["value", "version"] ["value", "version"] (defScope (topS 39)) := ⟨rfl, rfl, rfl, by decide +kernel, rfl, by decide +kernel, by decide +kernel⟩
theorem d__law_fits {P : Program} {w : World} {K : PySem.W.Frag} {mg : Str → Option Value} {base : Heap} {ca : Nat → Addr} {f : Addr} {fd : FuncData} (F : Fun K "_law_fits" "_law_fits" (topS 39) f fd) (C__law_tag : Cl P w K mg base ca 2 "_law_tag" m__law_tag) : Gn P w K mg base ca 3 f fd ["value", "version"] m__law_fits := by
  refine Gn.of F sc__law_fits rfl rfl fun cdv A outer s H room ck => ?_
  have hp : PassesOwn (model (cxF P w K mg base ["value", "version"] "_law_fits" (topS 39) f cdv A outer s H).prog (cxF P w K mg base ["value", "version"] "_law_fits" (topS 39) f cdv A outer s H).w) (cxF P w K mg base ["value", "version"] "_law_fits" (topS 39) f cdv A outer s H).A (cxF P w K mg base ["value", "version"] "_law_fits" (topS 39) f cdv A outer s H).env (cxF P w K mg base ["value", "version"] "_law_fits" (topS 39) f cdv A outer s H).xe := PassesOwn.never
  unfold b__law_fits
  exact z_one (z_ret (r_and (r_cmp ck rfl (r_v 1) (r_non)) (r_b1 (r_or (r_cmp ck rfl (r_v 0) (r_tup (r_cons (r_int) (r_nil)))) (r_b1 (r_cmp ck rfl (r_v 0) (r_call ck room C__law_tag (r_cons (r_v 1) (r_nil)))))))))
/-! _law_odd_target: slots 0=cup 1=signs 2=octets 3=at -/
def b__law_odd_target : SM := sq (asgM (.nm 1) (callM m__law_text (consM (callM m__law_some (consM (vM 0) (consM (lstM (consM (kM (.str "abz019.")) (consM (kM (.str "az.")) (consM (kM (.str "a/.")) (consM (kM (.str "a*/A")) (consM (kM (.str "a{~")) (nilM))))))) (nilM)))) (nilM)))) (sq (asgM (.nm 2) (biM .tuple (consM (lcE (rng1I (consM (callM m__law_some (consM (vM 0) (consM (lstM (consM (kM (.int 0)) (consM (kM (.int 1)) (consM (kM (.int 2)) (consM (kM (.int 11)) (consM (kM (.int 12)) (consM (kM (.int 13)) (consM (kM (.int 39)) (nilM))))))))) (nilM)))) (nilM))) (.nm 3) [3] (yesM) (callM m__law_some (consM (vM 0) (consM (vM 1) (nilM))))) (nilM)))) (retM (iteM (cmpM .lt (biM .len (consM (vM 2) (nilM))) (kM (.int 39))) (binM .add (callM m__law_some (consM (vM 0) (consM (lstM (consM (tupM (consM (kM (.int 47)) (nilM))) (consM (tupM (consM (kM (.int 47)) (nilM))) (consM (tupM (consM (kM (.int 47)) (nilM))) (consM (tupM (consM (kM (.int 42)) (nilM))) (consM (tupM (nilM)) (nilM))))))) (nilM)))) (vM 2)) (binM .add (tupM (consM (kM (.int 47)) (nilM))) (vM 2)))))
def m__law_odd_target : List W → M W := fnB 1 4 b__law_odd_target
theorem sc__law_odd_target : FnScope ["cup", "signs", "octets", "at"] ["cup"] (defScope (topS 43)) := ⟨rfl, rfl, rfl, by decide +kernel, rfl, by decide +kernel, by decide +kernel⟩
theorem d__law_odd_target {P : Program} {w : World} {K : PySem.W.Frag} {mg : Str → Option Value} {base : Heap} {ca : Nat → Addr} {f : Addr} {fd : FuncData} (F : Fun K "_law_odd_target" "_law_odd_target" (topS 43) f fd) (C__law_text : Cl P w K mg base ca 1 "_law_text" m__law_text) (C__law_some : Cl P w K mg base ca 2 "_law_some" m__law_some) (z_range : mg "range" = none) (z_tuple : mg "tuple" = none) (z_len : mg "len" = none) : Gn P w K mg base ca 3 f fd ["cup"] m__law_odd_target := by
  refine Gn.of F sc__law_odd_target rfl rfl fun cdv A outer s H room ck => ?_
  have hp : PassesOwn (model (cxF P w K mg base ["cup", "signs", "octets", "at"] "_law_odd_target" (topS 43) f cdv A outer s H).prog (cxF P w K mg base ["cup", "signs", "octets", "at"] "_law_odd_target" (topS 43) f cdv A outer s H).w) (cxF P w K mg base ["cup", "signs", "octets", "at"] "_law_odd_target" (topS 43) f cdv A outer s H).A (cxF P w K mg base ["cup", "signs", "octets", "at"] "_law_odd_target" (topS 43) f cdv A outer s H).env (cxF P w K mg base ["cup", "signs", "octets", "at"] "_law_odd_target" (topS 43) f cdv A outer s H).xe := PassesOwn.never
  unfold b__law_odd_target
  exact z_cons (z_asg (x_nm ck 1) (r_call ck room C__law_text (r_cons (r_call ck room C__law_some (r_cons (r_v 0) (r_cons (r_lst (r_cons (r_str) (r_cons (r_str) (r_cons (r_str) (r_cons (r_str) (r_cons (r_str) (r_nil))))))) (r_nil)))) (r_nil))))
    (z_cons (z_asg (x_nm ck 2) (r_biT b1_tuple z_tuple (r_cons (r_lc ck [("at", 3)] (q_rng1 z_range (r_cons (r_call ck room C__law_some (r_cons (r_v 0) (r_cons (r_lst (r_cons (r_int) (r_cons (r_int) (r_cons (r_int) (r_cons (r_int) (r_cons (r_int) (r_cons (r_int) (r_cons (r_int) (r_nil))))))))) (r_nil)))) (r_nil))) (fun _ _ _ _ _ => x_nm ck.blk 3) (fun _ _ _ _ _ => c_nil) (fun _ _ _ _ _ => r_call ck.blk room C__law_some (r_cons (r_v 0) (r_cons (r_v 1) (r_nil))))) (r_nil))))
    (z_one (z_ret (r_ite (t_cmp ck rfl (r_biB b1_len z_len (r_cons (r_v 2) (r_nil))) (r_int)) (r_bin rfl (r_call ck room C__law_some (r_cons (r_v 0) (r_cons (r_lst (r_cons (r_tup (r_cons (r_int) (r_nil))) (r_cons (r_tup (r_cons (r_int) (r_nil))) (r_cons (r_tup (r_cons (r_int) (r_nil))) (r_cons (r_tup (r_cons (r_int) (r_nil))) (r_cons (r_tup (r_nil)) (r_nil))))))) (r_nil)))) (r_v 2)) (r_bin rfl (r_tup (r_cons (r_int) (r_nil))) (r_v 2))))))
/-! _law_odd_range: slots 0=cup 1=found 2=turn -/
def b__law_odd_range : SM := sq (asgM (.nm 1) (callM m__law_text (consM (callM m__law_some (consM (vM 0) (consM (lstM (consM (kM (.str "bytes=")) (consM (kM (.str "bytes=")) (consM (kM (.str "bytes=")) (consM (kM (.str "bytes")) (consM (kM (.str "bytes= ")) (consM (kM (.str "Bytes=")) (consM (kM (.str "byte=")) (consM (kM (.str "")) (nilM)))))))))) (nilM)))) (nilM)))) (sq (foM (.nm 2) (rng1I (consM (callM m__law_some (consM (vM 0) (consM (lstM (consM (kM (.int 1)) (consM (kM (.int 2)) (consM (kM (.int 3)) (consM (kM (.int 3)) (consM (kM (.int 3)) (consM (kM (.int 4)) (nilM)))))))) (nilM)))) (nilM))) (asgM (.nm 1) (binM .add (vM 1) (callM m__law_text (consM (callM m__law_some (consM (vM 0) (consM (lstM (consM (kM (.str "0")) (consM (kM (.str "1")) (consM (kM (.str "4")) (consM (kM (.str "5")) (consM (kM (.str "10")) (consM (kM (.str "299")) (consM (kM (.str "300")) (consM (kM (.str "999999")) (consM (kM (.str "000000")) (consM (kM (.str "1000000")) (consM (kM (.str "-")) (consM (kM (.str "-")) (consM (kM (.str "-")) (consM (kM (.str "a")) (nilM)))))))))))))))) (nilM)))) (nilM)))))) (retM (vM 1)))
def m__law_odd_range : List W → M W := fnB 1 3 b__law_odd_range
theorem sc__law_odd_range : FnScope ["cup", "found", "turn"] ["cup"] (defScope (topS 44)) := ⟨rfl, rfl, rfl, by decide +kernel, rfl, by decide +kernel, by decide +kernel⟩
theorem d__law_odd_range {P : Program} {w : World} {K : PySem.W.Frag} {mg : Str → Option Value} {base : Heap} {ca : Nat → Addr} {f : Addr} {fd : FuncData} (F : Fun K "_law_odd_range" "_law_odd_range" (topS 44) f fd) (C__law_text : Cl P w K mg base ca 1 "_law_text" m__law_text) (C__law_some : Cl P w K mg base ca 2 "_law_some" m__law_some) (z_range : mg "range" = none) : Gn P w K mg base ca 3 f fd ["cup"] m__law_odd_range := by
  refine Gn.of F sc__law_odd_range rfl rfl fun cdv A outer s H room ck => ?_
  have hp : PassesOwn (model (cxF P w K mg base ["cup", "found", "turn"] "_law_odd_range" (topS 44) f cdv A outer s H).prog (cxF P w K mg base ["cup", "found", "turn"] "_law_odd_range" (topS 44) f cdv A outer s H).w) (cxF P w K mg base ["cup", "found", "turn"] "_law_odd_range" (topS 44) f cdv A outer s H).A (cxF P w K mg base ["cup", "found", "turn"] "_law_odd_range" (topS 44) f cdv A outer s H).env (cxF P w K mg base ["cup", "found", "turn"] "_law_odd_range" (topS 44) f cdv A outer s H).xe := PassesOwn.never
  unfold b__law_odd_range
  exact z_cons (z_asg (x_nm ck 1) (r_call ck room C__law_text (r_cons (r_call ck room C__law_some (r_cons (r_v 0) (r_cons (r_lst (r_cons (r_str) (r_cons (r_str) (r_cons (r_str) (r_cons (r_str) (r_cons (r_str) (r_cons (r_str) (r_cons (r_str) (r_cons (r_str) (r_nil)))))))))) (r_nil)))) (r_nil))))
    (z_cons (z_for ck hp (q_rng1 z_range (r_cons (r_call ck room C__law_some (r_cons (r_v 0) (r_cons (r_lst (r_cons (r_int) (r_cons (r_int) (r_cons (r_int) (r_cons (r_int) (r_cons (r_int) (r_cons (r_int) (r_nil)))))))) (r_nil)))) (r_nil))) (x_nm ck 2) (z_one (z_asg (x_nm ck 1) (r_bin rfl (r_v 1) (r_call ck room C__law_text (r_cons (r_call ck room C__law_some (r_cons (r_v 0) (r_cons (r_lst (r_cons (r_str) (r_cons (r_str) (r_cons (r_str) (r_cons (r_str) (r_cons (r_str) (r_cons (r_str) (r_cons (r_str) (r_cons (r_str) (r_cons (r_str) (r_cons (r_str) (r_cons (r_str) (r_cons (r_str) (r_cons (r_str) (r_cons (r_str) (r_nil)))))))))))))))) (r_nil)))) (r_nil)))))))
    (z_one (z_ret (r_v 1))))
/-! target_of: slots 0=target -/
def b_target_of : SM := sq (exM (callM m_need_octets (consM (vM 0) (consM (kM (.int 1)) (consM (kM (.int 40)) (nilM)))))) (sq (ifM (cmpM .eq (vM 0) (kM (.tuple [(.int 42)]))) (retM (tupM (consM (kM (.str "all")) (nilM)))) (skM)) (sq (ifM (cmpM .ne (subM (vM 0) (kM (.int 0))) (kM (.int 47))) (retM (tupM (consM (kM (.str "strayed")) (consM (kM (.int 400)) (nilM))))) (skM)) (sq (ifM (cmpM .eq (vM 0) (tupM (consM (kM (.int 47)) (nilM)))) (retM (tupM (consM (kM (.str "list")) (nilM)))) (skM)) (retM (iteM (callM m_is_file_name (consM (slcM (vM 0) (soM (kM (.int 1))) (noM)) (nilM))) (tupM (consM (kM (.str "file")) (consM (slcM (vM 0) (soM (kM (.int 1))) (noM)) (nilM)))) (tupM (consM (kM (.str "strayed")) (consM (kM (.int 404)) (nilM)))))))))
def m_target_of : List W → M W := fnB 1 1 b_target_of
theorem sc_target_of : FnScope ["target"] ["target"] (defScope (topS 28)) := ⟨rfl, rfl, rfl, by decide +kernel, rfl, by decide +kernel, by decide +kernel⟩
theorem d_target_of {P : Program} {w : World} {K : PySem.W.Frag} {mg : Str → Option Value} {base : Heap} {ca : Nat → Addr} {f : Addr} {fd : FuncData} (F : Fun K "target_of" "target_of" (topS 28) f fd) (C_need_octets : Cl P w K mg base ca 3 "need_octets" m_need_octets) (c_TARGET : Gc K mg "TARGET" (.int 40)) (c_STAR : Gc K mg "STAR" (.tuple [(.int 42)])) (c_SLASH : Gc K mg "SLASH" (.int 47)) (C_is_file_name : Cl P w K mg base ca 3 "is_file_name" m_is_file_name) : Gn P w K mg base ca 4 f fd ["target"] m_target_of := by
  refine Gn.of F sc_target_of rfl rfl fun cdv A outer s H room ck => ?_
  have hp : PassesOwn (model (cxF P w K mg base ["target"] "target_of" (topS 28) f cdv A outer s H).prog (cxF P w K mg base ["target"] "target_of" (topS 28) f cdv A outer s H).w) (cxF P w K mg base ["target"] "target_of" (topS 28) f cdv A outer s H).A (cxF P w K mg base ["target"] "target_of" (topS 28) f cdv A outer s H).env (cxF P w K mg base ["target"] "target_of" (topS 28) f cdv A outer s H).xe := PassesOwn.never
  unfold b_target_of
  exact z_cons (z_ex (r_call ck room C_need_octets (r_cons (r_v 0) (r_cons (r_int) (r_cons (r_gc c_TARGET) (r_nil))))))
    (z_cons (z_if (t_cmp ck rfl (r_v 0) (r_gc c_STAR)) (z_one (z_ret (r_tup (r_cons (r_str) (r_nil))))) (z_nil))
    (z_cons (z_if (t_cmp ck rfl (r_sub ck (r_v 0) (r_int)) (r_gc c_SLASH)) (z_one (z_ret (r_tup (r_cons (r_str) (r_cons (r_int) (r_nil)))))) (z_nil))
    (z_cons (z_if (t_cmp ck rfl (r_v 0) (r_tup (r_cons (r_gc c_SLASH) (r_nil)))) (z_one (z_ret (r_tup (r_cons (r_str) (r_nil))))) (z_nil))
    (z_one (z_ret (r_ite (t_val (r_call ck room C_is_file_name (r_cons (r_slc (r_v 0) (.inr ⟨_, _, rfl, rfl, r_int⟩) (.inl ⟨rfl, rfl⟩)) (r_nil)))) (r_tup (r_cons (r_str) (r_cons (r_slc (r_v 0) (.inr ⟨_, _, rfl, rfl, r_int⟩) (.inl ⟨rfl, rfl⟩)) (r_nil)))) (r_tup (r_cons (r_str) (r_cons (r_int) (r_nil))))))))))
/-! fits_tag: slots 0=value 1=version -/
def b_fits_tag : SM := sq (exM (callM m_need_octets (consM (vM 0) (consM (kM (.int 0)) (consM (kM (.int 100)) (nilM)))))) (sq (ifM (cmpM .isn (vM 1) (kM .none)) (retM (kM (.bool false))) (skM)) (sq (exM (callM m_need_whole (consM (vM 1) (consM (kM (.int 1)) (consM (kM (.int 1000000000000000)) (nilM)))))) (retM (orM (cmpM .eq (vM 0) (kM (.tuple [(.int 42)]))) (cmpM .eq (vM 0) (callM m_tag_of (consM (vM 1) (nilM))))))))
def m_fits_tag : List W → M W := fnB 2 2 b_fits_tag
theorem sc_fits_tag : FnScope ["value", "version"] ["value", "version"] (defScope (topS 29)) := ⟨rfl, rfl, rfl, by decide +kernel, rfl, by decide +kernel, by decide +kernel⟩
theorem d_fits_tag {P : Program} {w : World} {K : PySem.W.Frag} {mg : Str → Option Value} {base : Heap} {ca : Nat → Addr} {f : Addr} {fd : FuncData} (F : Fun K "fits_tag" "fits_tag" (topS 29) f fd) (C_need_octets : Cl P w K mg base ca 3 "need_octets" m_need_octets) (c_VALUE : Gc K mg "VALUE" (.int 100)) (C_need_whole : Cl P w K mg base ca 2 "need_whole" m_need_whole) (c_LATEST : Gc K mg "LATEST" (.int 1000000000000000)) (C_tag_of : Cl P w K mg base ca 3 "tag_of" m_tag_of) (c_STAR : Gc K mg "STAR" (.tuple [(.int 42)])) : Gn P w K mg base ca 4 f fd ["value", "version"] m_fits_tag := by
  refine Gn.of F sc_fits_tag rfl rfl fun cdv A outer s H room ck => ?_
  have hp : PassesOwn (model (cxF P w K mg base ["value", "version"] "fits_tag" (topS 29) f cdv A outer s H).prog (cxF P w K mg base ["value", "version"] "fits_tag" (topS 29) f cdv A outer s H).w) (cxF P w K mg base ["value", "version"] "fits_tag" (topS 29) f cdv A outer s H).A (cxF P w K mg base ["value", "version"] "fits_tag" (topS 29) f cdv A outer s H).env (cxF P w K mg base ["value", "version"] "fits_tag" (topS 29) f cdv A outer s H).xe := PassesOwn.never
  unfold b_fits_tag
  exact z_cons (z_ex (r_call ck room C_need_octets (r_cons (r_v 0) (r_cons (r_int) (r_cons (r_gc c_VALUE) (r_nil))))))
    (z_cons (z_if (t_cmp ck rfl (r_v 1) (r_non)) (z_one (z_ret (r_bl))) (z_nil))
    (z_cons (z_ex (r_call ck room C_need_whole (r_cons (r_v 1) (r_cons (r_int) (r_cons (r_gc c_LATEST) (r_nil))))))
    (z_one (z_ret (r_or (r_cmp ck rfl (r_v 0) (r_gc c_STAR)) (r_b1 (r_cmp ck rfl (r_v 0) (r_call ck room C_tag_of (r_cons (r_v 1) (r_nil))))))))))
/-! span_in: slots 0=value 1=size 2=parts 3=many 4=first 5=last -/
def b_span_in : SM := sq (exM (callM m_need_octets (consM (vM 0) (consM (kM (.int 0)) (consM (kM (.int 100)) (nilM)))))) (sq (exM (callM m_need_whole (consM (vM 1) (consM (kM (.int 0)) (consM (kM (.int 300)) (nilM)))))) (sq (asgM (.nm 2) (callM m_parts_in (consM (vM 0) (nilM)))) (sq (ifM (cmpM .isn (vM 2) (kM .none)) (retM (kM .none)) (skM)) (sq (ifM (cmpM .eq (subM (vM 2) (kM (.int 0))) (tupM (nilM))) (sq (asgM (.nm 3) (biM .min (consM (vM 1) (consM (callM m_digits_told (consM (subM (vM 2) (kM (.int 1))) (nilM))) (nilM))))) (retM (iteM (cmpM .gt (vM 3) (kM (.int 0))) (tupM (consM (binM .sub (vM 1) (vM 3)) (consM (binM .sub (vM 1) (kM (.int 1))) (nilM)))) (tupM (nilM))))) (skM)) (sq (par2M 4 5 (consM (callM m_digits_told (consM (subM (vM 2) (kM (.int 0))) (nilM))) (consM (iteM (cmpM .eq (subM (vM 2) (kM (.int 1))) (tupM (nilM))) (binM .sub (vM 1) (kM (.int 1))) (callM m_digits_told (consM (subM (vM 2) (kM (.int 1))) (nilM)))) (nilM)))) (retM (iteM (andM (cmpM .lt (vM 4) (vM 1)) (cmpM .le (vM 4) (vM 5))) (tupM (consM (vM 4) (consM (biM .min (consM (vM 5) (consM (binM .sub (vM 1) (kM (.int 1))) (nilM)))) (nilM)))) (tupM (nilM)))))))))
def m_span_in : List W → M W := fnB 2 6 b_span_in
theorem sc_span_in : FnScope ["value", "size", "parts", "many", "first", "last"] ["value", "size"] (defScope (topS 32)) := ⟨rfl, rfl, rfl, by decide +kernel, rfl, by decide +kernel, by decide +kernel⟩
theorem d_span_in {P : Program} {w : World} {K : PySem.W.Frag} {mg : Str → Option Value} {base : Heap} {ca : Nat → Addr} {f : Addr} {fd : FuncData} (F : Fun K "span_in" "span_in" (topS 32) f fd) (C_need_octets : Cl P w K mg base ca 3 "need_octets" m_need_octets) (c_VALUE : Gc K mg "VALUE" (.int 100)) (C_need_whole : Cl P w K mg base ca 2 "need_whole" m_need_whole) (c_SIZE : Gc K mg "SIZE" (.int 300)) (C_parts_in : Cl P w K mg base ca 2 "parts_in" m_parts_in) (C_digits_told : Cl P w K mg base ca 1 "digits_told" m_digits_told) (z_min : mg "min" = none) : Gn P w K mg base ca 4 f fd ["value", "size"] m_span_in := by
  refine Gn.of F sc_span_in rfl rfl fun cdv A outer s H room ck => ?_
  have hp : PassesOwn (model (cxF P w K mg base ["value", "size", "parts", "many", "first", "last"] "span_in" (topS 32) f cdv A outer s H).prog (cxF P w K mg base ["value", "size", "parts", "many", "first", "last"] "span_in" (topS 32) f cdv A outer s H).w) (cxF P w K mg base ["value", "size", "parts", "many", "first", "last"] "span_in" (topS 32) f cdv A outer s H).A (cxF P w K mg base ["value", "size", "parts", "many", "first", "last"] "span_in" (topS 32) f cdv A outer s H).env (cxF P w K mg base ["value", "size", "parts", "many", "first", "last"] "span_in" (topS 32) f cdv A outer s H).xe := PassesOwn.never
  unfold b_span_in
  exact z_cons (z_ex (r_call ck room C_need_octets (r_cons (r_v 0) (r_cons (r_int) (r_cons (r_gc c_VALUE) (r_nil))))))
    (z_cons (z_ex (r_call ck room C_need_whole (r_cons (r_v 1) (r_cons (r_int) (r_cons (r_gc c_SIZE) (r_nil))))))
    (z_cons (z_asg (x_nm ck 2) (r_call ck room C_parts_in (r_cons (r_v 0) (r_nil))))
    (z_cons (z_if (t_cmp ck rfl (r_v 2) (r_non)) (z_one (z_ret (r_non))) (z_nil))
    (z_cons (z_if (t_cmp ck rfl (r_sub ck (r_v 2) (r_int)) (r_tup (r_nil))) (z_cons (z_asg (x_nm ck 3) (r_biB (b1_min ck) z_min (r_cons (r_v 1) (r_cons (r_call ck room C_digits_told (r_cons (r_sub ck (r_v 2) (r_int)) (r_nil))) (r_nil)))))
    (z_one (z_ret (r_ite (t_cmp ck rfl (r_v 3) (r_int)) (r_tup (r_cons (r_bin rfl (r_v 1) (r_v 3)) (r_cons (r_bin rfl (r_v 1) (r_int)) (r_nil)))) (r_tup (r_nil)))))) (z_nil))
    (z_cons (z_par2 ck 4 5 (r_cons (r_call ck room C_digits_told (r_cons (r_sub ck (r_v 2) (r_int)) (r_nil))) (r_cons (r_ite (t_cmp ck rfl (r_sub ck (r_v 2) (r_int)) (r_tup (r_nil))) (r_bin rfl (r_v 1) (r_int)) (r_call ck room C_digits_told (r_cons (r_sub ck (r_v 2) (r_int)) (r_nil)))) (r_nil))))
    (z_one (z_ret (r_ite (PW.pt (w_and (t_cmp ck rfl (r_v 4) (r_v 1)) (w_and1 (t_cmp ck rfl (r_v 4) (r_v 5))))) (r_tup (r_cons (r_v 4) (r_cons (r_biB (b1_min ck) z_min (r_cons (r_v 5) (r_cons (r_bin rfl (r_v 1) (r_int)) (r_nil)))) (r_nil)))) (r_tup (r_nil))))))))))
/-! law: slots 0=script 1=cup 2=turn 3=target 4=version 5=tag 6=values 7=value 8=size 9=octet 10=two 11=tags 12=some 13=text 14=first 15=last 16=due 17=one -/
def b_law : SM := sq (asgM (.nm 1) (callM m__law_cup (consM (vM 0) (nilM)))) (sq (foM (.nm 2) (rng1I (consM (kM (.int 12)) (nilM))) (sq (asgM (.nm 3) (callM m__law_odd_target (consM (vM 1) (nilM)))) (sq (ifM (andM (cmpM .ne (vM 3) (tupM (nilM))) (cmpM .ne (biM .repr (consM (callM m_target_of (consM (vM 3) (nilM))) (nilM))) (biM .repr (consM (callM m__law_target (consM (vM 3) (nilM))) (nilM))))) (retM (kM (.bool false))) (skM)) (sq (asgM (.nm 4) (callM m__law_some (consM (vM 1) (consM (lstM (consM (kM .none) (consM (kM (.int 1)) (consM (kM (.int 2)) (consM (kM (.int 10)) (consM (kM (.int 99)) (consM (binM .pow (kM (.int 10)) (kM (.int 15))) (consM (binM .add (kM (.int 1)) (callM m__law_roll (consM (vM 1) (consM (kM (.int 1000)) (nilM))))) (nilM))))))))) (nilM))))) (sq (asgM (.nm 5) (callM m__law_tag (consM (iteM (cmpM .isn (vM 4) (kM .none)) (kM (.int 7)) (vM 4)) (nilM)))) (sq (asgM (.nm 6) (lstM (consM (vM 5) (consM (vM 5) (consM (tupM (consM (kM (.int 42)) (nilM))) (consM (tupM (nilM)) (consM (tupM (consM (kM (.int 42)) (consM (kM (.int 42)) (nilM)))) (consM (slcM (vM 5) (noM) (soM (negM (kM (.int 1))))) (consM (slcM (vM 5) (soM (kM (.int 1))) (noM)) (consM (binM .add (vM 5) (tupM (consM (kM (.int 32)) (nilM)))) (consM (binM .add (binM .add (slcM (vM 5) (noM) (soM (kM (.int 2)))) (tupM (consM (kM (.int 48)) (nilM)))) (slcM (vM 5) (soM (kM (.int 2))) (noM))) (consM (binM .add (tupM (consM (kM (.int 87)) (consM (kM (.int 47)) (nilM)))) (vM 5)) (consM (binM .add (tupM (consM (kM (.int 34)) (consM (kM (.int 86)) (nilM)))) (slcM (vM 5) (soM (kM (.int 2))) (noM))) (nilM)))))))))))))) (sq (asgM (.nm 6) (binM .add (vM 6) (lstM (consM (binM .add (binM .add (vM 5) (tupM (consM (kM (.int 44)) (nilM)))) (vM 5)) (consM (binM .add (vM 5) (tupM (consM (kM (.int 44)) (consM (kM (.int 32)) (consM (kM (.int 42)) (nilM)))))) (consM (binM .add (tupM (consM (kM (.int 42)) (consM (kM (.int 44)) (nilM)))) (vM 5)) (nilM))))))) (sq (asgM (.nm 7) (callM m__law_some (consM (vM 1) (consM (binM .add (vM 6) (lstM (consM (callM m__law_tag (consM (binM .add (kM (.int 1)) (callM m__law_roll (consM (vM 1) (consM (kM (.int 20)) (nilM))))) (nilM))) (nilM)))) (nilM))))) (sq (ifM (cmpM .ne (biM .repr (consM (callM m_fits_tag (consM (vM 7) (consM (vM 4) (nilM)))) (nilM))) (biM .repr (consM (callM m__law_fits (consM (vM 7) (consM (vM 4) (nilM)))) (nilM)))) (retM (kM (.bool false))) (skM)) (sq (par2M 8 7 (consM (callM m__law_some (consM (vM 1) (consM (lstM (consM (kM (.int 0)) (consM (kM (.int 1)) (consM (kM (.int 5)) (consM (kM (.int 300)) (consM (callM m__law_roll (consM (vM 1) (consM (kM (.int 301)) (nilM)))) (nilM))))))) (nilM)))) (consM (callM m__law_odd_range (consM (vM 1) (nilM))) (nilM)))) (ifM (cmpM .ne (biM .repr (consM (callM m_span_in (consM (vM 7) (consM (vM 8) (nilM)))) (nilM))) (biM .repr (consM (callM m__law_span (consM (vM 7) (consM (vM 8) (nilM)))) (nilM)))) (retM (kM (.bool false))) (skM)))))))))))) (sq (foM (.nm 9) (rng2I (consM (kM (.int 33)) (consM (kM (.int 127)) (nilM)))) (foM (.nm 3) (seqI (tupM (consM (tupM (consM (vM 9) (nilM))) (consM (tupM (consM (kM (.int 47)) (consM (vM 9) (nilM)))) (consM (tupM (consM (kM (.int 47)) (consM (kM (.int 97)) (consM (vM 9) (nilM))))) (nilM)))))) (ifM (cmpM .ne (biM .repr (consM (callM m_target_of (consM (vM 3) (nilM))) (nilM))) (biM .repr (consM (callM m__law_target (consM (vM 3) (nilM))) (nilM)))) (retM (kM (.bool false))) (skM)))) (sq (asgM (.nm 10) (callM m__law_tag (consM (binM .add (kM (.int 1)) (callM m__law_roll (consM (vM 1) (consM (kM (.int 9)) (nilM))))) (nilM)))) (sq (asgM (.nm 11) (tupM (consM (binM .add (binM .add (vM 10) (tupM (consM (kM (.int 44)) (nilM)))) (callM m__law_tag (consM (kM (.int 2)) (nilM)))) (consM (binM .add (binM .add (callM m__law_tag (consM (kM (.int 2)) (nilM))) (tupM (consM (kM (.int 44)) (consM (kM (.int 32)) (nilM))))) (vM 10)) (consM (callM m__law_tag (consM (kM (.int 2)) (nilM))) (nilM)))))) (sq (ifM (cmpM .ne (biM .repr (consM (lcE (seqI (vM 11)) (.nm 17) [17] (yesM) (callM m_fits_tag (consM (vM 17) (consM (kM (.int 2)) (nilM))))) (nilM))) (kM (.str "[False, False, True]"))) (retM (kM (.bool false))) (skM)) (sq (asgM (.nm 12) (lstM (consM (kM (.str "0-0")) (consM (kM (.str "0-")) (consM (kM (.str "-1")) (consM (kM (.str "-0")) (consM (kM (.str "1-3")) (consM (kM (.str "4-9")) (consM (kM (.str "5-")) (consM (kM (.str "3-1")) (consM (kM (.str "-999999")) (consM (kM (.str "999999-")) (consM (kM (.str "000000-000004")) (nilM)))))))))))))) (sq (foM (.nm 13) (seqI (binM .add (vM 12) (lstM (consM (kM (.str "299-300")) (consM (kM (.str "300-")) (consM (kM (.str "0-299")) (consM (kM (.str "-5")) (consM (kM (.str "4-")) (consM (kM (.str "0-1,3-4")) (nilM)))))))))) (foM (.nm 8) (seqI (tupM (consM (kM (.int 0)) (consM (kM (.int 1)) (consM (kM (.int 5)) (consM (kM (.int 300)) (nilM))))))) (sq (asgM (.nm 7) (callM m__law_text (consM (binM .add (kM (.str "bytes=")) (vM 13)) (nilM)))) (ifM (cmpM .ne (biM .repr (consM (callM m_span_in (consM (vM 7) (consM (vM 8) (nilM)))) (nilM))) (biM .repr (consM (callM m__law_span (consM (vM 7) (consM (vM 8) (nilM)))) (nilM)))) (retM (kM (.bool false))) (skM))))) (sq (par2M 14 8 (consM (callM m__law_roll (consM (vM 1) (consM (kM (.int 300)) (nilM)))) (consM (binM .add (kM (.int 1)) (callM m__law_roll (consM (vM 1) (consM (kM (.int 300)) (nilM))))) (nilM)))) (sq (asgM (.nm 15) (binM .add (vM 14) (callM m__law_roll (consM (vM 1) (consM (kM (.int 301)) (nilM)))))) (sq (asgM (.nm 16) (iteM (cmpM .lt (vM 14) (vM 8)) (tupM (consM (vM 14) (consM (biM .min (consM (vM 15) (consM (binM .sub (vM 8) (kM (.int 1))) (nilM)))) (nilM)))) (tupM (nilM)))) (retM (cmpM .eq (biM .repr (consM (callM m_span_in (consM (callM m__law_text (consM (binM .add (binM .add (binM .add (kM (.str "bytes=")) (biM .str (consM (vM 14) (nilM)))) (kM (.str "-"))) (biM .str (consM (vM 15) (nilM)))) (nilM))) (consM (vM 8) (nilM)))) (nilM))) (biM .repr (consM (vM 16) (nilM)))))))))))))))
def m_law : List W → M W := fnB 1 18 b_law
theorem sc_law : FnScope ["script", "cup", "turn", "target", "version", "tag", "values", "value", "size", "octet", "two", "tags", "some", "text", "first", "last", "due", "one"] ["script"] (defScope (topS 45)) := ⟨rfl, rfl, rfl, by decide +kernel, rfl, by decide +kernel, by decide +kernel⟩
theorem d_law {P : Program} {w : World} {K : PySem.W.Frag} {mg : Str → Option Value} {base : Heap} {ca : Nat → Addr} {f : Addr} {fd : FuncData} (F : Fun K "law" "law" (topS 45) f fd) (C__law_cup : Cl P w K mg base ca 1 "_law_cup" m__law_cup) (z_range : mg "range" = none) (C__law_odd_target : Cl P w K mg base ca 3 "_law_odd_target" m__law_odd_target) (C_target_of : Cl P w K mg base ca 4 "target_of" m_target_of) (z_repr : mg "repr" = none) (C__law_target : Cl P w K mg base ca 1 "_law_target" m__law_target) (C__law_some : Cl P w K mg base ca 2 "_law_some" m__law_some) (C__law_roll : Cl P w K mg base ca 1 "_law_roll" m__law_roll) (C__law_tag : Cl P w K mg base ca 2 "_law_tag" m__law_tag) (C_fits_tag : Cl P w K mg base ca 4 "fits_tag" m_fits_tag) (C__law_fits : Cl P w K mg base ca 3 "_law_fits" m__law_fits) (C__law_odd_range : Cl P w K mg base ca 3 "_law_odd_range" m__law_odd_range) (C_span_in : Cl P w K mg base ca 4 "span_in" m_span_in) (C__law_span : Cl P w K mg base ca 2 "_law_span" m__law_span) (C__law_text : Cl P w K mg base ca 1 "_law_text" m__law_text) (z_min : mg "min" = none) (z_str : mg "str" = none) : Gn P w K mg base ca 5 f fd ["script"] m_law := by
  refine Gn.of F sc_law rfl rfl fun cdv A outer s H room ck => ?_
  have hp : PassesOwn (model (cxF P w K mg base ["script", "cup", "turn", "target", "version", "tag", "values", "value", "size", "octet", "two", "tags", "some", "text", "first", "last", "due", "one"] "law" (topS 45) f cdv A outer s H).prog (cxF P w K mg base ["script", "cup", "turn", "target", "version", "tag", "values", "value", "size", "octet", "two", "tags", "some", "text", "first", "last", "due", "one"] "law" (topS 45) f cdv A outer s H).w) (cxF P w K mg base ["script", "cup", "turn", "target", "version", "tag", "values", "value", "size", "octet", "two", "tags", "some", "text", "first", "last", "due", "one"] "law" (topS 45) f cdv A outer s H).A (cxF P w K mg base ["script", "cup", "turn", "target", "version", "tag", "values", "value", "size", "octet", "two", "tags", "some", "text", "first", "last", "due", "one"] "law" (topS 45) f cdv A outer s H).env (cxF P w K mg base ["script", "cup", "turn", "target", "version", "tag", "values", "value", "size", "octet", "two", "tags", "some", "text", "first", "last", "due", "one"] "law" (topS 45) f cdv A outer s H).xe := PassesOwn.never
  unfold b_law
  exact z_cons (z_asg (x_nm ck 1) (r_call ck room C__law_cup (r_cons (r_v 0) (r_nil))))
    (z_cons (z_for ck hp (q_rng1 z_range (r_cons (r_int) (r_nil))) (x_nm ck 2) (z_cons (z_asg (x_nm ck 3) (r_call ck room C__law_odd_target (r_cons (r_v 1) (r_nil))))
    (z_cons (z_if (PW.pt (w_and (t_cmp ck rfl (r_v 3) (r_tup (r_nil))) (w_and1 (t_cmp ck rfl (r_biB (b1_repr ck) z_repr (r_cons (r_call ck room C_target_of (r_cons (r_v 3) (r_nil))) (r_nil))) (r_biB (b1_repr ck) z_repr (r_cons (r_call ck room C__law_target (r_cons (r_v 3) (r_nil))) (r_nil))))))) (z_one (z_ret (r_bl))) (z_nil))
    (z_cons (z_asg (x_nm ck 4) (r_call ck room C__law_some (r_cons (r_v 1) (r_cons (r_lst (r_cons (r_non) (r_cons (r_int) (r_cons (r_int) (r_cons (r_int) (r_cons (r_int) (r_cons (r_bin rfl (r_int) (r_int)) (r_cons (r_bin rfl (r_int) (r_call ck room C__law_roll (r_cons (r_v 1) (r_cons (r_int) (r_nil))))) (r_nil))))))))) (r_nil)))))
    (z_cons (z_asg (x_nm ck 5) (r_call ck room C__law_tag (r_cons (r_ite (t_cmp ck rfl (r_v 4) (r_non)) (r_int) (r_v 4)) (r_nil))))
    (z_cons (z_asg (x_nm ck 6) (r_lst (r_cons (r_v 5) (r_cons (r_v 5) (r_cons (r_tup (r_cons (r_int) (r_nil))) (r_cons (r_tup (r_nil)) (r_cons (r_tup (r_cons (r_int) (r_cons (r_int) (r_nil)))) (r_cons (r_slc (r_v 5) (.inl ⟨rfl, rfl⟩) (.inr ⟨_, _, rfl, rfl, r_neg (r_int)⟩)) (r_cons (r_slc (r_v 5) (.inr ⟨_, _, rfl, rfl, r_int⟩) (.inl ⟨rfl, rfl⟩)) (r_cons (r_bin rfl (r_v 5) (r_tup (r_cons (r_int) (r_nil)))) (r_cons (r_bin rfl (r_bin rfl (r_slc (r_v 5) (.inl ⟨rfl, rfl⟩) (.inr ⟨_, _, rfl, rfl, r_int⟩)) (r_tup (r_cons (r_int) (r_nil)))) (r_slc (r_v 5) (.inr ⟨_, _, rfl, rfl, r_int⟩) (.inl ⟨rfl, rfl⟩))) (r_cons (r_bin rfl (r_tup (r_cons (r_int) (r_cons (r_int) (r_nil)))) (r_v 5)) (r_cons (r_bin rfl (r_tup (r_cons (r_int) (r_cons (r_int) (r_nil)))) (r_slc (r_v 5) (.inr ⟨_, _, rfl, rfl, r_int⟩) (.inl ⟨rfl, rfl⟩))) (r_nil))))))))))))))
    (z_cons (z_asg (x_nm ck 6) (r_bin rfl (r_v 6) (r_lst (r_cons (r_bin rfl (r_bin rfl (r_v 5) (r_tup (r_cons (r_int) (r_nil)))) (r_v 5)) (r_cons (r_bin rfl (r_v 5) (r_tup (r_cons (r_int) (r_cons (r_int) (r_cons (r_int) (r_nil)))))) (r_cons (r_bin rfl (r_tup (r_cons (r_int) (r_cons (r_int) (r_nil)))) (r_v 5)) (r_nil)))))))
    (z_cons (z_asg (x_nm ck 7) (r_call ck room C__law_some (r_cons (r_v 1) (r_cons (r_bin rfl (r_v 6) (r_lst (r_cons (r_call ck room C__law_tag (r_cons (r_bin rfl (r_int) (r_call ck room C__law_roll (r_cons (r_v 1) (r_cons (r_int) (r_nil))))) (r_nil))) (r_nil)))) (r_nil)))))
    (z_cons (z_if (t_cmp ck rfl (r_biB (b1_repr ck) z_repr (r_cons (r_call ck room C_fits_tag (r_cons (r_v 7) (r_cons (r_v 4) (r_nil)))) (r_nil))) (r_biB (b1_repr ck) z_repr (r_cons (r_call ck room C__law_fits (r_cons (r_v 7) (r_cons (r_v 4) (r_nil)))) (r_nil)))) (z_one (z_ret (r_bl))) (z_nil))
    (z_cons (z_par2 ck 8 7 (r_cons (r_call ck room C__law_some (r_cons (r_v 1) (r_cons (r_lst (r_cons (r_int) (r_cons (r_int) (r_cons (r_int) (r_cons (r_int) (r_cons (r_call ck room C__law_roll (r_cons (r_v 1) (r_cons (r_int) (r_nil)))) (r_nil))))))) (r_nil)))) (r_cons (r_call ck room C__law_odd_range (r_cons (r_v 1) (r_nil))) (r_nil))))
    (z_one (z_if (t_cmp ck rfl (r_biB (b1_repr ck) z_repr (r_cons (r_call ck room C_span_in (r_cons (r_v 7) (r_cons (r_v 8) (r_nil)))) (r_nil))) (r_biB (b1_repr ck) z_repr (r_cons (r_call ck room C__law_span (r_cons (r_v 7) (r_cons (r_v 8) (r_nil)))) (r_nil)))) (z_one (z_ret (r_bl))) (z_nil)))))))))))))
    (z_cons (z_for ck hp (q_rng2 z_range (r_cons (r_int) (r_cons (r_int) (r_nil)))) (x_nm ck 9) (z_one (z_for ck hp (q_seq (r_tup (r_cons (r_tup (r_cons (r_v 9) (r_nil))) (r_cons (r_tup (r_cons (r_int) (r_cons (r_v 9) (r_nil)))) (r_cons (r_tup (r_cons (r_int) (r_cons (r_int) (r_cons (r_v 9) (r_nil))))) (r_nil)))))) (x_nm ck 3) (z_one (z_if (t_cmp ck rfl (r_biB (b1_repr ck) z_repr (r_cons (r_call ck room C_target_of (r_cons (r_v 3) (r_nil))) (r_nil))) (r_biB (b1_repr ck) z_repr (r_cons (r_call ck room C__law_target (r_cons (r_v 3) (r_nil))) (r_nil)))) (z_one (z_ret (r_bl))) (z_nil))))))
    (z_cons (z_asg (x_nm ck 10) (r_call ck room C__law_tag (r_cons (r_bin rfl (r_int) (r_call ck room C__law_roll (r_cons (r_v 1) (r_cons (r_int) (r_nil))))) (r_nil))))
    (z_cons (z_asg (x_nm ck 11) (r_tup (r_cons (r_bin rfl (r_bin rfl (r_v 10) (r_tup (r_cons (r_int) (r_nil)))) (r_call ck room C__law_tag (r_cons (r_int) (r_nil)))) (r_cons (r_bin rfl (r_bin rfl (r_call ck room C__law_tag (r_cons (r_int) (r_nil))) (r_tup (r_cons (r_int) (r_cons (r_int) (r_nil))))) (r_v 10)) (r_cons (r_call ck room C__law_tag (r_cons (r_int) (r_nil))) (r_nil))))))
    (z_cons (z_if (t_cmp ck rfl (r_biB (b1_repr ck) z_repr (r_cons (r_lc ck [("one", 17)] (q_seq (r_v 11)) (fun _ _ _ _ _ => x_nm ck.blk 17) (fun _ _ _ _ _ => c_nil) (fun _ _ _ _ _ => r_call ck.blk room C_fits_tag (r_cons (r_v 17) (r_cons (r_int) (r_nil))))) (r_nil))) (r_str)) (z_one (z_ret (r_bl))) (z_nil))
    (z_cons (z_asg (x_nm ck 12) (r_lst (r_cons (r_str) (r_cons (r_str) (r_cons (r_str) (r_cons (r_str) (r_cons (r_str) (r_cons (r_str) (r_cons (r_str) (r_cons (r_str) (r_cons (r_str) (r_cons (r_str) (r_cons (r_str) (r_nil))))))))))))))
    (z_cons (z_for ck hp (q_seq (r_bin rfl (r_v 12) (r_lst (r_cons (r_str) (r_cons (r_str) (r_cons (r_str) (r_cons (r_str) (r_cons (r_str) (r_cons (r_str) (r_nil)))))))))) (x_nm ck 13) (z_one (z_for ck hp (q_seq (r_tup (r_cons (r_int) (r_cons (r_int) (r_cons (r_int) (r_cons (r_int) (r_nil))))))) (x_nm ck 8) (z_cons (z_asg (x_nm ck 7) (r_call ck room C__law_text (r_cons (r_bin rfl (r_str) (r_v 13)) (r_nil))))
    (z_one (z_if (t_cmp ck rfl (r_biB (b1_repr ck) z_repr (r_cons (r_call ck room C_span_in (r_cons (r_v 7) (r_cons (r_v 8) (r_nil)))) (r_nil))) (r_biB (b1_repr ck) z_repr (r_cons (r_call ck room C__law_span (r_cons (r_v 7) (r_cons (r_v 8) (r_nil)))) (r_nil)))) (z_one (z_ret (r_bl))) (z_nil)))))))
    (z_cons (z_par2 ck 14 8 (r_cons (r_call ck room C__law_roll (r_cons (r_v 1) (r_cons (r_int) (r_nil)))) (r_cons (r_bin rfl (r_int) (r_call ck room C__law_roll (r_cons (r_v 1) (r_cons (r_int) (r_nil))))) (r_nil))))
    (z_cons (z_asg (x_nm ck 15) (r_bin rfl (r_v 14) (r_call ck room C__law_roll (r_cons (r_v 1) (r_cons (r_int) (r_nil))))))
    (z_cons (z_asg (x_nm ck 16) (r_ite (t_cmp ck rfl (r_v 14) (r_v 8)) (r_tup (r_cons (r_v 14) (r_cons (r_biB (b1_min ck) z_min (r_cons (r_v 15) (r_cons (r_bin rfl (r_v 8) (r_int)) (r_nil)))) (r_nil)))) (r_tup (r_nil))))
    (z_one (z_ret (r_cmp ck rfl (r_biB (b1_repr ck) z_repr (r_cons (r_call ck room C_span_in (r_cons (r_call ck room C__law_text (r_cons (r_bin rfl (r_bin rfl (r_bin rfl (r_str) (r_biT b1_str z_str (r_cons (r_v 14) (r_nil)))) (r_str)) (r_biT b1_str z_str (r_cons (r_v 15) (r_nil)))) (r_nil))) (r_cons (r_v 8) (r_nil)))) (r_nil))) (r_biB (b1_repr ck) z_repr (r_cons (r_v 16) (r_nil))))))))))))))))
theorem all_mk {w : World} {K : PySem.W.Frag} {h : Heap} {mg : Str → Option Value} {fa : Addr} {ca : Nat → Addr} (X : K.In h) (G : h.Ns mainGlobals mg) (hfa : mg "law" = some (.ref fa))
    {od_is_whole an_is_whole : Option Addr} {sl_is_whole : Array (Option Value)} {f_is_whole : Addr} {oc_is_whole kV_is_whole dc_is_whole pm_is_whole cd_is_whole ct_is_whole : Value}
    {od_is_tuple_of an_is_tuple_of : Option Addr} {sl_is_tuple_of : Array (Option Value)} {f_is_tuple_of : Addr} {oc_is_tuple_of kV_is_tuple_of dc_is_tuple_of pm_is_tuple_of cd_is_tuple_of ct_is_tuple_of : Value}
    {od_text_octets an_text_octets : Option Addr} {sl_text_octets : Array (Option Value)} {f_text_octets : Addr} {oc_text_octets kV_text_octets dc_text_octets pm_text_octets cd_text_octets ct_text_octets : Value}
    {od_fits_sign an_fits_sign : Option Addr} {sl_fits_sign : Array (Option Value)} {f_fits_sign : Addr} {oc_fits_sign kV_fits_sign dc_fits_sign pm_fits_sign cd_fits_sign ct_fits_sign : Value}
    {od_digits_told an_digits_told : Option Addr} {sl_digits_told : Array (Option Value)} {f_digits_told : Addr} {oc_digits_told kV_digits_told dc_digits_told pm_digits_told cd_digits_told ct_digits_told : Value}
    {od__law_cup an__law_cup : Option Addr} {sl__law_cup : Array (Option Value)} {f__law_cup : Addr} {oc__law_cup kV__law_cup dc__law_cup pm__law_cup cd__law_cup ct__law_cup : Value}
    {od__law_roll an__law_roll : Option Addr} {sl__law_roll : Array (Option Value)} {f__law_roll : Addr} {oc__law_roll kV__law_roll dc__law_roll pm__law_roll cd__law_roll ct__law_roll : Value}
    {od__law_text an__law_text : Option Addr} {sl__law_text : Array (Option Value)} {f__law_text : Addr} {oc__law_text kV__law_text dc__law_text pm__law_text cd__law_text ct__law_text : Value}
    {od__law_digits an__law_digits : Option Addr} {sl__law_digits : Array (Option Value)} {f__law_digits : Addr} {oc__law_digits kV__law_digits dc__law_digits pm__law_digits cd__law_digits ct__law_digits : Value}
    {od__law_target an__law_target : Option Addr} {sl__law_target : Array (Option Value)} {f__law_target : Addr} {oc__law_target kV__law_target dc__law_target pm__law_target cd__law_target ct__law_target : Value}
    {od_need_whole an_need_whole : Option Addr} {sl_need_whole : Array (Option Value)} {f_need_whole : Addr} {oc_need_whole kV_need_whole dc_need_whole pm_need_whole cd_need_whole ct_need_whole : Value}
    {od_are_octets an_are_octets : Option Addr} {sl_are_octets : Array (Option Value)} {f_are_octets : Addr} {oc_are_octets kV_are_octets dc_are_octets pm_are_octets cd_are_octets ct_are_octets : Value}
    {od_parts_in an_parts_in : Option Addr} {sl_parts_in : Array (Option Value)} {f_parts_in : Addr} {oc_parts_in kV_parts_in dc_parts_in pm_parts_in cd_parts_in ct_parts_in : Value}
    {od__law_some an__law_some : Option Addr} {sl__law_some : Array (Option Value)} {f__law_some : Addr} {oc__law_some kV__law_some dc__law_some pm__law_some cd__law_some ct__law_some : Value}
    {od__law_tag an__law_tag : Option Addr} {sl__law_tag : Array (Option Value)} {f__law_tag : Addr} {oc__law_tag kV__law_tag dc__law_tag pm__law_tag cd__law_tag ct__law_tag : Value}
    {od__law_span an__law_span : Option Addr} {sl__law_span : Array (Option Value)} {f__law_span : Addr} {oc__law_span kV__law_span dc__law_span pm__law_span cd__law_span ct__law_span : Value}
    {od_need_octets an_need_octets : Option Addr} {sl_need_octets : Array (Option Value)} {f_need_octets : Addr} {oc_need_octets kV_need_octets dc_need_octets pm_need_octets cd_need_octets ct_need_octets : Value}
    {od_is_file_name an_is_file_name : Option Addr} {sl_is_file_name : Array (Option Value)} {f_is_file_name : Addr} {oc_is_file_name kV_is_file_name dc_is_file_name pm_is_file_name cd_is_file_name ct_is_file_name : Value}
    {od_tag_of an_tag_of : Option Addr} {sl_tag_of : Array (Option Value)} {f_tag_of : Addr} {oc_tag_of kV_tag_of dc_tag_of pm_tag_of cd_tag_of ct_tag_of : Value}
    {od__law_fits an__law_fits : Option Addr} {sl__law_fits : Array (Option Value)} {f__law_fits : Addr} {oc__law_fits kV__law_fits dc__law_fits pm__law_fits cd__law_fits ct__law_fits : Value}
    {od__law_odd_target an__law_odd_target : Option Addr} {sl__law_odd_target : Array (Option Value)} {f__law_odd_target : Addr} {oc__law_odd_target kV__law_odd_target dc__law_odd_target pm__law_odd_target cd__law_odd_target ct__law_odd_target : Value}
    {od__law_odd_range an__law_odd_range : Option Addr} {sl__law_odd_range : Array (Option Value)} {f__law_odd_range : Addr} {oc__law_odd_range kV__law_odd_range dc__law_odd_range pm__law_odd_range cd__law_odd_range ct__law_odd_range : Value}
    {od_target_of an_target_of : Option Addr} {sl_target_of : Array (Option Value)} {f_target_of : Addr} {oc_target_of kV_target_of dc_target_of pm_target_of cd_target_of ct_target_of : Value}
    {od_fits_tag an_fits_tag : Option Addr} {sl_fits_tag : Array (Option Value)} {f_fits_tag : Addr} {oc_fits_tag kV_fits_tag dc_fits_tag pm_fits_tag cd_fits_tag ct_fits_tag : Value}
    {od_span_in an_span_in : Option Addr} {sl_span_in : Array (Option Value)} {f_span_in : Addr} {oc_span_in kV_span_in dc_span_in pm_span_in cd_span_in ct_span_in : Value}
    {od_law an_law : Option Addr} {sl_law : Array (Option Value)} {f_law : Addr} {oc_law kV_law dc_law pm_law cd_law ct_law : Value}
    (a_is_whole : PySem.W.nsIn K mainGlobals "is_whole" = some (some (.ref f_is_whole))) (l_is_whole : K.lookup f_is_whole = some ⟨oc_is_whole, od_is_whole, .func (PySem.W.fnOf "is_whole" "is_whole" (defArgs (topS 5)) (defBody (topS 5)) (defScope (topS 5)) .none kV_is_whole dc_is_whole pm_is_whole an_is_whole cd_is_whole ct_is_whole), sl_is_whole⟩) (e_is_whole : PySem.W.codeIn K cd_is_whole "is_whole" = true) (k_is_whole : PySem.W.keepIn K (.ref f_is_whole) = true)
    (a_is_tuple_of : PySem.W.nsIn K mainGlobals "is_tuple_of" = some (some (.ref f_is_tuple_of))) (l_is_tuple_of : K.lookup f_is_tuple_of = some ⟨oc_is_tuple_of, od_is_tuple_of, .func (PySem.W.fnOf "is_tuple_of" "is_tuple_of" (defArgs (topS 6)) (defBody (topS 6)) (defScope (topS 6)) .none kV_is_tuple_of dc_is_tuple_of pm_is_tuple_of an_is_tuple_of cd_is_tuple_of ct_is_tuple_of), sl_is_tuple_of⟩) (e_is_tuple_of : PySem.W.codeIn K cd_is_tuple_of "is_tuple_of" = true) (k_is_tuple_of : PySem.W.keepIn K (.ref f_is_tuple_of) = true)
    (a_text_octets : PySem.W.nsIn K mainGlobals "text_octets" = some (some (.ref f_text_octets))) (l_text_octets : K.lookup f_text_octets = some ⟨oc_text_octets, od_text_octets, .func (PySem.W.fnOf "text_octets" "text_octets" (defArgs (topS 11)) (defBody (topS 11)) (defScope (topS 11)) .none kV_text_octets dc_text_octets pm_text_octets an_text_octets cd_text_octets ct_text_octets), sl_text_octets⟩) (e_text_octets : PySem.W.codeIn K cd_text_octets "text_octets" = true) (k_text_octets : PySem.W.keepIn K (.ref f_text_octets) = true)
    (a_fits_sign : PySem.W.nsIn K mainGlobals "fits_sign" = some (some (.ref f_fits_sign))) (l_fits_sign : K.lookup f_fits_sign = some ⟨oc_fits_sign, od_fits_sign, .func (PySem.W.fnOf "fits_sign" "fits_sign" (defArgs (topS 17)) (defBody (topS 17)) (defScope (topS 17)) .none kV_fits_sign dc_fits_sign pm_fits_sign an_fits_sign cd_fits_sign ct_fits_sign), sl_fits_sign⟩) (e_fits_sign : PySem.W.codeIn K cd_fits_sign "fits_sign" = true) (k_fits_sign : PySem.W.keepIn K (.ref f_fits_sign) = true)
    (a_digits_told : PySem.W.nsIn K mainGlobals "digits_told" = some (some (.ref f_digits_told))) (l_digits_told : K.lookup f_digits_told = some ⟨oc_digits_told, od_digits_told, .func (PySem.W.fnOf "digits_told" "digits_told" (defArgs (topS 30)) (defBody (topS 30)) (defScope (topS 30)) .none kV_digits_told dc_digits_told pm_digits_told an_digits_told cd_digits_told ct_digits_told), sl_digits_told⟩) (e_digits_told : PySem.W.codeIn K cd_digits_told "digits_told" = true) (k_digits_told : PySem.W.keepIn K (.ref f_digits_told) = true)
    (a__law_cup : PySem.W.nsIn K mainGlobals "_law_cup" = some (some (.ref f__law_cup))) (l__law_cup : K.lookup f__law_cup = some ⟨oc__law_cup, od__law_cup, .func (PySem.W.fnOf "_law_cup" "_law_cup" (defArgs (topS 34)) (defBody (topS 34)) (defScope (topS 34)) .none kV__law_cup dc__law_cup pm__law_cup an__law_cup cd__law_cup ct__law_cup), sl__law_cup⟩) (e__law_cup : PySem.W.codeIn K cd__law_cup "_law_cup" = true) (k__law_cup : PySem.W.keepIn K (.ref f__law_cup) = true)
    (a__law_roll : PySem.W.nsIn K mainGlobals "_law_roll" = some (some (.ref f__law_roll))) (l__law_roll : K.lookup f__law_roll = some ⟨oc__law_roll, od__law_roll, .func (PySem.W.fnOf "_law_roll" "_law_roll" (defArgs (topS 35)) (defBody (topS 35)) (defScope (topS 35)) .none kV__law_roll dc__law_roll pm__law_roll an__law_roll cd__law_roll ct__law_roll), sl__law_roll⟩) (e__law_roll : PySem.W.codeIn K cd__law_roll "_law_roll" = true) (k__law_roll : PySem.W.keepIn K (.ref f__law_roll) = true)
    (a__law_text : PySem.W.nsIn K mainGlobals "_law_text" = some (some (.ref f__law_text))) (l__law_text : K.lookup f__law_text = some ⟨oc__law_text, od__law_text, .func (PySem.W.fnOf "_law_text" "_law_text" (defArgs (topS 37)) (defBody (topS 37)) (defScope (topS 37)) .none kV__law_text dc__law_text pm__law_text an__law_text cd__law_text ct__law_text), sl__law_text⟩) (e__law_text : PySem.W.codeIn K cd__law_text "_law_text" = true) (k__law_text : PySem.W.keepIn K (.ref f__law_text) = true)
    (a__law_digits : PySem.W.nsIn K mainGlobals "_law_digits" = some (some (.ref f__law_digits))) (l__law_digits : K.lookup f__law_digits = some ⟨oc__law_digits, od__law_digits, .func (PySem.W.fnOf "_law_digits" "_law_digits" (defArgs (topS 40)) (defBody (topS 40)) (defScope (topS 40)) .none kV__law_digits dc__law_digits pm__law_digits an__law_digits cd__law_digits ct__law_digits), sl__law_digits⟩) (e__law_digits : PySem.W.codeIn K cd__law_digits "_law_digits" = true) (k__law_digits : PySem.W.keepIn K (.ref f__law_digits) = true)
    (a__law_target : PySem.W.nsIn K mainGlobals "_law_target" = some (some (.ref f__law_target))) (l__law_target : K.lookup f__law_target = some ⟨oc__law_target, od__law_target, .func (PySem.W.fnOf "_law_target" "_law_target" (defArgs (topS 42)) (defBody (topS 42)) (defScope (topS 42)) .none kV__law_target dc__law_target pm__law_target an__law_target cd__law_target ct__law_target), sl__law_target⟩) (e__law_target : PySem.W.codeIn K cd__law_target "_law_target" = true) (k__law_target : PySem.W.keepIn K (.ref f__law_target) = true)
    (a_need_whole : PySem.W.nsIn K mainGlobals "need_whole" = some (some (.ref f_need_whole))) (l_need_whole : K.lookup f_need_whole = some ⟨oc_need_whole, od_need_whole, .func (PySem.W.fnOf "need_whole" "need_whole" (defArgs (topS 7)) (defBody (topS 7)) (defScope (topS 7)) .none kV_need_whole dc_need_whole pm_need_whole an_need_whole cd_need_whole ct_need_whole), sl_need_whole⟩) (e_need_whole : PySem.W.codeIn K cd_need_whole "need_whole" = true) (k_need_whole : PySem.W.keepIn K (.ref f_need_whole) = true)
    (a_are_octets : PySem.W.nsIn K mainGlobals "are_octets" = some (some (.ref f_are_octets))) (l_are_octets : K.lookup f_are_octets = some ⟨oc_are_octets, od_are_octets, .func (PySem.W.fnOf "are_octets" "are_octets" (defArgs (topS 9)) (defBody (topS 9)) (defScope (topS 9)) .none kV_are_octets dc_are_octets pm_are_octets an_are_octets cd_are_octets ct_are_octets), sl_are_octets⟩) (e_are_octets : PySem.W.codeIn K cd_are_octets "are_octets" = true) (k_are_octets : PySem.W.keepIn K (.ref f_are_octets) = true)
    (a_parts_in : PySem.W.nsIn K mainGlobals "parts_in" = some (some (.ref f_parts_in))) (l_parts_in : K.lookup f_parts_in = some ⟨oc_parts_in, od_parts_in, .func (PySem.W.fnOf "parts_in" "parts_in" (defArgs (topS 31)) (defBody (topS 31)) (defScope (topS 31)) .none kV_parts_in dc_parts_in pm_parts_in an_parts_in cd_parts_in ct_parts_in), sl_parts_in⟩) (e_parts_in : PySem.W.codeIn K cd_parts_in "parts_in" = true) (k_parts_in : PySem.W.keepIn K (.ref f_parts_in) = true)
    (a__law_some : PySem.W.nsIn K mainGlobals "_law_some" = some (some (.ref f__law_some))) (l__law_some : K.lookup f__law_some = some ⟨oc__law_some, od__law_some, .func (PySem.W.fnOf "_law_some" "_law_some" (defArgs (topS 36)) (defBody (topS 36)) (defScope (topS 36)) .none kV__law_some dc__law_some pm__law_some an__law_some cd__law_some ct__law_some), sl__law_some⟩) (e__law_some : PySem.W.codeIn K cd__law_some "_law_some" = true) (k__law_some : PySem.W.keepIn K (.ref f__law_some) = true)
    (a__law_tag : PySem.W.nsIn K mainGlobals "_law_tag" = some (some (.ref f__law_tag))) (l__law_tag : K.lookup f__law_tag = some ⟨oc__law_tag, od__law_tag, .func (PySem.W.fnOf "_law_tag" "_law_tag" (defArgs (topS 38)) (defBody (topS 38)) (defScope (topS 38)) .none kV__law_tag dc__law_tag pm__law_tag an__law_tag cd__law_tag ct__law_tag), sl__law_tag⟩) (e__law_tag : PySem.W.codeIn K cd__law_tag "_law_tag" = true) (k__law_tag : PySem.W.keepIn K (.ref f__law_tag) = true)
    (a__law_span : PySem.W.nsIn K mainGlobals "_law_span" = some (some (.ref f__law_span))) (l__law_span : K.lookup f__law_span = some ⟨oc__law_span, od__law_span, .func (PySem.W.fnOf "_law_span" "_law_span" (defArgs (topS 41)) (defBody (topS 41)) (defScope (topS 41)) .none kV__law_span dc__law_span pm__law_span an__law_span cd__law_span ct__law_span), sl__law_span⟩) (e__law_span : PySem.W.codeIn K cd__law_span "_law_span" = true) (k__law_span : PySem.W.keepIn K (.ref f__law_span) = true)
    (a_need_octets : PySem.W.nsIn K mainGlobals "need_octets" = some (some (.ref f_need_octets))) (l_need_octets : K.lookup f_need_octets = some ⟨oc_need_octets, od_need_octets, .func (PySem.W.fnOf "need_octets" "need_octets" (defArgs (topS 10)) (defBody (topS 10)) (defScope (topS 10)) .none kV_need_octets dc_need_octets pm_need_octets an_need_octets cd_need_octets ct_need_octets), sl_need_octets⟩) (e_need_octets : PySem.W.codeIn K cd_need_octets "need_octets" = true) (k_need_octets : PySem.W.keepIn K (.ref f_need_octets) = true)
    (a_is_file_name : PySem.W.nsIn K mainGlobals "is_file_name" = some (some (.ref f_is_file_name))) (l_is_file_name : K.lookup f_is_file_name = some ⟨oc_is_file_name, od_is_file_name, .func (PySem.W.fnOf "is_file_name" "is_file_name" (defArgs (topS 18)) (defBody (topS 18)) (defScope (topS 18)) .none kV_is_file_name dc_is_file_name pm_is_file_name an_is_file_name cd_is_file_name ct_is_file_name), sl_is_file_name⟩) (e_is_file_name : PySem.W.codeIn K cd_is_file_name "is_file_name" = true) (k_is_file_name : PySem.W.keepIn K (.ref f_is_file_name) = true)
    (a_tag_of : PySem.W.nsIn K mainGlobals "tag_of" = some (some (.ref f_tag_of))) (l_tag_of : K.lookup f_tag_of = some ⟨oc_tag_of, od_tag_of, .func (PySem.W.fnOf "tag_of" "tag_of" (defArgs (topS 19)) (defBody (topS 19)) (defScope (topS 19)) .none kV_tag_of dc_tag_of pm_tag_of an_tag_of cd_tag_of ct_tag_of), sl_tag_of⟩) (e_tag_of : PySem.W.codeIn K cd_tag_of "tag_of" = true) (k_tag_of : PySem.W.keepIn K (.ref f_tag_of) = true)
    (a__law_fits : PySem.W.nsIn K mainGlobals "_law_fits" = some (some (.ref f__law_fits))) (l__law_fits : K.lookup f__law_fits = some ⟨oc__law_fits, od__law_fits, .func (PySem.W.fnOf "_law_fits" "_law_fits" (defArgs (topS 39)) (defBody (topS 39)) (defScope (topS 39)) .none kV__law_fits dc__law_fits pm__law_fits an__law_fits cd__law_fits ct__law_fits), sl__law_fits⟩) (e__law_fits : PySem.W.codeIn K cd__law_fits "_law_fits" = true) (k__law_fits : PySem.W.keepIn K (.ref f__law_fits) = true)
    (a__law_odd_target : PySem.W.nsIn K mainGlobals "_law_odd_target" = some (some (.ref f__law_odd_target))) (l__law_odd_target : K.lookup f__law_odd_target = some ⟨oc__law_odd_target, od__law_odd_target, .func (PySem.W.fnOf "_law_odd_target" "_law_odd_target" (defArgs (topS 43)) (defBody (topS 43)) (defScope (topS 43)) .none kV__law_odd_target dc__law_odd_target pm__law_odd_target an__law_odd_target cd__law_odd_target ct__law_odd_target), sl__law_odd_target⟩) (e__law_odd_target : PySem.W.codeIn K cd__law_odd_target "_law_odd_target" = true) (k__law_odd_target : PySem.W.keepIn K (.ref f__law_odd_target) = true)
    (a__law_odd_range : PySem.W.nsIn K mainGlobals "_law_odd_range" = some (some (.ref f__law_odd_range))) (l__law_odd_range : K.lookup f__law_odd_range = some ⟨oc__law_odd_range, od__law_odd_range, .func (PySem.W.fnOf "_law_odd_range" "_law_odd_range" (defArgs (topS 44)) (defBody (topS 44)) (defScope (topS 44)) .none kV__law_odd_range dc__law_odd_range pm__law_odd_range an__law_odd_range cd__law_odd_range ct__law_odd_range), sl__law_odd_range⟩) (e__law_odd_range : PySem.W.codeIn K cd__law_odd_range "_law_odd_range" = true) (k__law_odd_range : PySem.W.keepIn K (.ref f__law_odd_range) = true)
    (a_target_of : PySem.W.nsIn K mainGlobals "target_of" = some (some (.ref f_target_of))) (l_target_of : K.lookup f_target_of = some ⟨oc_target_of, od_target_of, .func (PySem.W.fnOf "target_of" "target_of" (defArgs (topS 28)) (defBody (topS 28)) (defScope (topS 28)) .none kV_target_of dc_target_of pm_target_of an_target_of cd_target_of ct_target_of), sl_target_of⟩) (e_target_of : PySem.W.codeIn K cd_target_of "target_of" = true) (k_target_of : PySem.W.keepIn K (.ref f_target_of) = true)
    (a_fits_tag : PySem.W.nsIn K mainGlobals "fits_tag" = some (some (.ref f_fits_tag))) (l_fits_tag : K.lookup f_fits_tag = some ⟨oc_fits_tag, od_fits_tag, .func (PySem.W.fnOf "fits_tag" "fits_tag" (defArgs (topS 29)) (defBody (topS 29)) (defScope (topS 29)) .none kV_fits_tag dc_fits_tag pm_fits_tag an_fits_tag cd_fits_tag ct_fits_tag), sl_fits_tag⟩) (e_fits_tag : PySem.W.codeIn K cd_fits_tag "fits_tag" = true) (k_fits_tag : PySem.W.keepIn K (.ref f_fits_tag) = true)
    (a_span_in : PySem.W.nsIn K mainGlobals "span_in" = some (some (.ref f_span_in))) (l_span_in : K.lookup f_span_in = some ⟨oc_span_in, od_span_in, .func (PySem.W.fnOf "span_in" "span_in" (defArgs (topS 32)) (defBody (topS 32)) (defScope (topS 32)) .none kV_span_in dc_span_in pm_span_in an_span_in cd_span_in ct_span_in), sl_span_in⟩) (e_span_in : PySem.W.codeIn K cd_span_in "span_in" = true) (k_span_in : PySem.W.keepIn K (.ref f_span_in) = true)
    (a_law : PySem.W.nsIn K mainGlobals "law" = some (some (.ref f_law))) (l_law : K.lookup f_law = some ⟨oc_law, od_law, .func (PySem.W.fnOf "law" "law" (defArgs (topS 45)) (defBody (topS 45)) (defScope (topS 45)) .none kV_law dc_law pm_law an_law cd_law ct_law), sl_law⟩) (e_law : PySem.W.codeIn K cd_law "law" = true) (k_law : PySem.W.keepIn K (.ref f_law) = true)
    (z_abs : PySem.W.nsIn K mainGlobals "abs" = some none)
    (z_all : PySem.W.nsIn K mainGlobals "all" = some none)
    (z_bool : PySem.W.nsIn K mainGlobals "bool" = some none)
    (z_enumerate : PySem.W.nsIn K mainGlobals "enumerate" = some none)
    (z_int : PySem.W.nsIn K mainGlobals "int" = some none)
    (z_isinstance : PySem.W.nsIn K mainGlobals "isinstance" = some none)
    (z_len : PySem.W.nsIn K mainGlobals "len" = some none)
    (z_list : PySem.W.nsIn K mainGlobals "list" = some none)
    (z_min : PySem.W.nsIn K mainGlobals "min" = some none)
    (z_ord : PySem.W.nsIn K mainGlobals "ord" = some none)
    (z_range : PySem.W.nsIn K mainGlobals "range" = some none)
    (z_repr : PySem.W.nsIn K mainGlobals "repr" = some none)
    (z_str : PySem.W.nsIn K mainGlobals "str" = some none)
    (z_tuple : PySem.W.nsIn K mainGlobals "tuple" = some none)
    {r_AHEAD : Addr} {q_AHEAD : Option Addr} {i_AHEAD : Array Value} {n_AHEAD : Nat} {s_AHEAD : Array (Option Value)} (c_AHEAD : PySem.W.nsIn K mainGlobals "AHEAD" = some (some (.ref r_AHEAD))) (u_AHEAD : K.lookup r_AHEAD = some ⟨.type "tuple", q_AHEAD, .seq i_AHEAD n_AHEAD, s_AHEAD⟩) (w_AHEAD : i_AHEAD.size ≤ sizeLine) (v_AHEAD : Vals (([98, 121, 116, 101, 115, 61] : List Int).map V.int) i_AHEAD.toList)
    {t_DASH : Tok} (c_DASH : PySem.W.nsIn K mainGlobals "DASH" = some (some (.int 45 t_DASH)))
    {t_DIGITS : Tok} (c_DIGITS : PySem.W.nsIn K mainGlobals "DIGITS" = some (some (.int 6 t_DIGITS)))
    {t_DOT : Tok} (c_DOT : PySem.W.nsIn K mainGlobals "DOT" = some (some (.int 46 t_DOT)))
    {t_LATEST : Tok} (c_LATEST : PySem.W.nsIn K mainGlobals "LATEST" = some (some (.int 1000000000000000 t_LATEST)))
    {t_LONGEST : Tok} (c_LONGEST : PySem.W.nsIn K mainGlobals "LONGEST" = some (some (.int 12 t_LONGEST)))
    {t_SIZE : Tok} (c_SIZE : PySem.W.nsIn K mainGlobals "SIZE" = some (some (.int 300 t_SIZE)))
    {t_SLASH : Tok} (c_SLASH : PySem.W.nsIn K mainGlobals "SLASH" = some (some (.int 47 t_SLASH)))
    {r_STAR : Addr} {q_STAR : Option Addr} {i_STAR : Array Value} {n_STAR : Nat} {s_STAR : Array (Option Value)} (c_STAR : PySem.W.nsIn K mainGlobals "STAR" = some (some (.ref r_STAR))) (u_STAR : K.lookup r_STAR = some ⟨.type "tuple", q_STAR, .seq i_STAR n_STAR, s_STAR⟩) (w_STAR : i_STAR.size ≤ sizeLine) (v_STAR : Vals (([42] : List Int).map V.int) i_STAR.toList)
    {t_TARGET : Tok} (c_TARGET : PySem.W.nsIn K mainGlobals "TARGET" = some (some (.int 40 t_TARGET)))
    {t_VALUE : Tok} (c_VALUE : PySem.W.nsIn K mainGlobals "VALUE" = some (some (.int 100 t_VALUE))) :
    ∃ fd : FuncData, (∀ (s : Shared) (v : Value), BindsTo s fd ⟨[v], []⟩ [("script", v)]) ∧ ∀ base : Heap, K.In base → base.Ns mainGlobals mg → Gn pgm w K mg base ca 5 fa fd ["script"] m_law := by
  have eq := hfa.symm.trans (PySem.W.mg_of X G a_law)
  cases eq
  have y_abs : mg "abs" = none := PySem.W.mg_none_of X G z_abs
  have y_all : mg "all" = none := PySem.W.mg_none_of X G z_all
  have y_bool : mg "bool" = none := PySem.W.mg_none_of X G z_bool
  have y_enumerate : mg "enumerate" = none := PySem.W.mg_none_of X G z_enumerate
  have y_int : mg "int" = none := PySem.W.mg_none_of X G z_int
  have y_isinstance : mg "isinstance" = none := PySem.W.mg_none_of X G z_isinstance
  have y_len : mg "len" = none := PySem.W.mg_none_of X G z_len
  have y_list : mg "list" = none := PySem.W.mg_none_of X G z_list
  have y_min : mg "min" = none := PySem.W.mg_none_of X G z_min
  have y_ord : mg "ord" = none := PySem.W.mg_none_of X G z_ord
  have y_range : mg "range" = none := PySem.W.mg_none_of X G z_range
  have y_repr : mg "repr" = none := PySem.W.mg_none_of X G z_repr
  have y_str : mg "str" = none := PySem.W.mg_none_of X G z_str
  have y_tuple : mg "tuple" = none := PySem.W.mg_none_of X G z_tuple
  have g_AHEAD : Gc K mg "AHEAD" (.tuple [(.int 98), (.int 121), (.int 116), (.int 101), (.int 115), (.int 61)]) := Gc.tup [98, 121, 116, 101, 115, 61] (PySem.W.mg_of X G c_AHEAD) u_AHEAD w_AHEAD v_AHEAD
  have g_DASH : Gc K mg "DASH" (.int 45) := Gc.int (PySem.W.mg_of X G c_DASH)
  have g_DIGITS : Gc K mg "DIGITS" (.int 6) := Gc.int (PySem.W.mg_of X G c_DIGITS)
  have g_DOT : Gc K mg "DOT" (.int 46) := Gc.int (PySem.W.mg_of X G c_DOT)
  have g_LATEST : Gc K mg "LATEST" (.int 1000000000000000) := Gc.int (PySem.W.mg_of X G c_LATEST)
  have g_LONGEST : Gc K mg "LONGEST" (.int 12) := Gc.int (PySem.W.mg_of X G c_LONGEST)
  have g_SIZE : Gc K mg "SIZE" (.int 300) := Gc.int (PySem.W.mg_of X G c_SIZE)
  have g_SLASH : Gc K mg "SLASH" (.int 47) := Gc.int (PySem.W.mg_of X G c_SLASH)
  have g_STAR : Gc K mg "STAR" (.tuple [(.int 42)]) := Gc.tup [42] (PySem.W.mg_of X G c_STAR) u_STAR w_STAR v_STAR
  have g_TARGET : Gc K mg "TARGET" (.int 40) := Gc.int (PySem.W.mg_of X G c_TARGET)
  have g_VALUE : Gc K mg "VALUE" (.int 100) := Gc.int (PySem.W.mg_of X G c_VALUE)
  refine ⟨PySem.W.fnOf "law" "law" (defArgs (topS 45)) (defBody (topS 45)) (defScope (topS 45)) .none kV_law dc_law pm_law an_law cd_law ct_law, fun s v => .of_eq rfl, fun base _ _ => ?_⟩
  have F_is_whole := fun_mk (st := topS 5) l_is_whole e_is_whole k_is_whole
  have C_is_whole : Cl pgm w K mg base ca 1 "is_whole" m_is_whole := ⟨⟨f_is_whole, _, _, d_is_whole F_is_whole y_isinstance y_bool y_int, PySem.W.mg_of X G a_is_whole, k_is_whole, F_is_whole.binds (ps := ["value", "low", "high"]) fun _ _ _ _ _ _ us hl => match us, hl with | [_, _, _], _ => rfl⟩⟩
  have F_is_tuple_of := fun_mk (st := topS 6) l_is_tuple_of e_is_tuple_of k_is_tuple_of
  have C_is_tuple_of : Cl pgm w K mg base ca 1 "is_tuple_of" m_is_tuple_of := ⟨⟨f_is_tuple_of, _, _, d_is_tuple_of F_is_tuple_of y_len y_isinstance y_tuple, PySem.W.mg_of X G a_is_tuple_of, k_is_tuple_of, F_is_tuple_of.binds (ps := ["value", "low", "high"]) fun _ _ _ _ _ _ us hl => match us, hl with | [_, _, _], _ => rfl⟩⟩
  have F_text_octets := fun_mk (st := topS 11) l_text_octets e_text_octets k_text_octets
  have C_text_octets : Cl pgm w K mg base ca 1 "text_octets" m_text_octets := ⟨⟨f_text_octets, _, _, d_text_octets F_text_octets y_ord y_tuple, PySem.W.mg_of X G a_text_octets, k_text_octets, F_text_octets.binds (ps := ["text"]) fun _ _ _ _ _ _ us hl => match us, hl with | [_], _ => rfl⟩⟩
  have F_fits_sign := fun_mk (st := topS 17) l_fits_sign e_fits_sign k_fits_sign
  have C_fits_sign : Cl pgm w K mg base ca 1 "fits_sign" m_fits_sign := ⟨⟨f_fits_sign, _, _, d_fits_sign F_fits_sign g_DOT, PySem.W.mg_of X G a_fits_sign, k_fits_sign, F_fits_sign.binds (ps := ["octet"]) fun _ _ _ _ _ _ us hl => match us, hl with | [_], _ => rfl⟩⟩
  have F_digits_told := fun_mk (st := topS 30) l_digits_told e_digits_told k_digits_told
  have C_digits_told : Cl pgm w K mg base ca 1 "digits_told" m_digits_told := ⟨⟨f_digits_told, _, _, d_digits_told F_digits_told y_all y_len g_DIGITS, PySem.W.mg_of X G a_digits_told, k_digits_told, F_digits_told.binds (ps := ["octets"]) fun _ _ _ _ _ _ us hl => match us, hl with | [_], _ => rfl⟩⟩
  have F__law_cup := fun_mk (st := topS 34) l__law_cup e__law_cup k__law_cup
  have C__law_cup : Cl pgm w K mg base ca 1 "_law_cup" m__law_cup := ⟨⟨f__law_cup, _, _, d__law_cup F__law_cup y_list y_abs y_int, PySem.W.mg_of X G a__law_cup, k__law_cup, F__law_cup.binds (ps := ["script"]) fun _ _ _ _ _ _ us hl => match us, hl with | [_], _ => rfl⟩⟩
  have F__law_roll := fun_mk (st := topS 35) l__law_roll e__law_roll k__law_roll
  have C__law_roll : Cl pgm w K mg base ca 1 "_law_roll" m__law_roll := ⟨⟨f__law_roll, _, _, d__law_roll F__law_roll y_int, PySem.W.mg_of X G a__law_roll, k__law_roll, F__law_roll.binds (ps := ["cup", "many"]) fun _ _ _ _ _ _ us hl => match us, hl with | [_, _], _ => rfl⟩⟩
  have F__law_text := fun_mk (st := topS 37) l__law_text e__law_text k__law_text
  have C__law_text : Cl pgm w K mg base ca 1 "_law_text" m__law_text := ⟨⟨f__law_text, _, _, d__law_text F__law_text y_ord y_tuple, PySem.W.mg_of X G a__law_text, k__law_text, F__law_text.binds (ps := ["text"]) fun _ _ _ _ _ _ us hl => match us, hl with | [_], _ => rfl⟩⟩
  have F__law_digits := fun_mk (st := topS 40) l__law_digits e__law_digits k__law_digits
  have C__law_digits : Cl pgm w K mg base ca 1 "_law_digits" m__law_digits := ⟨⟨f__law_digits, _, _, d__law_digits F__law_digits , PySem.W.mg_of X G a__law_digits, k__law_digits, F__law_digits.binds (ps := ["octets"]) fun _ _ _ _ _ _ us hl => match us, hl with | [_], _ => rfl⟩⟩
  have F__law_target := fun_mk (st := topS 42) l__law_target e__law_target k__law_target
  have C__law_target : Cl pgm w K mg base ca 1 "_law_target" m__law_target := ⟨⟨f__law_target, _, _, d__law_target F__law_target y_len, PySem.W.mg_of X G a__law_target, k__law_target, F__law_target.binds (ps := ["target"]) fun _ _ _ _ _ _ us hl => match us, hl with | [_], _ => rfl⟩⟩
  have F_need_whole := fun_mk (st := topS 7) l_need_whole e_need_whole k_need_whole
  have C_need_whole : Cl pgm w K mg base ca 2 "need_whole" m_need_whole := ⟨⟨f_need_whole, _, _, d_need_whole F_need_whole C_is_whole, PySem.W.mg_of X G a_need_whole, k_need_whole, F_need_whole.binds (ps := ["value", "low", "high"]) fun _ _ _ _ _ _ us hl => match us, hl with | [_, _, _], _ => rfl⟩⟩
  have F_are_octets := fun_mk (st := topS 9) l_are_octets e_are_octets k_are_octets
  have C_are_octets : Cl pgm w K mg base ca 2 "are_octets" m_are_octets := ⟨⟨f_are_octets, _, _, d_are_octets F_are_octets C_is_whole y_all C_is_tuple_of, PySem.W.mg_of X G a_are_octets, k_are_octets, F_are_octets.binds (ps := ["value", "most"]) fun _ _ _ _ _ _ us hl => match us, hl with | [_, _], _ => rfl⟩⟩
  have F_parts_in := fun_mk (st := topS 31) l_parts_in e_parts_in k_parts_in
  have C_parts_in : Cl pgm w K mg base ca 2 "parts_in" m_parts_in := ⟨⟨f_parts_in, _, _, d_parts_in F_parts_in g_AHEAD y_len g_DASH y_enumerate C_digits_told y_all, PySem.W.mg_of X G a_parts_in, k_parts_in, F_parts_in.binds (ps := ["value"]) fun _ _ _ _ _ _ us hl => match us, hl with | [_], _ => rfl⟩⟩
  have F__law_some := fun_mk (st := topS 36) l__law_some e__law_some k__law_some
  have C__law_some : Cl pgm w K mg base ca 2 "_law_some" m__law_some := ⟨⟨f__law_some, _, _, d__law_some F__law_some C__law_roll y_len, PySem.W.mg_of X G a__law_some, k__law_some, F__law_some.binds (ps := ["cup", "things"]) fun _ _ _ _ _ _ us hl => match us, hl with | [_, _], _ => rfl⟩⟩
  have F__law_tag := fun_mk (st := topS 38) l__law_tag e__law_tag k__law_tag
  have C__law_tag : Cl pgm w K mg base ca 2 "_law_tag" m__law_tag := ⟨⟨f__law_tag, _, _, d__law_tag F__law_tag C__law_text y_str, PySem.W.mg_of X G a__law_tag, k__law_tag, F__law_tag.binds (ps := ["version"]) fun _ _ _ _ _ _ us hl => match us, hl with | [_], _ => rfl⟩⟩
  have F__law_span := fun_mk (st := topS 41) l__law_span e__law_span k__law_span
  have C__law_span : Cl pgm w K mg base ca 2 "_law_span" m__law_span := ⟨⟨f__law_span, _, _, d__law_span F__law_span y_range y_len C__law_text C__law_digits y_min, PySem.W.mg_of X G a__law_span, k__law_span, F__law_span.binds (ps := ["value", "size"]) fun _ _ _ _ _ _ us hl => match us, hl with | [_, _], _ => rfl⟩⟩
  have F_need_octets := fun_mk (st := topS 10) l_need_octets e_need_octets k_need_octets
  have C_need_octets : Cl pgm w K mg base ca 3 "need_octets" m_need_octets := ⟨⟨f_need_octets, _, _, d_need_octets F_need_octets y_len C_are_octets, PySem.W.mg_of X G a_need_octets, k_need_octets, F_need_octets.binds (ps := ["value", "low", "high"]) fun _ _ _ _ _ _ us hl => match us, hl with | [_, _, _], _ => rfl⟩⟩
  have F_is_file_name := fun_mk (st := topS 18) l_is_file_name e_is_file_name k_is_file_name
  have C_is_file_name : Cl pgm w K mg base ca 3 "is_file_name" m_is_file_name := ⟨⟨f_is_file_name, _, _, d_is_file_name F_is_file_name C_fits_sign y_all C_are_octets g_LONGEST, PySem.W.mg_of X G a_is_file_name, k_is_file_name, F_is_file_name.binds (ps := ["value"]) fun _ _ _ _ _ _ us hl => match us, hl with | [_], _ => rfl⟩⟩
  have F_tag_of := fun_mk (st := topS 19) l_tag_of e_tag_of k_tag_of
  have C_tag_of : Cl pgm w K mg base ca 3 "tag_of" m_tag_of := ⟨⟨f_tag_of, _, _, d_tag_of F_tag_of C_need_whole g_LATEST C_text_octets y_str, PySem.W.mg_of X G a_tag_of, k_tag_of, F_tag_of.binds (ps := ["version"]) fun _ _ _ _ _ _ us hl => match us, hl with | [_], _ => rfl⟩⟩
  have F__law_fits := fun_mk (st := topS 39) l__law_fits e__law_fits k__law_fits
  have C__law_fits : Cl pgm w K mg base ca 3 "_law_fits" m__law_fits := ⟨⟨f__law_fits, _, _, d__law_fits F__law_fits C__law_tag, PySem.W.mg_of X G a__law_fits, k__law_fits, F__law_fits.binds (ps := ["value", "version"]) fun _ _ _ _ _ _ us hl => match us, hl with | [_, _], _ => rfl⟩⟩
  have F__law_odd_target := fun_mk (st := topS 43) l__law_odd_target e__law_odd_target k__law_odd_target
  have C__law_odd_target : Cl pgm w K mg base ca 3 "_law_odd_target" m__law_odd_target := ⟨⟨f__law_odd_target, _, _, d__law_odd_target F__law_odd_target C__law_text C__law_some y_range y_tuple y_len, PySem.W.mg_of X G a__law_odd_target, k__law_odd_target, F__law_odd_target.binds (ps := ["cup"]) fun _ _ _ _ _ _ us hl => match us, hl with | [_], _ => rfl⟩⟩
  have F__law_odd_range := fun_mk (st := topS 44) l__law_odd_range e__law_odd_range k__law_odd_range
  have C__law_odd_range : Cl pgm w K mg base ca 3 "_law_odd_range" m__law_odd_range := ⟨⟨f__law_odd_range, _, _, d__law_odd_range F__law_odd_range C__law_text C__law_some y_range, PySem.W.mg_of X G a__law_odd_range, k__law_odd_range, F__law_odd_range.binds (ps := ["cup"]) fun _ _ _ _ _ _ us hl => match us, hl with | [_], _ => rfl⟩⟩
  have F_target_of := fun_mk (st := topS 28) l_target_of e_target_of k_target_of
  have C_target_of : Cl pgm w K mg base ca 4 "target_of" m_target_of := ⟨⟨f_target_of, _, _, d_target_of F_target_of C_need_octets g_TARGET g_STAR g_SLASH C_is_file_name, PySem.W.mg_of X G a_target_of, k_target_of, F_target_of.binds (ps := ["target"]) fun _ _ _ _ _ _ us hl => match us, hl with | [_], _ => rfl⟩⟩
  have F_fits_tag := fun_mk (st := topS 29) l_fits_tag e_fits_tag k_fits_tag
  have C_fits_tag : Cl pgm w K mg base ca 4 "fits_tag" m_fits_tag := ⟨⟨f_fits_tag, _, _, d_fits_tag F_fits_tag C_need_octets g_VALUE C_need_whole g_LATEST C_tag_of g_STAR, PySem.W.mg_of X G a_fits_tag, k_fits_tag, F_fits_tag.binds (ps := ["value", "version"]) fun _ _ _ _ _ _ us hl => match us, hl with | [_, _], _ => rfl⟩⟩
  have F_span_in := fun_mk (st := topS 32) l_span_in e_span_in k_span_in
  have C_span_in : Cl pgm w K mg base ca 4 "span_in" m_span_in := ⟨⟨f_span_in, _, _, d_span_in F_span_in C_need_octets g_VALUE C_need_whole g_SIZE C_parts_in C_digits_told y_min, PySem.W.mg_of X G a_span_in, k_span_in, F_span_in.binds (ps := ["value", "size"]) fun _ _ _ _ _ _ us hl => match us, hl with | [_, _], _ => rfl⟩⟩
  have F_law := fun_mk (st := topS 45) l_law e_law k_law
  exact d_law F_law C__law_cup y_range C__law_odd_target C_target_of y_repr C__law_target C__law_some C__law_roll C__law_tag C_fits_tag C__law_fits C__law_odd_range C_span_in C__law_span C__law_text y_min y_str
end MP

namespace MP
open PySem L2 PySem.Spec PyProof.Rows
theorem roll_ok {c0 c1 many : Int} {R : Sto} {q : W → Sto → Prop} (h0 : 0 ≤ c0) (hm : 0 < many ∧ many < 18446744073709551616)
    (k : ∀ v c0' c1', 0 ≤ v → v < many → 0 ≤ c0' → q (.d (.int v)) (.lst [.d (.int c0'), .d (.int c1')] :: R)) :
    post (m__law_roll [.r 0, .d (.int many)] (.lst [.d (.int c0), .d (.int c1)] :: R)) q := by
  have e0 : ∀ a b : Int, (O.lst [.d (.int a), .d (.int b)] :: R)[0]? = some (.lst [.d (.int a), .d (.int b)]) := fun _ _ => rfl
  refine post_fn rfl ?_
  unfold b__law_roll
  have i0 : ∀ a b : Int, L2.atI [W.d (.int a), W.d (.int b)] 0 = some (.d (.int a)) := fun _ _ => rfl
  have i1 : ∀ a b : Int, L2.atI [W.d (.int a), W.d (.int b)] 1 = some (.d (.int b)) := fun _ _ => rfl
  have j0 : ∀ a b : Int, ixN [W.d (.int a), W.d (.int b)].length 0 = some 0 := fun _ _ => rfl
  have j1 : ∀ a b : Int, ixN [W.d (.int a), W.d (.int b)].length 1 = some 1 := fun _ _ => rfl
  simp (disch := first | omega | (simp [SZ]; done) | (simp [SZ]; omega)) only [post_bnd, post_ret, post_some, sq_ap, a_k, a_v, getV_cons0, getV_cons, a_bin, a_cmp, a_ch, a_neg, a_not, a_and, a_or, a_ite, a_sub, a_slc, a_no, a_so, a_nil', a_cons', a_tup, a_lst, a_nl, a_ndk, a_call, a_bi, a_isi, a_app, a_sd, a_tst, a_sk, a_brk, a_cnt, a_bad, a_ex, a_ret, a_retN, a_if, a_asg, a_par2, a_par3, a_set, a_for, a_seq, a_enum, a_rng1, a_rng2, a_lc, v_add, v_sub, v_band, v_neg, v_trB, v_trI, v_trN, v_lt, v_le, v_gt, v_ge, v_eqI, v_neI, v_eqS, v_neS, v_isn, v_isnn, v_int, v_abs, v_lenT, v_lenL, v_tupL, v_lstL, true_and, and_true, if_true, if_false, ite_true, ite_false, List.length_cons, List.length_nil, Option.map_some, Option.some.injEq, exists_eq_left', v_mul, v_fdiv, v_mod, v_pow, List.set_cons_zero, List.set_cons_succ, List.map_cons, List.map_nil, List.replicate_succ, List.replicate_zero, List.cons_append, List.nil_append, List.append_nil, leave_same, v_ixR (e0 _ _) (i0 _ _), v_ixR (e0 _ _) (i1 _ _), v_setR (e0 _ _) (j0 _ _), v_setR (e0 _ _) (j1 _ _)]
  by_cases c : 0 < c0
  · rw [if_pos (decide_eq_true c)]
    exact k _ _ _ (Int.emod_nonneg _ (by omega)) (Int.emod_lt_of_pos _ hm.1) (Int.ediv_nonneg h0 (by omega))
  · rw [if_neg (by simpa using c)]
    exact k _ _ _ (Int.emod_nonneg _ (by omega)) (Int.emod_lt_of_pos _ hm.1) h0
theorem some_ok {c0 c1 : Int} {R : Sto} {q : W → Sto → Prop} {xs : List D} {w : W} (hw : w = .d (.list xs) ∨ w = .d (.tuple xs)) (h0 : 0 ≤ c0) (hx : xs ≠ []) (hl : xs.length < 1000)
    (k : ∀ x c0' c1', x ∈ xs → 0 ≤ c0' → q (.d x) (.lst [.d (.int c0'), .d (.int c1')] :: R)) :
    post (m__law_some [.r 0, w] (.lst [.d (.int c0), .d (.int c1)] :: R)) q := by
  have hpos : 0 < xs.length := List.length_pos_iff.mpr hx
  have key : ∀ v : Int, 0 ≤ v → v < xs.length → ∃ x, x ∈ xs ∧ L2.atI xs v = some x := by
    intro v h1 h2
    have hi : v.toNat < xs.length := by omega
    refine ⟨xs[v.toNat], List.getElem_mem hi, ?_⟩
    have e := L2.atI_nat (xs := xs) (j := v.toNat) (v := xs[v.toNat]) (List.getElem?_eq_getElem hi)
    rw [Int.toNat_of_nonneg h1] at e
    exact e
  refine post_fn rfl ?_
  unfold b__law_some
  rcases hw with rfl | rfl
  · simp only [post_bnd, post_ret, post_some, sq_ap, a_k, a_v, getV_cons0, getV_cons, a_bin, a_cmp, a_ch, a_neg, a_not, a_and, a_or, a_ite, a_sub, a_slc, a_no, a_so, a_nil', a_cons', a_tup, a_lst, a_nl, a_ndk, a_call, a_bi, a_isi, a_app, a_sd, a_tst, a_sk, a_brk, a_cnt, a_bad, a_ex, a_ret, a_retN, a_if, a_asg, a_par2, a_par3, a_set, a_for, a_seq, a_enum, a_rng1, a_rng2, a_lc, v_add, v_sub, v_band, v_neg, v_trB, v_trI, v_trN, v_lt, v_le, v_gt, v_ge, v_eqI, v_neI, v_eqS, v_neS, v_isn, v_isnn, v_int, v_abs, v_lenT, v_lenL, v_tupL, v_lstL, true_and, and_true, if_true, if_false, ite_true, ite_false, List.length_cons, List.length_nil, Option.map_some, Option.some.injEq, exists_eq_left', v_mul, v_fdiv, v_mod, v_pow, List.set_cons_zero, List.set_cons_succ, List.map_cons, List.map_nil, List.replicate_succ, List.replicate_zero, List.cons_append, List.nil_append, List.append_nil]
    refine roll_ok h0 ⟨by omega, by omega⟩ fun v a b h1 h2 h3 => ?_
    obtain ⟨x, hm, e⟩ := key v h1 h2
    rw [v_ixL e, leave_same (by simp)]
    exact k x a b hm h3
  · simp only [post_bnd, post_ret, post_some, sq_ap, a_k, a_v, getV_cons0, getV_cons, a_bin, a_cmp, a_ch, a_neg, a_not, a_and, a_or, a_ite, a_sub, a_slc, a_no, a_so, a_nil', a_cons', a_tup, a_lst, a_nl, a_ndk, a_call, a_bi, a_isi, a_app, a_sd, a_tst, a_sk, a_brk, a_cnt, a_bad, a_ex, a_ret, a_retN, a_if, a_asg, a_par2, a_par3, a_set, a_for, a_seq, a_enum, a_rng1, a_rng2, a_lc, v_add, v_sub, v_band, v_neg, v_trB, v_trI, v_trN, v_lt, v_le, v_gt, v_ge, v_eqI, v_neI, v_eqS, v_neS, v_isn, v_isnn, v_int, v_abs, v_lenT, v_lenL, v_tupL, v_lstL, true_and, and_true, if_true, if_false, ite_true, ite_false, List.length_cons, List.length_nil, Option.map_some, Option.some.injEq, exists_eq_left', v_mul, v_fdiv, v_mod, v_pow, List.set_cons_zero, List.set_cons_succ, List.map_cons, List.map_nil, List.replicate_succ, List.replicate_zero, List.cons_append, List.nil_append, List.append_nil]
    refine roll_ok h0 ⟨by omega, by omega⟩ fun v a b h1 h2 h3 => ?_
    obtain ⟨x, hm, e⟩ := key v h1 h2
    rw [v_ixT e, leave_same (by simp)]
    exact k x a b hm h3
theorem cup_ok {ns : List Int} {q : W → Sto → Prop} (hl : ns.length ≤ 63) (k : ∀ c0 c1 : Int, 0 ≤ c0 → q (.r 0) [.lst [.d (.int c0), .d (.int c1)]]) : post (m__law_cup [.d (.list (ns.map .int))] []) q := by
  refine post_fn rfl ?_
  unfold b__law_cup
  have e1 : ((10 : Int) ^ (18 : Int).toNat) = 1000000000000000000 := by decide
  have hd : ∃ n : Int, L2.atI (ns.map PyData.int ++ [.int 0]) 0 = some (.int n) := by
    cases ns with
    | nil => exact ⟨0, rfl⟩
    | cons n r => exact ⟨n, L2.atI_nat (j := 0) rfl⟩
  obtain ⟨n, hn⟩ := hd
  simp (disch := first | omega | (simp [SZ]; done) | (simp [SZ]; omega)) only [post_bnd, post_ret, post_some, sq_ap, a_k, a_v, getV_cons0, getV_cons, a_bin, a_cmp, a_ch, a_neg, a_not, a_and, a_or, a_ite, a_sub, a_slc, a_no, a_so, a_nil', a_cons', a_tup, a_lst, a_nl, a_ndk, a_call, a_bi, a_isi, a_app, a_sd, a_tst, a_sk, a_brk, a_cnt, a_bad, a_ex, a_ret, a_retN, a_if, a_asg, a_par2, a_par3, a_set, a_for, a_seq, a_enum, a_rng1, a_rng2, a_lc, v_add, v_sub, v_band, v_neg, v_trB, v_trI, v_trN, v_lt, v_le, v_gt, v_ge, v_eqI, v_neI, v_eqS, v_neS, v_isn, v_isnn, v_int, v_abs, v_lenT, v_lenL, v_tupL, v_lstL, true_and, and_true, if_true, if_false, ite_true, ite_false, List.length_cons, List.length_nil, Option.map_some, Option.some.injEq, exists_eq_left', v_mul, v_fdiv, v_mod, v_pow, List.set_cons_zero, List.set_cons_succ, List.map_cons, List.map_nil, List.replicate_succ, List.replicate_zero, List.cons_append, List.nil_append, List.append_nil, dataOf, v_catL, v_ixL hn, e1]
  have z1 : (0 + 1 : Nat) ≤ SZ := by decide
  have z2 : (0 + 1 + 1 : Nat) ≤ SZ := by decide
  refine ⟨z1, ?_⟩
  generalize hm : (if n < 0 then -n else n) = m
  have hm0 : 0 ≤ m := by
    rw [← hm]
    by_cases c : n < 0
    · rw [if_pos c]; omega
    · rw [if_neg c]; omega
  by_cases c : 1000000000000000000 ≤ m
  · rw [if_pos (decide_eq_true c)]
    refine ⟨z2, k _ _ ?_⟩
    exact Int.ediv_nonneg hm0 (by omega)
  · rw [if_neg (by simpa using c)]
    exact ⟨z2, k _ _ (Int.le_refl _)⟩
end MP

namespace MP
open PySem L2 PySem.Spec PyProof.Rows
/-! comprehensions without an effect -/
theorem lc_map {turn : D → M (Option D)} {f : D → D} {S : Sto} {q : List D → Sto → Prop} : ∀ (items : List D), (∀ x ∈ items, ∀ q : Option D → Sto → Prop, q (some (f x)) S → post (turn x S) q) → q (items.map f) S → post (lcM turn items S) q
  | [], _, k => k
  | x :: r, h, k => by
    unfold lcM
    rw [post_bnd]
    refine h x List.mem_cons_self _ ?_
    rw [post_bnd]
    refine lc_map r (fun y m => h y (List.mem_cons_of_mem _ m)) ?_
    exact k
theorem lc_filter {turn : D → M (Option D)} {f : D → D} {p : D → Bool} {S : Sto} {q : List D → Sto → Prop} : ∀ (items : List D), (∀ x ∈ items, ∀ q : Option D → Sto → Prop, q (if p x = true then some (f x) else none) S → post (turn x S) q) → q ((items.filter p).map f) S → post (lcM turn items S) q
  | [], _, k => k
  | x :: r, h, k => by
    unfold lcM
    rw [post_bnd]
    refine h x List.mem_cons_self _ ?_
    rw [post_bnd]
    refine lc_filter r (fun y m => h y (List.mem_cons_of_mem _ m)) ?_
    rw [List.filter_cons] at k
    cases e : p x with
    | true =>
      rw [e] at k
      exact k
    | false =>
      rw [e] at k
      exact k
abbrev T (xs : List Int) : D := .tuple (xs.map .int)
def oct (xs : List Int) : Prop := ∀ o ∈ xs, 0 ≤ o ∧ o < 256
theorem eqv_ints : ∀ xs ys : List Int, PyData.eqvAll (xs.map .int) (ys.map .int) = decide (xs = ys)
  | [], [] => rfl
  | [], _ :: _ => rfl
  | _ :: _, [] => rfl
  | x :: xs, y :: ys => by
    show ((x == y) && PyData.eqvAll (xs.map .int) (ys.map .int)) = _
    rw [eqv_ints xs ys, Bool.eq_iff_iff]
    simp
theorem eq_T (xs ys : List Int) : eqD (T xs) (T ys) = some (decide (xs = ys)) := by
  show (if SeqAt.shaped (T xs) = true ∧ SeqAt.shaped (T ys) = true then some (PyData.eqv (T xs) (T ys)) else none) = _
  rw [if_pos ⟨shaped_ints xs, shaped_ints ys⟩]
  exact congrArg some (eqv_ints xs ys)
theorem bools_map {α : Type} (g : α → Bool) : ∀ xs : List α, bools (xs.map fun x => (PyData.bool (g x) : D)) = some (xs.map g)
  | [] => rfl
  | x :: r => by
    show (bools (r.map fun x => (PyData.bool (g x) : D))).map (g x :: ·) = _
    rw [bools_map g r]; rfl
theorem v_all {S : Sto} {q : W → Sto → Prop} {α : Type} (g : α → Bool) (xs : List α) : post (b1W .all [.d (.list (xs.map fun x => (PyData.bool (g x) : D)))] S) q = q (.d (.bool (xs.all g))) S := by
  have e : b1D .all [.list (xs.map fun x => (PyData.bool (g x) : D))] = some (.bool (xs.all g)) := by
    show (bools (xs.map fun x => (PyData.bool (g x) : D))).map (fun bs => PyData.bool (bs.all id)) = _
    rw [bools_map, Option.map_some, List.all_map]
    rfl
  exact v_b1 (xs := [.list (xs.map fun x => (PyData.bool (g x) : D))]) (by decide) (by decide) e
/-! ### numbers and octets -/
theorem isw_ok {S : Sto} {q : W → Sto → Prop} {v lo hi : Int} (h : lo ≤ v ∧ v ≤ hi) (k : q (.d (.bool true)) S) : post (m_is_whole [.d (.int v), .d (.int lo), .d (.int hi)] S) q := by
  refine post_fn rfl ?_
  unfold b_is_whole
  have i1 : isI "int" (.int v) = some true := rfl
  have i2 : isI "bool" (.int v) = some false := rfl
  simp only [post_bnd, post_ret, post_some, sq_ap, a_k, a_v, getV_cons0, getV_cons, a_bin, a_cmp, a_ch, a_neg, a_not, a_and, a_or, a_ite, a_sub, a_slc, a_no, a_so, a_nil', a_cons', a_tup, a_lst, a_nl, a_ndk, a_call, a_bi, a_isi, a_app, a_sd, a_tst, a_sk, a_brk, a_cnt, a_bad, a_ex, a_ret, a_retN, a_if, a_asg, a_par2, a_par3, a_set, a_for, a_seq, a_enum, a_rng1, a_rng2, a_lc, v_add, v_sub, v_band, v_neg, v_trB, v_trI, v_trN, v_lt, v_le, v_gt, v_ge, v_eqI, v_neI, v_eqS, v_neS, v_isn, v_isnn, v_int, v_abs, v_lenT, v_lenL, v_tupL, v_lstL, true_and, and_true, if_true, if_false, ite_true, ite_false, List.length_cons, List.length_nil, Option.map_some, Option.some.injEq, exists_eq_left', v_mul, v_fdiv, v_mod, v_pow, List.set_cons_zero, List.set_cons_succ, List.map_cons, List.map_nil, List.replicate_succ, List.replicate_zero, List.cons_append, List.nil_append, List.append_nil, v_isi i1, v_isi i2, leave_same (Nat.le_refl _), decide_eq_true h.1, decide_eq_true h.2, Bool.not_false]
  exact k
theorem whole_ok {S : Sto} {q : W → Sto → Prop} {v lo hi : Int} (h : lo ≤ v ∧ v ≤ hi) (k : q (.d .none) S) : post (m_need_whole [.d (.int v), .d (.int lo), .d (.int hi)] S) q := by
  refine post_fn rfl ?_
  unfold b_need_whole
  simp only [post_bnd, post_ret, post_some, sq_ap, a_k, a_v, getV_cons0, getV_cons, a_bin, a_cmp, a_ch, a_neg, a_not, a_and, a_or, a_ite, a_sub, a_slc, a_no, a_so, a_nil', a_cons', a_tup, a_lst, a_nl, a_ndk, a_call, a_bi, a_isi, a_app, a_sd, a_tst, a_sk, a_brk, a_cnt, a_bad, a_ex, a_ret, a_retN, a_if, a_asg, a_par2, a_par3, a_set, a_for, a_seq, a_enum, a_rng1, a_rng2, a_lc, v_add, v_sub, v_band, v_neg, v_trB, v_trI, v_trN, v_lt, v_le, v_gt, v_ge, v_eqI, v_neI, v_eqS, v_neS, v_isn, v_isnn, v_int, v_abs, v_lenT, v_lenL, v_tupL, v_lstL, true_and, and_true, if_true, if_false, ite_true, ite_false, List.length_cons, List.length_nil, Option.map_some, Option.some.injEq, exists_eq_left', v_mul, v_fdiv, v_mod, v_pow, List.set_cons_zero, List.set_cons_succ, List.map_cons, List.map_nil, List.replicate_succ, List.replicate_zero, List.cons_append, List.nil_append, List.append_nil]
  refine isw_ok h ?_
  simp only [post_bnd, post_ret, post_some, sq_ap, a_k, a_v, getV_cons0, getV_cons, a_bin, a_cmp, a_ch, a_neg, a_not, a_and, a_or, a_ite, a_sub, a_slc, a_no, a_so, a_nil', a_cons', a_tup, a_lst, a_nl, a_ndk, a_call, a_bi, a_isi, a_app, a_sd, a_tst, a_sk, a_brk, a_cnt, a_bad, a_ex, a_ret, a_retN, a_if, a_asg, a_par2, a_par3, a_set, a_for, a_seq, a_enum, a_rng1, a_rng2, a_lc, v_add, v_sub, v_band, v_neg, v_trB, v_trI, v_trN, v_lt, v_le, v_gt, v_ge, v_eqI, v_neI, v_eqS, v_neS, v_isn, v_isnn, v_int, v_abs, v_lenT, v_lenL, v_tupL, v_lstL, true_and, and_true, if_true, if_false, ite_true, ite_false, List.length_cons, List.length_nil, Option.map_some, Option.some.injEq, exists_eq_left', v_mul, v_fdiv, v_mod, v_pow, List.set_cons_zero, List.set_cons_succ, List.map_cons, List.map_nil, List.replicate_succ, List.replicate_zero, List.cons_append, List.nil_append, List.append_nil, Bool.not_true, Bool.false_eq_true, leave_same (Nat.le_refl _)]
  exact k
theorem isT_ok {S : Sto} {q : W → Sto → Prop} {xs : List Int} {hi : Int} (k : q (.d (.bool (decide ((xs.length : Int) ≤ hi)))) S) : post (m_is_tuple_of [.d (T xs), .d (.int 0), .d (.int hi)] S) q := by
  refine post_fn rfl ?_
  unfold b_is_tuple_of
  have i1 : isI "tuple" (T xs) = some true := rfl
  simp only [post_bnd, post_ret, post_some, sq_ap, a_k, a_v, getV_cons0, getV_cons, a_bin, a_cmp, a_ch, a_neg, a_not, a_and, a_or, a_ite, a_sub, a_slc, a_no, a_so, a_nil', a_cons', a_tup, a_lst, a_nl, a_ndk, a_call, a_bi, a_isi, a_app, a_sd, a_tst, a_sk, a_brk, a_cnt, a_bad, a_ex, a_ret, a_retN, a_if, a_asg, a_par2, a_par3, a_set, a_for, a_seq, a_enum, a_rng1, a_rng2, a_lc, v_add, v_sub, v_band, v_neg, v_trB, v_trI, v_trN, v_lt, v_le, v_gt, v_ge, v_eqI, v_neI, v_eqS, v_neS, v_isn, v_isnn, v_int, v_abs, v_lenT, v_lenL, v_tupL, v_lstL, true_and, and_true, if_true, if_false, ite_true, ite_false, List.length_cons, List.length_nil, Option.map_some, Option.some.injEq, exists_eq_left', v_mul, v_fdiv, v_mod, v_pow, List.set_cons_zero, List.set_cons_succ, List.map_cons, List.map_nil, List.replicate_succ, List.replicate_zero, List.cons_append, List.nil_append, List.append_nil, v_isi i1, leave_same (Nat.le_refl _), List.length_map]
  rw [if_pos (by simp)]
  exact k
theorem are_ok {S : Sto} {q : W → Sto → Prop} {xs : List Int} {hi : Int} (hx : oct xs) (hl : xs.length ≤ 1000) (k : q (.d (.bool (decide ((xs.length : Int) ≤ hi)))) S) : post (m_are_octets [.d (T xs), .d (.int hi)] S) q := by
  refine post_fn rfl ?_
  unfold b_are_octets
  rw [a_ret, a_and]
  simp only [a_call, a_cons', a_v, a_k, a_nil', getV_cons0, getV_cons, List.map_cons, List.map_nil, List.cons_append, List.nil_append, List.replicate_succ, List.replicate_zero, post_ret]
  refine isT_ok ?_
  simp only [v_trB]
  cases hb : decide ((xs.length : Int) ≤ hi) with
  | false =>
    rw [hb] at k
    simp only [Bool.false_eq_true, if_false, leave_same (Nat.le_refl _)]
    exact k
  | true =>
    rw [hb] at k
    simp only [if_true, a_bi, a_cons', a_lc, a_seq, a_v, getV_cons0, getV_cons, post_ret, a_nil']
    refine ⟨_, rfl, ?_⟩
    refine lc_map (f := fun _ => .bool true) (xs.map .int) ?_ ?_
    · intro x m q h
      obtain ⟨o, ho, rfl⟩ := List.mem_map.mp m
      unfold lcT
      have eb : bindP (.nm 2) (.d (.int o)) (wipeW [some (.d (T xs)), some (.d (.int hi)), none] [2]) = some [some (.d (T xs)), some (.d (.int hi)), some (.d (.int o))] := rfl
      rw [eb]
      simp only [opt_some, bnd_ret, yesM, if_true, post_bnd, a_call, a_cons', a_v, a_k, a_nil', getV_cons0, getV_cons, post_ret]
      have := hx o ho
      refine isw_ok (by omega) ?_
      exact h
    · refine ⟨by simp only [List.length_map]; show _ ≤ 16777216; omega, ?_⟩
      have e1 : ((xs.map PyData.int).map fun _ => (PyData.bool true : D)) = xs.map fun x => (PyData.bool ((fun _ => true) x) : D) := by rw [List.map_map]; rfl
      rw [e1, v_all (fun _ => true) xs]
      have e2 : xs.all (fun _ => true) = true := by simp
      rw [e2]
      simp only [leave_same (Nat.le_refl _)]
      exact k
theorem need_ok {S : Sto} {q : W → Sto → Prop} {xs : List Int} {lo hi : Int} (hx : oct xs) (hl : lo ≤ xs.length ∧ (xs.length : Int) ≤ hi ∧ hi ≤ 1000) (k : q (.d .none) S) : post (m_need_octets [.d (T xs), .d (.int lo), .d (.int hi)] S) q := by
  refine post_fn rfl ?_
  unfold b_need_octets
  simp only [post_bnd, post_ret, post_some, sq_ap, a_k, a_v, getV_cons0, getV_cons, a_bin, a_cmp, a_ch, a_neg, a_not, a_and, a_or, a_ite, a_sub, a_slc, a_no, a_so, a_nil', a_cons', a_tup, a_lst, a_nl, a_ndk, a_call, a_bi, a_isi, a_app, a_sd, a_tst, a_sk, a_brk, a_cnt, a_bad, a_ex, a_ret, a_retN, a_if, a_asg, a_par2, a_par3, a_set, a_for, a_seq, a_enum, a_rng1, a_rng2, a_lc, v_add, v_sub, v_band, v_neg, v_trB, v_trI, v_trN, v_lt, v_le, v_gt, v_ge, v_eqI, v_neI, v_eqS, v_neS, v_isn, v_isnn, v_int, v_abs, v_lenT, v_lenL, v_tupL, v_lstL, true_and, and_true, if_true, if_false, ite_true, ite_false, List.length_cons, List.length_nil, Option.map_some, Option.some.injEq, exists_eq_left', v_mul, v_fdiv, v_mod, v_pow, List.set_cons_zero, List.set_cons_succ, List.map_cons, List.map_nil, List.replicate_succ, List.replicate_zero, List.cons_append, List.nil_append, List.append_nil]
  refine are_ok hx (by omega) ?_
  rw [decide_eq_true hl.2.1]
  simp only [post_bnd, post_ret, post_some, sq_ap, a_k, a_v, getV_cons0, getV_cons, a_bin, a_cmp, a_ch, a_neg, a_not, a_and, a_or, a_ite, a_sub, a_slc, a_no, a_so, a_nil', a_cons', a_tup, a_lst, a_nl, a_ndk, a_call, a_bi, a_isi, a_app, a_sd, a_tst, a_sk, a_brk, a_cnt, a_bad, a_ex, a_ret, a_retN, a_if, a_asg, a_par2, a_par3, a_set, a_for, a_seq, a_enum, a_rng1, a_rng2, a_lc, v_add, v_sub, v_band, v_neg, v_trB, v_trI, v_trN, v_lt, v_le, v_gt, v_ge, v_eqI, v_neI, v_eqS, v_neS, v_isn, v_isnn, v_int, v_abs, v_lenT, v_lenL, v_tupL, v_lstL, true_and, and_true, if_true, if_false, ite_true, ite_false, List.length_cons, List.length_nil, Option.map_some, Option.some.injEq, exists_eq_left', v_mul, v_fdiv, v_mod, v_pow, List.set_cons_zero, List.set_cons_succ, List.map_cons, List.map_nil, List.replicate_succ, List.replicate_zero, List.cons_append, List.nil_append, List.append_nil, Bool.not_true, Bool.false_eq_true, List.length_map]
  rw [if_neg (by simp; omega)]
  simp only [leave_same (Nat.le_refl _)]
  exact k
/-! ### texts -/
def cpsI (z : Str) : List Int := z.cps.toList.map fun c => ((c : Nat) : Int)
theorem ord_turn {S : Sto} {q : W → Sto → Prop} {c : Nat} : post (b1W .ord [.d (.str ⟨#[c]⟩)] S) q = q (.d (.int (c : Nat))) S := v_b1 (xs := [.str ⟨#[c]⟩]) (by decide) (by decide) rfl
theorem text_ok {S : Sto} {q : W → Sto → Prop} {z : Str} (hz : z.cps.toList.length ≤ 1000) (k : q (.d (T (cpsI z))) S) : post (m_text_octets [.d (.str z)] S) q := by
  refine post_fn rfl ?_
  unfold b_text_octets
  simp only [a_ret, a_bi, a_cons', a_lc, a_seq, a_v, getV_cons0, getV_cons, post_ret, a_nil', List.map_cons, List.map_nil, List.cons_append, List.nil_append, List.replicate_succ, List.replicate_zero]
  refine ⟨_, rfl, ?_⟩
  refine lc_map (f := fun d => match d with
    | .str y => (match sign1 y with
      | some c => .int (c : Nat)
      | none => .none)
    | _ => .none) _ ?_ ?_
  · intro x m q h
    obtain ⟨c, hc, rfl⟩ := List.mem_map.mp m
    unfold lcT
    have eb : bindP (.nm 1) (.d (.str ⟨#[c]⟩)) (wipeW [some (.d (.str z)), none] [1]) = some [some (.d (.str z)), some (.d (.str ⟨#[c]⟩))] := rfl
    rw [eb]
    simp only [opt_some, bnd_ret, yesM, if_true, post_bnd, a_bi, a_cons', a_v, a_k, a_nil', getV_cons0, getV_cons, post_ret, ord_turn]
    exact h
  · refine ⟨by simp only [List.length_map]; show _ ≤ 16777216; omega, ?_⟩
    rw [List.map_map]
    simp only [v_tupL, leave_same (Nat.le_refl _)]
    have e : T (cpsI z) = .tuple (List.map ((fun d => match d with
    | .str y => (match sign1 y with
      | some c => .int (c : Nat)
      | none => .none)
    | _ => .none) ∘ fun c => (PyData.str ⟨#[c]⟩ : D)) z.cps.toList) := by
      show PyData.tuple ((z.cps.toList.map fun c => ((c : Nat) : Int)).map .int) = _
      rw [List.map_map]
      rfl
    rw [e] at k
    exact k
theorem ltext_ok {S : Sto} {q : W → Sto → Prop} {z : Str} (hz : z.cps.toList.length ≤ 1000) (k : q (.d (T (cpsI z))) S) : post (m__law_text [.d (.str z)] S) q := by
  have e : m__law_text = m_text_octets := rfl
  rw [e]
  exact text_ok hz k
end MP

namespace MP
open PySem L2 PySem.Spec PyProof.Rows
/-! ### file names, targets -/
def fits (o : Int) : Bool := decide (97 ≤ o ∧ o ≤ 122) || (decide (48 ≤ o ∧ o ≤ 57) || decide (o = 46))
theorem fits_ok {S : Sto} {q : W → Sto → Prop} {o : Int} (k : q (.d (.bool (fits o))) S) : post (m_fits_sign [.d (.int o)] S) q := by
  refine post_fn rfl ?_
  unfold b_fits_sign
  simp only [post_bnd, post_ret, post_some, sq_ap, a_k, a_v, getV_cons0, getV_cons, a_bin, a_cmp, a_ch, a_neg, a_not, a_and, a_or, a_ite, a_sub, a_slc, a_no, a_so, a_nil', a_cons', a_tup, a_lst, a_nl, a_ndk, a_call, a_bi, a_isi, a_app, a_sd, a_tst, a_sk, a_brk, a_cnt, a_bad, a_ex, a_ret, a_retN, a_if, a_asg, a_par2, a_par3, a_set, a_for, a_seq, a_enum, a_rng1, a_rng2, a_lc, v_add, v_sub, v_band, v_neg, v_trB, v_trI, v_trN, v_lt, v_le, v_gt, v_ge, v_eqI, v_neI, v_eqS, v_neS, v_isn, v_isnn, v_int, v_abs, v_lenT, v_lenL, v_tupL, v_lstL, true_and, and_true, if_true, if_false, ite_true, ite_false, List.length_cons, List.length_nil, Option.map_some, Option.some.injEq, exists_eq_left', v_mul, v_fdiv, v_mod, v_pow, List.set_cons_zero, List.set_cons_succ, List.map_cons, List.map_nil, List.replicate_succ, List.replicate_zero, List.cons_append, List.nil_append, List.append_nil, leave_same (Nat.le_refl _)]
  unfold fits at k
  by_cases c1 : 97 ≤ o
  · simp only [decide_eq_true c1, if_true]
    by_cases c2 : o ≤ 122
    · simp only [decide_eq_true c2, if_true, true_and, c1, c2, and_self, decide_true, Bool.true_or] at k ⊢
      exact k
    · have c3 : 48 ≤ o := by omega
      have c4 : ¬ o ≤ 57 := by omega
      have c5 : ¬ o = 46 := by omega
      have c6 : (o == 46) = false := by simpa using c5
      simp [c2, c3, c4, c5, c6] at k ⊢
      exact k
  · simp only [decide_eq_false c1, Bool.false_eq_true, if_false]
    by_cases c3 : 48 ≤ o
    · by_cases c4 : o ≤ 57
      · simp [c1, c3, c4] at k ⊢
        exact k
      · have c5 : ¬ o = 46 := by omega
        have c6 : (o == 46) = false := by simpa using c5
        simp [c1, c3, c4, c5, c6] at k ⊢
        exact k
    · by_cases c5 : o = 46
      · subst c5
        simp at k ⊢
        exact k
      · have c6 : (o == 46) = false := by simpa using c5
        simp [c1, c3, c5, c6] at k ⊢
        exact k
def gFit : D → D
  | .int o => .bool (fits o)
  | _ => .none
theorem name_ok {S : Sto} {q : W → Sto → Prop} {xs : List Int} (hx : oct xs) (hl : xs.length ≤ 1000) (k : q (.d (.bool (decide ((xs.length : Int) ≤ 12) && (decide (xs ≠ []) && xs.all fits)))) S) : post (m_is_file_name [.d (T xs)] S) q := by
  refine post_fn rfl ?_
  unfold b_is_file_name
  rw [a_ret, a_and]
  simp only [a_call, a_cons', a_v, a_k, a_nil', getV_cons0, getV_cons, List.map_cons, List.map_nil, List.cons_append, List.nil_append, List.replicate_succ, List.replicate_zero, post_ret]
  refine are_ok hx hl ?_
  simp only [v_trB]
  cases hb : decide ((xs.length : Int) ≤ 12) with
  | false =>
    rw [hb] at k
    simp only [Bool.false_eq_true, if_false, leave_same (Nat.le_refl _)]
    exact k
  | true =>
    rw [hb] at k
    simp only [if_true, a_and, a_cmp, a_v, getV_cons0, getV_cons, post_ret, a_tup, a_nil', dataOf, Option.some.injEq, exists_eq_left', List.length_nil]
    refine ⟨by decide, ?_⟩
    have e0 : (PyData.tuple [] : D) = T [] := rfl
    rw [e0, v_neD (eq_T xs [])]
    simp only [v_trB]
    by_cases c : xs = []
    · rw [decide_eq_true c]
      have c2 : decide (xs ≠ []) = false := by simpa using c
      rw [c2] at k
      simp only [Bool.not_true, Bool.false_eq_true, if_false, leave_same (Nat.le_refl _)]
      exact k
    · rw [decide_eq_false c]
      have c2 : decide (xs ≠ []) = true := by simpa using c
      rw [c2] at k
      simp only [Bool.not_false, if_true, a_bi, a_cons', a_lc, a_seq, a_v, getV_cons0, getV_cons, post_ret, a_nil']
      refine ⟨_, rfl, ?_⟩
      refine lc_map (f := gFit) (xs.map .int) ?_ ?_
      · intro x m q h
        obtain ⟨o, ho, rfl⟩ := List.mem_map.mp m
        unfold lcT
        have eb : bindP (.nm 1) (.d (.int o)) (wipeW [some (.d (T xs)), none] [1]) = some [some (.d (T xs)), some (.d (.int o))] := rfl
        rw [eb]
        simp only [opt_some, bnd_ret, yesM, if_true, post_bnd, a_call, a_cons', a_v, a_k, a_nil', getV_cons0, getV_cons, post_ret]
        refine fits_ok ?_
        exact h
      · refine ⟨by simp only [List.length_map]; show _ ≤ 16777216; omega, ?_⟩
        rw [List.map_map]
        have e1 : xs.map (gFit ∘ PyData.int) = xs.map fun x => (PyData.bool (fits x) : D) := rfl
        rw [e1, v_all fits xs]
        simp only [leave_same (Nat.le_refl _)]
        exact k
def targetR (xs : List Int) : D := if xs = [42] then .tuple [.str "all"] else if xs.head? ≠ some 47 then .tuple [.str "strayed", .int 400] else if xs = [47] then .tuple [.str "list"] else
  if (decide ((xs.tail.length : Int) ≤ 12) && (decide (xs.tail ≠ []) && xs.tail.all fits)) = true then .tuple [.str "file", T xs.tail] else .tuple [.str "strayed", .int 404]
theorem cut1 {α : Type} (xs : List α) : cut xs (some 1) none = xs.tail := by
  unfold cut
  have e := HT.sIx_nat xs.length 0 1
  rw [show HT.sIx xs.length 0 (some 1) = min 1 xs.length from e, HT.sIx_none]
  cases xs with
  | nil => rfl
  | cons x r =>
    rw [List.length_cons, show min 1 (r.length + 1) = 1 by omega]
    show List.take (r.length + 1 - 1) r = r
    rw [Nat.add_sub_cancel, List.take_length]
theorem tgt_ok {S : Sto} {q : W → Sto → Prop} {xs : List Int} (hx : oct xs) (hn : xs ≠ []) (hl : xs.length ≤ 40) (k : q (.d (targetR xs)) S) : post (m_target_of [.d (T xs)] S) q := by
  obtain ⟨x, r, rfl⟩ : ∃ x r, xs = x :: r := by
    cases xs with
    | nil => exact absurd rfl hn
    | cons x r => exact ⟨x, r, rfl⟩
  have hr : oct r := fun o m => hx o (List.mem_cons_of_mem _ m)
  have h0 : L2.atI ((x :: r).map PyData.int) 0 = some (.int x) := L2.atI_nat (j := 0) rfl
  refine post_fn rfl ?_
  unfold b_target_of
  rw [sq_ap]
  simp only [a_ex, a_call, a_cons', a_v, a_k, a_nil', getV_cons0, getV_cons, List.map_cons, List.map_nil, List.cons_append, List.nil_append, List.replicate_succ, List.replicate_zero, post_ret]
  refine need_ok hx ⟨by simp only [List.length_cons]; omega, by omega, by omega⟩ ?_
  rw [sq_ap]
  simp only [a_if, a_cmp, a_v, a_k, getV_cons0, getV_cons, post_ret]
  have e42 : (PyData.tuple [.int 42] : D) = T [42] := rfl
  rw [e42, v_eqD (eq_T (x :: r) [42])]
  simp only [v_trB]
  unfold targetR at k
  by_cases c : x :: r = [42]
  · rw [if_pos c] at k
    rw [if_pos (decide_eq_true c)]
    simp only [a_ret, a_tup, a_cons', a_k, a_nil', dataOf, Option.map_some, Option.some.injEq, exists_eq_left', List.length_cons, List.length_nil, leave_same (Nat.le_refl _)]
    exact ⟨by decide, k⟩
  · rw [if_neg c] at k
    rw [if_neg (by simpa using c), a_sk]
    simp only
    rw [sq_ap]
    simp only [a_if, a_cmp, a_sub, a_v, a_k, getV_cons0, getV_cons, post_ret]
    rw [v_ixT h0]
    simp only [v_neI, v_trB]
    by_cases c2 : x = 47
    · subst c2
      rw [if_neg (by simp)] at k
      rw [if_neg (by simp), a_sk]
      simp only
      rw [sq_ap]
      simp only [a_if, a_cmp, a_tup, a_cons', a_nil', a_v, a_k, getV_cons0, getV_cons, post_ret, dataOf, Option.map_some, Option.some.injEq, exists_eq_left', List.length_cons, List.length_nil]
      refine ⟨by decide, ?_⟩
      have e47 : (PyData.tuple [.int 47] : D) = T [47] := rfl
      rw [e47, v_eqD (eq_T (47 :: r) [47])]
      simp only [v_trB]
      by_cases c3 : 47 :: r = [47]
      · rw [if_pos c3] at k
        rw [if_pos (decide_eq_true c3)]
        simp only [a_ret, a_tup, a_cons', a_k, a_nil', dataOf, Option.map_some, Option.some.injEq, exists_eq_left', List.length_cons, List.length_nil, leave_same (Nat.le_refl _)]
        exact ⟨by decide, k⟩
      · rw [if_neg c3] at k
        rw [if_neg (by simpa using c3), a_sk]
        simp only
        simp only [a_ret, a_ite, a_call, a_cons', a_nil', a_slc, a_so, a_no, a_v, a_k, getV_cons0, getV_cons, post_ret, asOI]
        have es : ∀ {S : Sto} {q : W → Sto → Prop}, post (slcW (.d (T (47 :: r))) (some 1) none S) q = q (.d (T r)) S := fun {S q} => by
          show q (.d (.tuple (cut ((47 :: r).map PyData.int) (some 1) none))) S = _
          rw [cut1]; rfl
        simp only [es]
        refine name_ok hr (by simp only [List.length_cons] at hl; omega) ?_
        simp only [v_trB]
        have k' : q (.d (if (decide ((r.length : Int) ≤ 12) && (decide (r ≠ []) && r.all fits)) = true then .tuple [.str "file", T r] else .tuple [.str "strayed", .int 404])) S := k
        cases hb : (decide ((r.length : Int) ≤ 12) && (decide (r ≠ []) && r.all fits)) with
        | true =>
          rw [hb, if_pos rfl] at k'
          simp only [if_true, a_tup, a_cons', a_k, a_nil', a_slc, a_so, a_no, a_v, getV_cons0, getV_cons, post_ret, asOI, es, dataOf, Option.map_some, Option.some.injEq, exists_eq_left', List.length_cons, List.length_nil, leave_same (Nat.le_refl _)]
          exact ⟨by decide, k'⟩
        | false =>
          rw [hb, if_neg Bool.false_ne_true] at k'
          simp only [Bool.false_eq_true, if_false, a_tup, a_cons', a_k, a_nil', dataOf, Option.map_some, Option.some.injEq, exists_eq_left', List.length_cons, List.length_nil, leave_same (Nat.le_refl _)]
          exact ⟨by decide, k'⟩
    · rw [if_pos (by simpa using c2)] at k
      rw [if_pos (by simpa using c2)]
      simp only [a_ret, a_tup, a_cons', a_k, a_nil', dataOf, Option.map_some, Option.some.injEq, exists_eq_left', List.length_cons, List.length_nil, leave_same (Nat.le_refl _)]
      exact ⟨by decide, k⟩
end MP

namespace MP
open PySem L2 PySem.Spec PyProof.Rows
def oddC : EM := andM (notM (chM .le .le (kM (.int 97)) (vM 2) (kM (.int 122)))) (andM (notM (chM .le .le (kM (.int 48)) (vM 2) (kM (.int 57)))) (cmpM .ne (vM 2) (kM (.int 46))))
theorem oddC_ok {S : Sto} {q : Bool → Sto → Prop} {x0 x1 : Option W} {o : Int} (k : q (!fits o) S) : post (tst oddC [x0, x1, some (.d (.int o))] S) q := by
  unfold oddC
  simp only [post_bnd, post_ret, post_some, sq_ap, a_k, a_v, getV_cons0, getV_cons, a_bin, a_cmp, a_ch, a_neg, a_not, a_and, a_or, a_ite, a_sub, a_slc, a_no, a_so, a_nil', a_cons', a_tup, a_lst, a_nl, a_ndk, a_call, a_bi, a_isi, a_app, a_sd, a_tst, a_sk, a_brk, a_cnt, a_bad, a_ex, a_ret, a_retN, a_if, a_asg, a_par2, a_par3, a_set, a_for, a_seq, a_enum, a_rng1, a_rng2, a_lc, v_add, v_sub, v_band, v_neg, v_trB, v_trI, v_trN, v_lt, v_le, v_gt, v_ge, v_eqI, v_neI, v_eqS, v_neS, v_isn, v_isnn, v_int, v_abs, v_lenT, v_lenL, v_tupL, v_lstL, true_and, and_true, if_true, if_false, ite_true, ite_false, List.length_cons, List.length_nil, Option.map_some, Option.some.injEq, exists_eq_left', v_mul, v_fdiv, v_mod, v_pow, List.set_cons_zero, List.set_cons_succ, List.map_cons, List.map_nil, List.replicate_succ, List.replicate_zero, List.cons_append, List.nil_append, List.append_nil]
  unfold fits at k
  by_cases c1 : 97 ≤ o
  · simp only [decide_eq_true c1, if_true]
    by_cases c2 : o ≤ 122
    · simp [c1, c2] at k ⊢
      exact k
    · have c3 : 48 ≤ o := by omega
      have c4 : ¬ o ≤ 57 := by omega
      have c5 : ¬ o = 46 := by omega
      have c6 : (o == 46) = false := by simpa using c5
      simp [c2, c3, c4, c5, c6] at k ⊢
      exact k
  · simp only [decide_eq_false c1, Bool.false_eq_true, if_false]
    by_cases c3 : 48 ≤ o
    · by_cases c4 : o ≤ 57
      · simp [c1, c3, c4] at k ⊢
        exact k
      · have c5 : ¬ o = 46 := by omega
        have c6 : (o == 46) = false := by simpa using c5
        simp [c1, c3, c4, c5, c6] at k ⊢
        exact k
    · by_cases c5 : o = 46
      · subst c5
        simp at k ⊢
        exact k
      · have c6 : (o == 46) = false := by simpa using c5
        simp [c1, c3, c5, c6] at k ⊢
        exact k
def pI (p : Int → Bool) : D → Bool
  | .int o => p o
  | _ => false
theorem filter_I (p : Int → Bool) : ∀ xs : List Int, ((xs.map PyData.int).filter (pI p)).map id = (xs.filter p).map PyData.int
  | [] => rfl
  | x :: r => by
    rw [List.map_cons, List.filter_cons, List.filter_cons]
    show (if p x = true then _ else _ : List D).map id = _
    cases h : p x with
    | true => simp only [if_true, List.map_cons, filter_I p r]; rfl
    | false => simp only [Bool.false_eq_true, if_false, filter_I p r]
theorem shaped_L (xs : List Int) : SeqAt.shaped (.list (xs.map .int)) = true := by
  have e : (PyData.list (xs.map .int)).depth = 1 := by
    show PyData.depthAll _ + 1 = 1
    rw [depth_ints]
  unfold SeqAt.shaped
  rw [e, show (PyData.list (xs.map .int)).canLay0 = true from lay_ints xs]
  rfl
theorem eq_L (xs ys : List Int) : eqD (.list (xs.map .int)) (.list (ys.map .int)) = some (decide (xs = ys)) := by
  show (if SeqAt.shaped (.list (xs.map .int)) = true ∧ SeqAt.shaped (.list (ys.map .int)) = true then some (PyData.eqv (.list (xs.map .int)) (.list (ys.map .int))) else none) = _
  rw [if_pos ⟨shaped_L xs, shaped_L ys⟩]
  exact congrArg some (eqv_ints xs ys)
theorem ltgt_ok {S : Sto} {q : W → Sto → Prop} {xs : List Int} (hn : xs ≠ []) (hl : xs.length ≤ 40) (k : q (.d (targetR xs)) S) : post (m__law_target [.d (T xs)] S) q := by
  obtain ⟨x, r, rfl⟩ : ∃ x r, xs = x :: r := by
    cases xs with
    | nil => exact absurd rfl hn
    | cons x r => exact ⟨x, r, rfl⟩
  rw [List.length_cons] at hl
  have h0 : L2.atI ((x :: r).map PyData.int) 0 = some (.int x) := L2.atI_nat (j := 0) rfl
  have es : ∀ {S : Sto} {q : W → Sto → Prop}, post (slcW (.d (T (x :: r))) (some 1) none S) q = q (.d (T r)) S := fun {S q} => by
    show q (.d (.tuple (cut ((x :: r).map PyData.int) (some 1) none))) S = _
    rw [cut1]; rfl
  refine post_fn rfl ?_
  unfold b__law_target
  rw [sq_ap]
  simp only [a_if, a_cmp, a_tup, a_cons', a_nil', a_v, a_k, getV_cons0, getV_cons, List.map_cons, List.map_nil, List.cons_append, List.nil_append, List.replicate_succ, List.replicate_zero, post_ret, dataOf, Option.map_some, Option.some.injEq, exists_eq_left', List.length_cons, List.length_nil]
  refine ⟨by decide, ?_⟩
  have e42 : (PyData.tuple [.int 42] : D) = T [42] := rfl
  rw [e42]
  rw [v_eqD (eq_T (x :: r) [42])]
  simp only [v_trB]
  unfold targetR at k
  by_cases c : x :: r = [42]
  · rw [if_pos c] at k
    rw [if_pos (decide_eq_true c)]
    simp only [a_ret, a_tup, a_cons', a_k, a_nil', dataOf, Option.map_some, Option.some.injEq, exists_eq_left', List.length_cons, List.length_nil, leave_same (Nat.le_refl _)]
    exact ⟨by decide, k⟩
  · rw [if_neg c] at k
    rw [if_neg (by simpa using c), a_sk]
    simp only
    rw [sq_ap]
    simp only [a_if, a_cmp, a_sub, a_v, a_k, getV_cons0, getV_cons, post_ret]
    rw [v_ixT h0]
    simp only [v_neI, v_trB]
    by_cases c2 : x = 47
    · subst c2
      rw [if_neg (by simp)] at k
      rw [if_neg (by simp), a_sk]
      simp only
      rw [sq_ap]
      simp only [a_asg, a_lc, a_seq, a_slc, a_so, a_no, a_v, a_k, getV_cons0, getV_cons, post_ret, asOI, es]
      refine ⟨_, rfl, ?_⟩
      refine lc_filter (p := pI fun o => !fits o) (f := id) (r.map .int) ?_ ?_
      · intro y m q h
        obtain ⟨o, ho, rfl⟩ := List.mem_map.mp m
        unfold lcT
        have eb : bindP (.nm 2) (.d (.int o)) (wipeW [some (.d (T (47 :: r))), none, none] [2]) = some [some (.d (T (47 :: r))), none, some (.d (.int o))] := rfl
        rw [eb]
        rw [opt_some, bnd_ret, post_bnd]
        refine oddC_ok ?_
        have h : q (if (!fits o) = true then some (.int o) else none) S := h
        cases hb : (!fits o) with
        | true =>
          rw [hb] at h
          exact h
        | false =>
          rw [hb] at h
          exact h
      · rw [filter_I]
        have hfl := List.length_filter_le (fun o => !fits o) r
        refine ⟨by simp only [List.length_map]; show _ ≤ 16777216; omega, ?_⟩
        simp only [List.set_cons_zero, List.set_cons_succ]
        rw [sq_ap]
        simp only [a_if, a_cmp, a_tup, a_cons', a_nil', a_v, a_k, getV_cons0, getV_cons, post_ret, dataOf, Option.map_some, Option.some.injEq, exists_eq_left', List.length_cons, List.length_nil]
        refine ⟨by decide, ?_⟩
        have e47 : (PyData.tuple [.int 47] : D) = T [47] := rfl
        rw [e47, v_eqD (eq_T (47 :: r) [47])]
        simp only [v_trB]
        by_cases c3 : 47 :: r = [47]
        · rw [if_pos c3] at k
          rw [if_pos (decide_eq_true c3)]
          simp only [a_ret, a_tup, a_cons', a_k, a_nil', dataOf, Option.map_some, Option.some.injEq, exists_eq_left', List.length_cons, List.length_nil, leave_same (Nat.le_refl _)]
          exact ⟨by decide, k⟩
        · rw [if_neg c3] at k
          rw [if_neg (by simpa using c3), a_sk]
          simp only
          simp only [a_ret, a_ite, a_or, a_cmp, a_lst, a_nil', a_v, a_k, getV_cons0, getV_cons, post_ret, dataOf, Option.some.injEq, exists_eq_left', List.length_nil]
          refine ⟨by decide, ?_⟩
          have el : (PyData.list [] : D) = .list (([] : List Int).map .int) := rfl
          rw [el, v_neD (eq_L (r.filter fun o => !fits o) [])]
          simp only [v_trB]
          have rn : r ≠ [] := fun z => c3 (by rw [z])
          have hodd : decide ((r.filter fun o => !fits o) = []) = r.all fits := by
            rw [Bool.eq_iff_iff]
            simp [List.filter_eq_nil_iff]
          rw [hodd]
          have k' : q (.d (if (decide ((r.length : Int) ≤ 12) && (decide (r ≠ []) && r.all fits)) = true then .tuple [.str "file", T r] else .tuple [.str "strayed", .int 404])) S := k
          rw [show decide (r ≠ []) = true by simpa using rn, Bool.true_and] at k'
          have bad : q (.d (.tuple [.str "strayed", .int 404])) S → post (tupM (consM (kM (.str "strayed")) (consM (kM (.int 404)) (nilM))) [some (.d (T (47 :: r))), some (.d (.list ((r.filter fun o => !fits o).map .int))), none] S) (fun w S1 => q w (leave S.length w S1)) := fun h => by
            simp only [a_tup, a_cons', a_k, a_nil', dataOf, Option.map_some, Option.some.injEq, exists_eq_left', List.length_cons, List.length_nil, leave_same (Nat.le_refl _)]
            exact ⟨by decide, h⟩
          cases hb : r.all fits with
          | false =>
            rw [hb, Bool.and_false, if_neg Bool.false_ne_true] at k'
            simp only [Bool.not_false, if_true, v_trB]
            exact bad k'
          | true =>
            rw [hb, Bool.and_true] at k'
            simp only [Bool.not_true, Bool.false_eq_true, if_false, a_bi, a_cons', a_nil', a_v, getV_cons0, getV_cons, post_ret, v_lenT, v_gt, v_trB, List.length_map, List.length_cons]
            by_cases c4 : (r.length : Int) ≤ 12
            · rw [if_pos (decide_eq_true c4)] at k'
              rw [if_neg (by simp; omega)]
              simp only [a_tup, a_cons', a_k, a_nil', a_slc, a_so, a_no, a_v, getV_cons0, getV_cons, post_ret, asOI, es, dataOf, Option.map_some, Option.some.injEq, exists_eq_left', List.length_cons, List.length_nil, leave_same (Nat.le_refl _)]
              exact ⟨by decide, k'⟩
            · rw [if_neg (by simpa using c4)] at k'
              rw [if_pos (by simp; omega)]
              exact bad k'
    · rw [if_pos (by simpa using c2)] at k
      rw [if_pos (by simpa using c2)]
      simp only [a_ret, a_tup, a_cons', a_k, a_nil', dataOf, Option.map_some, Option.some.injEq, exists_eq_left', List.length_cons, List.length_nil, leave_same (Nat.le_refl _)]
      exact ⟨by decide, k⟩
end MP

namespace MP
open PySem L2 PySem.Spec PyProof.Rows
/-! ### tags -/
theorem v_catS {S : Sto} {q : W → Sto → Prop} {x y : Str} (h : x.length + y.length ≤ SZ) : post (binW .add (.d (.str x)) (.d (.str y)) S) q = q (.d (.str (x ++ y))) S := bin_pos (if_pos h)
theorem v_catT {S : Sto} {q : W → Sto → Prop} {xs ys : List Int} (h : xs.length + ys.length ≤ 1000000) : post (binW .add (.d (T xs)) (.d (T ys)) S) q = q (.d (T (xs ++ ys))) S := by
  rw [v_cat (by rw [List.length_map, List.length_map]; show _ ≤ 16777216; omega), ← List.map_append]
theorem v_str {S : Sto} {q : W → Sto → Prop} {v : Int} (h : v.natAbs.log2 < 1920) : post (b1W .str [.d (.int v)] S) q = q (.d (.str (toString v : String))) S := by
  refine v_b1 (xs := [.int v]) (by decide) (by decide) ?_
  have e : strD (.int v) = some ((toString v : String) : Str) := by
    show (if v.natAbs.log2 < 1920 then some ((toString v : String) : Str) else none) = _
    rw [if_pos h]
  show (strD (.int v)).map PyData.str = _
  rw [e]; rfl
def txt (v : Int) : Str := (toString v : String)
theorem cpsI_app (x y : Str) : cpsI (x ++ y) = cpsI x ++ cpsI y := by
  unfold cpsI
  rw [show (x ++ y).cps = x.cps ++ y.cps from rfl, Array.toList_append, List.map_append]
theorem txt_len {v : Int} (h0 : 0 ≤ v) (h : v < 10 ^ 16) : (txt v).length ≤ 16 := toString_length_le h0 (by decide) h
theorem cpsI_len (x : Str) : (cpsI x).length = x.length := by
  unfold cpsI
  rw [List.length_map, Array.length_toList]; rfl
theorem txt_oct (v : Int) : oct (cpsI (txt v)) := by
  intro o m
  obtain ⟨c, hc, rfl⟩ := List.mem_map.mp m
  have h : ¬ (c ≠ 45 ∧ (c < 48 ∨ 57 < c)) := fun z => int_text_free' c z v hc
  omega
theorem log_small {v : Int} (h0 : 0 ≤ v) (h : v < 10 ^ 16) : v.natAbs.log2 < 1920 := by
  by_cases z : v.natAbs = 0
  · rw [z]; decide
  · have := (Nat.log2_lt z (k := 60)).mpr (by omega)
    omega
def tagI (v : Int) : List Int := 34 :: 118 :: (cpsI (txt v) ++ [34])
theorem tag_len {v : Int} (h0 : 0 ≤ v) (h : v < 10 ^ 16) : (tagI v).length ≤ 19 := by
  unfold tagI
  have := txt_len h0 h
  simp only [List.length_cons, List.length_append, cpsI_len, List.length_nil]
  omega
theorem tag_oct (v : Int) : oct (tagI v) := by
  intro o m
  unfold tagI at m
  rcases List.mem_cons.mp m with e | m
  · omega
  · rcases List.mem_cons.mp m with e | m
    · omega
    · rcases List.mem_append.mp m with m | m
      · exact txt_oct v o m
      · have e := List.mem_singleton.mp m
        omega
theorem tag_ok {S : Sto} {q : W → Sto → Prop} {v : Int} (h0 : 0 ≤ v) (h : v ≤ 1000000000000000) (k : q (.d (T (tagI v))) S) : post (m_tag_of [.d (.int v)] S) q := by
  have hl := txt_len h0 (show v < 10 ^ 16 by omega)
  refine post_fn rfl ?_
  unfold b_tag_of
  rw [sq_ap]
  simp only [a_ex, a_call, a_cons', a_v, a_k, a_nil', getV_cons0, getV_cons, List.map_cons, List.map_nil, List.cons_append, List.nil_append, List.replicate_succ, List.replicate_zero, post_ret]
  refine whole_ok ⟨h0, h⟩ ?_
  simp only [a_ret, a_call, a_cons', a_bin, a_bi, a_v, a_k, a_nil', getV_cons0, getV_cons, post_ret]
  rw [v_str (log_small h0 (by omega))]
  have l1 : (("\"v" : String) : Str).length = 2 := rfl
  have l2 : (("\"" : String) : Str).length = 1 := rfl
  have hl' : ((toString v : String) : Str).length ≤ 16 := hl
  rw [v_catS (by rw [l1]; show _ ≤ 16777216; omega)]
  rw [v_catS (by rw [Str.length_append, l1, l2]; show _ ≤ 16777216; omega)]
  refine text_ok ?_ ?_
  · rw [Array.length_toList]
    show (((("\"v" : String) : Str) ++ ((toString v : String) : Str)) ++ (("\"" : String) : Str)).length ≤ 1000
    rw [Str.length_append, Str.length_append, l1, l2]; omega
  · rw [cpsI_app, cpsI_app, leave_same (Nat.le_refl _)]
    exact k
theorem ltag_ok {S : Sto} {q : W → Sto → Prop} {v : Int} (h0 : 0 ≤ v) (h : v < 10 ^ 16) (k : q (.d (T (tagI v))) S) : post (m__law_tag [.d (.int v)] S) q := by
  have hl := txt_len h0 h
  refine post_fn rfl ?_
  unfold b__law_tag
  simp only [a_ret, a_bin, a_tup, a_call, a_cons', a_bi, a_v, a_k, a_nil', getV_cons0, getV_cons, List.map_cons, List.map_nil, List.cons_append, List.nil_append, List.replicate_succ, List.replicate_zero, post_ret, dataOf, Option.map_some, Option.some.injEq, exists_eq_left', List.length_cons, List.length_nil]
  refine ⟨by decide, ?_⟩
  rw [v_str (log_small h0 h)]
  have l1 : (("v" : String) : Str).length = 1 := rfl
  have hl' : ((toString v : String) : Str).length ≤ 16 := hl
  rw [v_catS (by rw [l1]; show _ ≤ 16777216; omega)]
  refine ltext_ok ?_ ?_
  · rw [Array.length_toList]
    show ((("v" : String) : Str) ++ ((toString v : String) : Str)).length ≤ 1000
    rw [Str.length_append, l1]; omega
  · have e34 : (PyData.tuple [.int 34] : D) = T [34] := rfl
    have lc : (cpsI ((("v" : String) : Str) ++ ((toString v : String) : Str))).length ≤ 17 := by rw [cpsI_len, Str.length_append, l1]; omega
    rw [e34, v_catT (by simp only [List.length_cons, List.length_nil]; omega), v_catT (by simp only [List.length_append, List.length_cons, List.length_nil]; omega), leave_same (Nat.le_refl _), cpsI_app]
    exact ⟨by decide, k⟩
def verW : Option Int → W
  | none => .d .none
  | some v => .d (.int v)
def fitR (xs : List Int) : Option Int → Bool
  | none => false
  | some v => decide (xs = [42]) || decide (xs = tagI v)
theorem fit_ok {S : Sto} {q : W → Sto → Prop} {xs : List Int} {ver : Option Int} (hx : oct xs) (hl : xs.length ≤ 100) (hv : ∀ v, ver = some v → 1 ≤ v ∧ v ≤ 1000000000000000) (k : q (.d (.bool (fitR xs ver))) S) : post (m_fits_tag [.d (T xs), verW ver] S) q := by
  refine post_fn rfl ?_
  unfold b_fits_tag
  rw [sq_ap]
  simp only [a_ex, a_call, a_cons', a_v, a_k, a_nil', getV_cons0, getV_cons, List.map_cons, List.map_nil, List.cons_append, List.nil_append, List.replicate_succ, List.replicate_zero, post_ret]
  refine need_ok hx ⟨by omega, by omega, by omega⟩ ?_
  rw [sq_ap]
  simp only [a_if, a_cmp, a_v, a_k, getV_cons0, getV_cons, post_ret, v_isn, v_trB]
  cases ver with
  | none =>
    simp only [verW, isNone, if_true, a_ret, a_k, leave_same (Nat.le_refl _)]
    exact k
  | some v =>
    obtain ⟨v1, v2⟩ := hv v rfl
    simp only [verW, isNone, Bool.false_eq_true, if_false, a_sk]
    rw [sq_ap]
    simp only [a_ex, a_call, a_cons', a_v, a_k, a_nil', getV_cons0, getV_cons, post_ret]
    refine whole_ok ⟨v1, v2⟩ ?_
    simp only [a_ret, a_or, a_cmp, a_v, a_k, getV_cons0, getV_cons, post_ret]
    have e42 : (PyData.tuple [.int 42] : D) = T [42] := rfl
    rw [e42, v_eqD (eq_T xs [42])]
    simp only [v_trB]
    have k : q (.d (.bool (decide (xs = [42]) || decide (xs = tagI v)))) S := k
    cases hb : decide (xs = [42]) with
    | true =>
      rw [hb, Bool.true_or] at k
      simp only [if_true, leave_same (Nat.le_refl _)]
      exact k
    | false =>
      rw [hb, Bool.false_or] at k
      simp only [Bool.false_eq_true, if_false, a_call, a_cons', a_v, a_nil', getV_cons0, getV_cons, post_ret]
      refine tag_ok (by omega) v2 ?_
      rw [v_eqD (eq_T xs (tagI v)), leave_same (Nat.le_refl _)]
      exact k
theorem lfit_ok {S : Sto} {q : W → Sto → Prop} {xs : List Int} {ver : Option Int} (hv : ∀ v, ver = some v → 1 ≤ v ∧ v ≤ 1000000000000000) (k : q (.d (.bool (fitR xs ver))) S) : post (m__law_fits [.d (T xs), verW ver] S) q := by
  refine post_fn rfl ?_
  unfold b__law_fits
  simp only [a_ret, a_and, a_cmp, a_v, a_k, getV_cons0, getV_cons, List.map_cons, List.map_nil, List.cons_append, List.nil_append, List.replicate_succ, List.replicate_zero, post_ret, v_isnn, v_trB]
  cases ver with
  | none =>
    simp only [verW, isNone, Bool.not_true, Bool.false_eq_true, if_false, leave_same (Nat.le_refl _)]
    exact k
  | some v =>
    obtain ⟨v1, v2⟩ := hv v rfl
    simp only [verW, isNone, Bool.not_false, if_true, a_or, a_cmp, a_v, a_tup, a_cons', a_k, a_nil', getV_cons0, getV_cons, post_ret, dataOf, Option.map_some, Option.some.injEq, exists_eq_left', List.length_cons, List.length_nil]
    refine ⟨by decide, ?_⟩
    have e42 : (PyData.tuple [.int 42] : D) = T [42] := rfl
    rw [e42, v_eqD (eq_T xs [42])]
    simp only [v_trB]
    have k : q (.d (.bool (decide (xs = [42]) || decide (xs = tagI v)))) S := k
    cases hb : decide (xs = [42]) with
    | true =>
      rw [hb, Bool.true_or] at k
      simp only [if_true, leave_same (Nat.le_refl _)]
      exact k
    | false =>
      rw [hb, Bool.false_or] at k
      simp only [Bool.false_eq_true, if_false, a_call, a_cons', a_v, a_nil', getV_cons0, getV_cons, post_ret]
      refine ltag_ok (by omega) (by omega) ?_
      rw [v_eqD (eq_T xs (tagI v)), leave_same (Nat.le_refl _)]
      exact k
end MP

namespace MP
open PySem L2 PySem.Spec PyProof.Rows
/-! ### digits -/
def dg (o : Int) : Bool := decide (48 ≤ o) && decide (o ≤ 57)
def digI (f : Int) (xs : List Int) : Int := xs.foldl (fun f o => f * 10 + o - 48) f
def told1 (xs : List Int) : Option Int := if (decide (1 ≤ xs.length ∧ xs.length ≤ 6) && xs.all dg) = true then some (digI 0 xs) else none
def digB : SM := asgM (.nm 1) (binM .sub (binM .add (binM .mul (vM 1) (kM (.int 10))) (vM 2)) (kM (.int 48)))
theorem dig_loop {S : Sto} {Q : Fl → Sto → Prop} {x0 : Option W} : ∀ (xs : List Int) (f : Int) (x2 : Option W), (∀ y2, Q (.nx [x0, some (.d (.int (digI f xs))), y2]) S) → post (forM (.nm 2) digB (xs.map .int) [x0, some (.d (.int f)), x2] S) Q
  | [], f, x2, k => k x2
  | o :: r, f, x2, k => by
    rw [List.map_cons, for_cons]
    refine ⟨_, rfl, ?_⟩
    conv => arg 1; unfold digB
    simp (disch := omega) only [post_bnd, post_ret, post_some, sq_ap, a_k, a_v, getV_cons0, getV_cons, a_bin, a_cmp, a_ch, a_neg, a_not, a_and, a_or, a_ite, a_sub, a_slc, a_no, a_so, a_nil', a_cons', a_tup, a_lst, a_nl, a_ndk, a_call, a_bi, a_isi, a_app, a_sd, a_tst, a_sk, a_brk, a_cnt, a_bad, a_ex, a_ret, a_retN, a_if, a_asg, a_par2, a_par3, a_set, a_for, a_seq, a_enum, a_rng1, a_rng2, a_lc, v_add, v_sub, v_band, v_neg, v_trB, v_trI, v_trN, v_lt, v_le, v_gt, v_ge, v_eqI, v_neI, v_eqS, v_neS, v_isn, v_isnn, v_int, v_abs, v_lenT, v_lenL, v_tupL, v_lstL, true_and, and_true, if_true, if_false, ite_true, ite_false, List.length_cons, List.length_nil, Option.map_some, Option.some.injEq, exists_eq_left', v_mul, v_fdiv, v_mod, v_pow, List.set_cons_zero, List.set_cons_succ, List.map_cons, List.map_nil, List.replicate_succ, List.replicate_zero, List.cons_append, List.nil_append, List.append_nil]
    exact dig_loop r _ _ k
theorem ldig_ok {S : Sto} {q : W → Sto → Prop} {xs : List Int} (k : q (.d (.int (digI 0 xs))) S) : post (m__law_digits [.d (T xs)] S) q := by
  refine post_fn rfl ?_
  have e : b__law_digits = sq (asgM (.nm 1) (kM (.int 0))) (sq (foM (.nm 2) (seqI (vM 0)) digB) (retM (vM 1))) := rfl
  rw [e, sq_ap]
  simp only [a_asg, a_k, List.map_cons, List.map_nil, List.cons_append, List.nil_append, List.replicate_succ, List.replicate_zero, List.set_cons_zero, List.set_cons_succ]
  rw [sq_ap]
  simp only [a_for, a_seq, a_v, getV_cons0, getV_cons, post_ret]
  refine ⟨_, rfl, dig_loop xs 0 _ fun y2 => ?_⟩
  simp only [a_ret, a_v, getV_cons0, getV_cons, post_ret, leave_same (Nat.le_refl _)]
  exact k
def optW : Option Int → W
  | none => .d .none
  | some v => .d (.int v)
def gDg : D → D
  | .int o => .bool (dg o)
  | _ => .none
theorem told_ok {S : Sto} {q : W → Sto → Prop} {xs : List Int} (hl : xs.length ≤ 1000) (k : q (optW (told1 xs)) S) : post (m_digits_told [.d (T xs)] S) q := by
  refine post_fn rfl ?_
  have e : b_digits_told = sq (ifM (orM (notM (chM .le .le (kM (.int 1)) (biM .len (consM (vM 0) (nilM))) (kM (.int 6)))) (notM (biM .all (consM (lcE (seqI (vM 0)) (.nm 2) [2] (yesM) (chM .le .le (kM (.int 48)) (vM 2) (kM (.int 57)))) (nilM))))) (retM (kM .none)) (skM)) (sq (asgM (.nm 1) (kM (.int 0))) (sq (foM (.nm 2) (seqI (vM 0)) digB) (retM (vM 1)))) := rfl
  rw [e, sq_ap]
  have fin : (told1 xs = some (digI 0 xs)) → post (sq (asgM (.nm 1) (kM (.int 0))) (sq (foM (.nm 2) (seqI (vM 0)) digB) (retM (vM 1))) [some (.d (T xs)), none, none] S) (fun f S' => match f with
      | .nx _ => q (.d .none) (leave S.length (.d .none) S')
      | .rt w => q w (leave S.length w S')
      | _ => False) := by
    intro ht
    rw [sq_ap]
    simp only [a_asg, a_k, List.set_cons_zero, List.set_cons_succ]
    rw [sq_ap]
    simp only [a_for, a_seq, a_v, getV_cons0, getV_cons, post_ret]
    refine ⟨_, rfl, dig_loop xs 0 _ fun y2 => ?_⟩
    simp only [a_ret, a_v, getV_cons0, getV_cons, post_ret, leave_same (Nat.le_refl _)]
    rw [ht] at k
    exact k
  have no : told1 xs = none → q (.d .none) S := fun h => by rw [h] at k; exact k
  simp only [a_if, a_or, a_not, a_ch, a_bi, a_cons', a_v, a_k, a_nil', getV_cons0, getV_cons, List.map_cons, List.map_nil, List.cons_append, List.nil_append, List.replicate_succ, List.replicate_zero, post_ret, v_lenT, v_le, v_trB, List.length_map]
  by_cases c1 : 1 ≤ xs.length
  · rw [if_pos (by simp; omega)]
    by_cases c2 : xs.length ≤ 6
    · rw [show decide ((xs.length : Int) ≤ 6) = true by simp; omega]
      simp only [v_trB, Bool.not_true, Bool.false_eq_true, if_false, a_lc, a_seq, a_v, getV_cons0, getV_cons, post_ret]
      refine ⟨_, rfl, ?_⟩
      refine lc_map (f := gDg) (xs.map .int) ?_ ?_
      · intro x m q h
        obtain ⟨o, ho, rfl⟩ := List.mem_map.mp m
        unfold lcT
        have eb : bindP (.nm 2) (.d (.int o)) (wipeW [some (.d (T xs)), none, none] [2]) = some [some (.d (T xs)), none, some (.d (.int o))] := rfl
        rw [eb]
        simp only [opt_some, bnd_ret, yesM, if_true, post_bnd, a_ch, a_v, a_k, getV_cons0, getV_cons, post_ret, v_le]
        have h : q (some (.bool (dg o))) S := h
        unfold dg at h
        cases hb : decide (48 ≤ o) with
        | true =>
          rw [hb] at h
          exact h
        | false =>
          rw [hb] at h
          exact h
      · refine ⟨by simp only [List.length_map]; show _ ≤ 16777216; omega, ?_⟩
        rw [List.map_map]
        have e1 : xs.map (gDg ∘ PyData.int) = xs.map fun x => (PyData.bool (dg x) : D) := rfl
        rw [e1, v_all dg xs]
        simp only [v_trB]
        cases hb : xs.all dg with
        | true =>
          simp only [Bool.not_true, Bool.false_eq_true, if_false, a_sk]
          refine fin ?_
          unfold told1
          rw [hb, decide_eq_true ⟨c1, c2⟩]
          rfl
        | false =>
          simp only [Bool.not_false, if_true, a_ret, a_k, leave_same (Nat.le_refl _)]
          refine no ?_
          unfold told1
          rw [hb, Bool.and_false]
          rfl
    · rw [show decide ((xs.length : Int) ≤ 6) = false by simp; omega]
      simp only [v_trB, Bool.not_false, if_true, a_ret, a_k, leave_same (Nat.le_refl _)]
      refine no ?_
      unfold told1
      rw [decide_eq_false (fun z => c2 z.2)]
      rfl
  · rw [if_neg (by simp; omega)]
    simp only [v_trB, Bool.not_false, if_true, a_ret, a_k, leave_same (Nat.le_refl _)]
    refine no ?_
    unfold told1
    rw [decide_eq_false (fun z => c1 z.1)]
    rfl
/-! ### the dashes -/
def dashes : Nat → List Int → List Int
  | _, [] => []
  | k, o :: r => if o = 45 then (k : Int) :: dashes (k + 1) r else dashes (k + 1) r
theorem dashes_none : ∀ (xs : List Int) (k : Nat), dashes k xs = [] ↔ 45 ∉ xs
  | [], k => by simp [dashes]
  | o :: r, k => by
    unfold dashes
    have ih := dashes_none r (k + 1)
    by_cases c : o = 45
    · rw [if_pos c]; simp [c]
    · rw [if_neg c, ih]
      have : ¬ 45 = o := fun z => c z.symm
      simp [this]
theorem dashes_first : ∀ (xs : List Int) (k : Nat) (p : Int) (more : List Int), dashes k xs = p :: more → ∃ a b, xs = a ++ 45 :: b ∧ p = (k + a.length : Nat) ∧ (more = [] ↔ 45 ∉ b)
  | [], k, p, more, h => by cases h
  | o :: r, k, p, more, h => by
    unfold dashes at h
    by_cases c : o = 45
    · rw [if_pos c] at h
      have e1 : (k : Int) = p := (List.cons.inj h).1
      have e2 : dashes (k + 1) r = more := (List.cons.inj h).2
      refine ⟨[], r, by rw [c]; rfl, by rw [← e1]; rfl, ?_⟩
      rw [← e2]
      exact dashes_none r (k + 1)
    · rw [if_neg c] at h
      obtain ⟨a, b, h1, h2, h3⟩ := dashes_first r (k + 1) p more h
      refine ⟨o :: a, b, by rw [h1]; rfl, ?_, h3⟩
      rw [h2, List.length_cons]
      omega
theorem dashes_len : ∀ (xs : List Int) (k : Nat), (dashes k xs).length ≤ xs.length
  | [], k => Nat.le_refl _
  | o :: r, k => by
    unfold dashes
    have := dashes_len r (k + 1)
    split
    · simp only [List.length_cons]; omega
    · simp only [List.length_cons]; omega
end MP

namespace MP
open PySem L2 PySem.Spec PyProof.Rows
theorem cut_map {α β : Type} (f : α → β) (xs : List α) (lo hi : Option Int) : cut (xs.map f) lo hi = (cut xs lo hi).map f := by
  unfold cut
  rw [List.map_take, List.map_drop, List.length_map]
theorem v_slT {S : Sto} {q : W → Sto → Prop} {xs : List Int} {lo hi : Option Int} : post (slcW (.d (T xs)) lo hi S) q = q (.d (T (cut xs lo hi))) S := by
  show q (.d (.tuple (cut (xs.map PyData.int) lo hi))) S = _
  rw [cut_map]
theorem cutTo {α : Type} {xs : List α} {n : Nat} : cut xs none (some (n : Int)) = xs.take n := by
  unfold cut
  rw [HT.sIx_nat, HT.sIx_none, List.drop_zero, Nat.sub_zero]
  by_cases h : n ≤ xs.length
  · rw [Nat.min_eq_left h]
  · rw [Nat.min_eq_right (by omega), List.take_of_length_le (Nat.le_refl _), List.take_of_length_le (by omega)]
theorem cutFrom {α : Type} {xs : List α} {n : Nat} : cut xs (some (n : Int)) none = xs.drop n := by
  unfold cut
  rw [HT.sIx_nat, HT.sIx_none]
  by_cases h : n ≤ xs.length
  · rw [Nat.min_eq_left h, List.take_of_length_le (by rw [List.length_drop]; omega)]
  · rw [Nat.min_eq_right (by omega), Nat.sub_self, List.take_zero, List.drop_of_length_le (by omega)]
theorem in_T (xs : List Int) : inD (.int 45) (T xs) = some (decide (45 ∈ xs)) := by
  show (if SeqAt.shaped (.int 45) = true ∧ SeqAt.shaped (.tuple (xs.map .int)) = true then some ((xs.map PyData.int).any fun z => PyData.eqv z (.int 45)) else none) = _
  rw [if_pos ⟨rfl, shaped_ints xs⟩]
  congr 1
  rw [List.any_map, Bool.eq_iff_iff]
  simp only [List.any_eq_true, decide_eq_true_eq, Function.comp_apply]
  constructor
  · rintro ⟨x, hx, e⟩
    have e : (x == (45 : Int)) = true := e
    rw [← eq_of_beq e]
    exact hx
  · intro h
    exact ⟨45, h, rfl⟩
theorem v_ninT {S : Sto} {q : Bool → Sto → Prop} {xs : List Int} : post (cmpW .nin (.d (.int 45)) (.d (T xs)) S) q = q (!decide (45 ∈ xs)) S := by
  show post ((inD (.int 45) (T xs)).map fun b => .ok (!b) S) q = _
  rw [in_T]; rfl
/-! the places of the dashes, in both readings -/
def pE : D → Bool
  | .tuple [_, .int o] => o == 45
  | _ => false
def fE : D → D
  | .tuple (y :: _) => y
  | _ => .none
theorem enum_mem : ∀ (xs : List Int) (n : Nat) (x : D), x ∈ enumD n (xs.map .int) → ∃ (i : Nat) (o : Int), x = .tuple [.int (i : Int), .int o]
  | [], n, x, m => by cases m
  | o :: r, n, x, m => by
    rcases List.mem_cons.mp (show x ∈ (.tuple [.int (n : Nat), .int o] : D) :: enumD (n + 1) (r.map .int) from m) with e | m
    · exact ⟨n, o, e⟩
    · exact enum_mem r (n + 1) x m
theorem enum_filter : ∀ (xs : List Int) (n : Nat), ((enumD n (xs.map PyData.int)).filter pE).map fE = (dashes n xs).map PyData.int
  | [], n => rfl
  | o :: r, n => by
    show (List.filter pE ((.tuple [.int (n : Nat), .int o] : D) :: enumD (n + 1) (r.map .int))).map fE = _
    rw [List.filter_cons]
    show (if (o == 45) = true then _ else _ : List D).map fE = _
    have ih := enum_filter r (n + 1)
    unfold dashes
    by_cases c : o = 45
    · rw [if_pos (by simpa using c), if_pos c, List.map_cons, ih]; rfl
    · rw [if_neg (by simpa using c), if_neg c, ih]
def pR (xs : List Int) : D → Bool
  | .int i => xs[i.toNat]? == some 45
  | _ => false
theorem range_filter : ∀ (xs pre : List Int), (((List.range' pre.length xs.length).map fun (i : Nat) => (PyData.int (i : Int) : D)).filter (pR (pre ++ xs))).map id = (dashes pre.length xs).map PyData.int
  | [], pre => rfl
  | o :: r, pre => by
    rw [List.length_cons, List.range'_succ, List.map_cons, List.filter_cons]
    have hp : pR (pre ++ o :: r) (.int (pre.length : Int)) = (o == 45) := by
      show ((pre ++ o :: r)[((pre.length : Nat) : Int).toNat]? == some 45) = _
      rw [Int.toNat_natCast, List.getElem?_append_right (Nat.le_refl _), Nat.sub_self]
      rfl
    rw [hp]
    have ih := range_filter r (pre ++ [o])
    rw [List.length_append, List.length_singleton, List.append_assoc] at ih
    have ih : (((List.range' (pre.length + 1) r.length).map fun (i : Nat) => (PyData.int (i : Int) : D)).filter (pR (pre ++ o :: r))).map id = (dashes (pre.length + 1) r).map PyData.int := ih
    unfold dashes
    by_cases c : o = 45
    · rw [if_pos (by simpa using c), if_pos c, List.map_cons, ih]; rfl
    · rw [if_neg (by simpa using c), if_neg c, ih]
/-! ### the parts -/
def AH : List Int := [98, 121, 116, 101, 115, 61]
def okp (o : List Int) : Bool := decide (o = []) || (told1 o).isSome
def partsR (xs : List Int) : Option (List Int × List Int) :=
  if xs.take 6 = AH then match dashes 0 (xs.drop 6) with
    | [] => none
    | p :: _ => if (xs.drop 6).take p.toNat = [] ∧ (xs.drop 6).drop (p.toNat + 1) = [] then none else
      if (okp ((xs.drop 6).take p.toNat) && okp ((xs.drop 6).drop (p.toNat + 1))) = true then some ((xs.drop 6).take p.toNat, (xs.drop 6).drop (p.toNat + 1)) else none
  else none
def partsD : Option (List Int × List Int) → D
  | none => .none
  | some (a, b) => .tuple [T a, T b]
def pTail : SM := (sq (ifM (andM (cmpM .eq (vM 3) (tupM (nilM))) (cmpM .eq (vM 4) (tupM (nilM)))) (retM (kM .none)) (skM)) (sq (asgM (.nm 5) (lcE (seqI (tupM (consM (vM 3) (consM (vM 4) (nilM))))) (.nm 8) [8] (yesM) (orM (cmpM .eq (vM 8) (tupM (nilM))) (cmpM .isnn (callM m_digits_told (consM (vM 8) (nilM))) (kM .none))))) (retM (iteM (biM .all (consM (vM 5) (nilM))) (tupM (consM (vM 3) (consM (vM 4) (nilM)))) (kM .none)))))
theorem v_eqT0 {S : Sto} {q : Bool → Sto → Prop} {xs : List Int} : post (cmpW .eq (.d (T xs)) (.d (.tuple [])) S) q = q (decide (xs = [])) S := v_eqD (eq_T xs [])
theorem v_neT0 {S : Sto} {q : Bool → Sto → Prop} {xs : List Int} : post (cmpW .ne (.d (T xs)) (.d (.tuple [])) S) q = q (!decide (xs = [])) S := v_neD (eq_T xs [])
theorem optW_some {o : Option Int} : (!isNone (optW o)) = o.isSome := by cases o <;> rfl
theorem pTail_ok {S : Sto} {x0 x1 x2 x5 x6 x7 x8 : Option W} {a b : List Int} {Q : Fl → Sto → Prop} (ha : a.length ≤ 1000) (hb : b.length ≤ 1000)
    (k : Q (.rt (.d (partsD (if a = [] ∧ b = [] then none else if (okp a && okp b) = true then some (a, b) else none)))) S) : post (pTail [x0, x1, x2, some (.d (T a)), some (.d (T b)), x5, x6, x7, x8] S) Q := by
  unfold pTail
  rw [sq_ap]
  simp only [a_if, a_and, a_cmp, a_tup, a_nil', a_v, getV_cons0, getV_cons, post_ret, dataOf, Option.some.injEq, exists_eq_left', List.length_nil]
  refine ⟨by decide, ?_⟩
  rw [v_eqT0]
  simp only [v_trB]
  have rest : ¬ (a = [] ∧ b = []) → post (sq (asgM (.nm 5) (lcE (seqI (tupM (consM (vM 3) (consM (vM 4) (nilM))))) (.nm 8) [8] (yesM) (orM (cmpM .eq (vM 8) (tupM (nilM))) (cmpM .isnn (callM m_digits_told (consM (vM 8) (nilM))) (kM .none))))) (retM (iteM (biM .all (consM (vM 5) (nilM))) (tupM (consM (vM 3) (consM (vM 4) (nilM)))) (kM .none))) [x0, x1, x2, some (.d (T a)), some (.d (T b)), x5, x6, x7, x8] S) Q := by
    intro hne
    rw [if_neg hne] at k
    rw [sq_ap]
    simp only [a_asg, a_lc, a_seq, a_tup, a_cons', a_nil', a_v, getV_cons0, getV_cons, post_ret, dataOf, Option.map_some, Option.some.injEq, exists_eq_left', List.length_cons, List.length_nil]
    refine ⟨by decide, _, rfl, ?_⟩
    have turn : ∀ (xs : List Int) (q : Option D → Sto → Prop), xs.length ≤ 1000 → q (some (.bool (okp xs))) S → post (lcT (.nm 8) [8] yesM (orM (cmpM .eq (vM 8) (tupM (nilM))) (cmpM .isnn (callM m_digits_told (consM (vM 8) (nilM))) (kM .none))) [x0, x1, x2, some (.d (T a)), some (.d (T b)), x5, x6, x7, x8] (T xs) S) q := by
      intro xs q hl h
      unfold lcT
      have eb : bindP (.nm 8) (.d (T xs)) (wipeW [x0, x1, x2, some (.d (T a)), some (.d (T b)), x5, x6, x7, x8] [8]) = some [x0, x1, x2, some (.d (T a)), some (.d (T b)), x5, x6, x7, some (.d (T xs))] := rfl
      rw [eb]
      simp only [opt_some, bnd_ret, yesM, if_true, post_bnd, a_or, a_cmp, a_v, a_tup, a_nil', a_k, getV_cons0, getV_cons, post_ret, dataOf, Option.some.injEq, exists_eq_left', List.length_nil]
      refine ⟨by decide, ?_⟩
      rw [v_eqT0]
      simp only [v_trB]
      unfold okp at h
      cases hx : decide (xs = []) with
      | true =>
        rw [hx] at h
        exact h
      | false =>
        rw [hx, Bool.false_or] at h
        simp only [Bool.false_eq_true, if_false, a_call, a_cons', a_v, a_nil', getV_cons0, getV_cons, post_ret]
        refine told_ok hl ?_
        simp only [v_isnn, optW_some]
        exact h
    unfold lcM
    rw [post_bnd]
    refine turn a _ ha ?_
    rw [post_bnd]
    unfold lcM
    rw [post_bnd]
    refine turn b _ hb ?_
    rw [post_bnd]
    refine ⟨by show 2 ≤ 16777216; omega, ?_⟩
    simp only [List.set_cons_zero, List.set_cons_succ, a_ret, a_ite, a_bi, a_cons', a_nil', a_v, getV_cons0, getV_cons, post_ret]
    have eall : ∀ {q : W → Sto → Prop}, post (b1W .all [.d (.list [.bool (okp a), .bool (okp b)])] S) q = q (.d (.bool (okp a && okp b))) S := by
      intro q
      have e := v_all (S := S) (q := q) (fun x => x) [okp a, okp b]
      simp only [List.map_cons, List.map_nil, List.all_cons, List.all_nil, Bool.and_true] at e
      exact e
    rw [eall]
    simp only [v_trB]
    cases hf : (okp a && okp b) with
    | true =>
      rw [hf, if_pos rfl] at k
      simp only [if_true, a_tup, a_cons', a_nil', a_v, getV_cons0, getV_cons, post_ret, dataOf, Option.map_some, Option.some.injEq, exists_eq_left', List.length_cons, List.length_nil]
      exact ⟨by decide, k⟩
    | false =>
      rw [hf, if_neg Bool.false_ne_true] at k
      simp only [Bool.false_eq_true, if_false, a_k]
      exact k
  by_cases c1 : a = []
  · rw [if_pos (decide_eq_true c1)]
    rw [v_eqT0]
    try simp only [v_trB]
    by_cases c2 : b = []
    · rw [if_pos ⟨c1, c2⟩] at k
      rw [if_pos (decide_eq_true c2)]
      simp only [a_ret, a_k]
      exact ⟨by decide, k⟩
    · rw [if_neg (by simpa using c2), a_sk]
      exact ⟨by decide, rest fun z => c2 z.2⟩
  · rw [if_neg (by simpa using c1)]
    rw [if_neg (by simpa using c1), a_sk]
    exact rest fun z => c1 z.1
end MP

namespace MP
open PySem L2 PySem.Spec PyProof.Rows
theorem dashes_zero {xs : List Int} {p : Int} {more : List Int} (h : dashes 0 xs = p :: more) : ∃ n : Nat, p = (n : Int) ∧ xs = xs.take n ++ 45 :: xs.drop (n + 1) ∧ (more = [] ↔ 45 ∉ xs.drop (n + 1)) := by
  obtain ⟨a, b, h1, h2, h3⟩ := dashes_first xs 0 p more h
  have h2 : p = ((a.length : Nat) : Int) := by rw [h2, Nat.zero_add]
  refine ⟨a.length, h2, ?_, ?_⟩
  · rw [h1]
    simp
  · rw [h3, h1]
    simp
theorem parts_ok {S : Sto} {q : W → Sto → Prop} {xs : List Int} (hl : xs.length ≤ 100) (k : q (.d (partsD (partsR xs))) S) : post (m_parts_in [.d (T xs)] S) q := by
  refine post_fn rfl ?_
  have e : b_parts_in = sq (asgM (.nm 1) (slcM (vM 0) (soM (biM .len (consM (kM (T AH)) (nilM)))) (noM))) (sq (ifM (orM (cmpM .ne (slcM (vM 0) (noM) (soM (biM .len (consM (kM (T AH)) (nilM))))) (kM (T AH))) (cmpM .nin (kM (.int 45)) (vM 1))) (retM (kM .none)) (skM)) (sq (asgM (.nm 2) (subM (lcE (enumI (consM (vM 1) (nilM))) (.tup [6, 7]) [6, 7] (tst (cmpM .eq (vM 7) (kM (.int 45)))) (vM 6)) (kM (.int 0)))) (sq (par2M 3 4 (consM (slcM (vM 1) (noM) (soM (vM 2))) (consM (slcM (vM 1) (soM (binM .add (vM 2) (kM (.int 1)))) (noM)) (nilM)))) pTail))) := rfl
  have el : ∀ {S : Sto} {q : W → Sto → Prop}, post (b1W .len [.d (T AH)] S) q = q (.d (.int ((6 : Nat) : Int))) S := rfl
  rw [e, sq_ap]
  simp only [a_asg, a_slc, a_so, a_no, a_bi, a_cons', a_nil', a_v, a_k, getV_cons0, getV_cons, List.map_cons, List.map_nil, List.cons_append, List.nil_append, List.replicate_succ, List.replicate_zero, List.set_cons_zero, List.set_cons_succ, post_ret, el, asOI, v_slT, cutFrom]
  rw [sq_ap]
  simp only [a_if, a_or, a_cmp, a_slc, a_so, a_no, a_bi, a_cons', a_nil', a_v, a_k, getV_cons0, getV_cons, post_ret, el, asOI, v_slT, cutTo]
  rw [v_neD (eq_T (xs.take 6) AH)]
  simp only [v_trB]
  unfold partsR at k
  by_cases c : xs.take 6 = AH
  · rw [if_pos c] at k
    rw [if_neg (by simpa using c), v_ninT]
    try simp only [v_trB]
    cases hd : dashes 0 (xs.drop 6) with
    | nil =>
      rw [hd] at k
      have h45 := (dashes_none (xs.drop 6) 0).mp hd
      rw [if_pos (by simpa using h45)]
      simp only [a_ret, a_k, leave_same (Nat.le_refl _)]
      exact k
    | cons p more =>
      rw [hd] at k
      have h45 : 45 ∈ xs.drop 6 := Classical.byContradiction fun z => by
        rw [(dashes_none (xs.drop 6) 0).mpr z] at hd
        cases hd
      rw [if_neg (by simpa using h45), a_sk]
      simp only
      obtain ⟨n, hp, hx, _⟩ := dashes_zero hd
      have hn : p.toNat = n := by omega
      dsimp only at k
      rw [hn] at k
      rw [sq_ap]
      simp only [a_asg, a_sub, a_lc, a_enum, a_cons', a_nil', a_v, getV_cons0, getV_cons, post_ret]
      refine ⟨_, rfl, ?_⟩
      refine lc_filter (p := pE) (f := fE) (enumD 0 ((xs.drop 6).map .int)) ?_ ?_
      · intro y m q h
        obtain ⟨i, o, rfl⟩ := enum_mem _ _ _ m
        unfold lcT
        have eb : bindP (.tup [6, 7]) (.d (.tuple [.int (i : Int), .int o])) (wipeW [some (.d (T xs)), some (.d (T (xs.drop 6))), none, none, none, none, none, none, none] [6, 7]) = some [some (.d (T xs)), some (.d (T (xs.drop 6))), none, none, none, none, some (.d (.int (i : Int))), some (.d (.int o)), none] := rfl
        rw [eb]
        simp only [opt_some, bnd_ret, post_bnd, a_tst, a_cmp, a_v, a_k, getV_cons0, getV_cons, post_ret, v_eqI, v_trB]
        have h : q (if (o == 45) = true then some (.int (i : Int)) else none) S := h
        cases hb : (o == 45) with
        | true =>
          rw [hb] at h
          exact h
        | false =>
          rw [hb] at h
          exact h
      · rw [enum_filter, hd]
        refine ⟨?_, ?_⟩
        · have h1 := dashes_len (xs.drop 6) 0
          rw [hd] at h1
          have h2 : (xs.drop 6).length ≤ xs.length := by rw [List.length_drop]; omega
          rw [List.length_map]
          show _ ≤ 16777216
          omega
        · have h0 : L2.atI ((p :: more).map PyData.int) 0 = some (.int p) := L2.atI_nat (j := 0) rfl
          simp only [a_k]
          rw [v_ixL h0]
          simp only [List.set_cons_zero, List.set_cons_succ]
          rw [sq_ap]
          have hp1 : p + 1 = ((n + 1 : Nat) : Int) := by omega
          simp only [a_par2, a_slc, a_so, a_no, a_bin, a_v, a_k, getV_cons0, getV_cons, post_ret, asOI, v_slT, v_add, hp1]
          rw [hp]
          simp only [cutTo, cutFrom, List.set_cons_zero, List.set_cons_succ]
          refine pTail_ok (by rw [List.length_take, List.length_drop]; omega) (by rw [List.length_drop, List.length_drop]; omega) ?_
          simp only [leave_same (Nat.le_refl _)]
          exact k
  · rw [if_neg c] at k
    rw [if_pos (by simpa using c)]
    simp only [a_ret, a_k, leave_same (Nat.le_refl _)]
    rw [if_pos (by simpa using c)]
    exact k
/-! ### spans -/
def mn (i j : Int) : Int := if j < i then j else i
theorem v_min {S : Sto} {q : W → Sto → Prop} {i j : Int} : post (b1W .min [.d (.int i), .d (.int j)] S) q = q (.d (.int (mn i j))) S := rfl
def spanOf (a b : List Int) (size : Int) : D :=
  if a = [] then (if 0 < mn size (digI 0 b) then T [size - mn size (digI 0 b), size - 1] else T [])
  else if digI 0 a < size ∧ digI 0 a ≤ (if b = [] then size - 1 else digI 0 b) then T [digI 0 a, mn (if b = [] then size - 1 else digI 0 b) (size - 1)] else T []
def spanR (xs : List Int) (size : Int) : D := match partsR xs with
  | none => .none
  | some (a, b) => spanOf a b size
theorem okp_told {o : List Int} (h : okp o = true) (hn : o ≠ []) : told1 o = some (digI 0 o) := by
  unfold okp at h
  rw [decide_eq_false hn, Bool.false_or] at h
  unfold told1 at h ⊢
  split
  · rfl
  · rename_i c
    rw [if_neg c] at h
    cases h
theorem partsR_some {xs a b : List Int} (h : partsR xs = some (a, b)) : ¬ (a = [] ∧ b = []) ∧ okp a = true ∧ okp b = true ∧ a.length ≤ xs.length ∧ b.length ≤ xs.length := by
  unfold partsR at h
  split at h
  · split at h
    · cases h
    · split at h
      · cases h
      · rename_i hne
        split at h
        · rename_i ho
          cases h
          rw [Bool.and_eq_true] at ho
          refine ⟨hne, ho.1, ho.2, ?_, ?_⟩
          · rw [List.length_take, List.length_drop]; omega
          · rw [List.length_drop, List.length_drop]; omega
        · cases h
  · cases h
theorem v_retT {S : Sto} {ρ : Sl} {q : W → Sto → Prop} : post (tupM nilM ρ S) q = (0 ≤ SZ ∧ q (.d (T [])) S) := by
  simp only [a_tup, a_nil', dataOf, Option.some.injEq, exists_eq_left', List.length_nil]
  rfl
def spanE : EM := iteM (andM (cmpM .lt (vM 4) (vM 1)) (cmpM .le (vM 4) (vM 5))) (tupM (consM (vM 4) (consM (biM .min (consM (vM 5) (consM (binM .sub (vM 1) (kM (.int 1))) (nilM)))) (nilM)))) (tupM (nilM))
theorem spanE_ok {S : Sto} {q : W → Sto → Prop} {x0 x2 x3 : Option W} {size first last : Int} (k : q (.d (if first < size ∧ first ≤ last then T [first, mn last (size - 1)] else T [])) S) : post (spanE [x0, some (.d (.int size)), x2, x3, some (.d (.int first)), some (.d (.int last))] S) q := by
  unfold spanE
  simp only [a_ite, a_and, a_cmp, a_v, getV_cons0, getV_cons, post_ret, v_lt, v_le, v_trB, v_retT]
  have yes : q (.d (T [first, mn last (size - 1)])) S → post (tupM (consM (vM 4) (consM (biM .min (consM (vM 5) (consM (binM .sub (vM 1) (kM (.int 1))) (nilM)))) (nilM))) [x0, some (.d (.int size)), x2, x3, some (.d (.int first)), some (.d (.int last))] S) q := fun h => by
    simp only [a_tup, a_cons', a_bi, a_bin, a_nil', a_v, a_k, getV_cons0, getV_cons, post_ret, v_sub, v_min, dataOf, Option.map_some, Option.some.injEq, exists_eq_left', List.length_cons, List.length_nil]
    exact ⟨by decide, h⟩
  by_cases c1 : first < size
  · rw [if_pos (decide_eq_true c1)]
    by_cases c2 : first ≤ last
    · rw [if_pos ⟨c1, c2⟩] at k
      rw [if_pos (decide_eq_true c2)]
      exact yes k
    · rw [if_neg (fun z => c2 z.2)] at k
      rw [if_neg (by simpa using c2)]
      exact ⟨by decide, k⟩
  · rw [if_neg (fun z => c1 z.1)] at k
    rw [if_neg (by simpa using c1)]
    simp only [decide_eq_false c1, v_trB, Bool.false_eq_true, if_false]
    exact ⟨by decide, k⟩
theorem span_ok {S : Sto} {q : W → Sto → Prop} {xs : List Int} {size : Int} (hx : oct xs) (hl : xs.length ≤ 100) (hs : 0 ≤ size ∧ size ≤ 300) (k : q (.d (spanR xs size)) S) : post (m_span_in [.d (T xs), .d (.int size)] S) q := by
  refine post_fn rfl ?_
  have e : b_span_in = sq (exM (callM m_need_octets (consM (vM 0) (consM (kM (.int 0)) (consM (kM (.int 100)) (nilM)))))) (sq (exM (callM m_need_whole (consM (vM 1) (consM (kM (.int 0)) (consM (kM (.int 300)) (nilM)))))) (sq (asgM (.nm 2) (callM m_parts_in (consM (vM 0) (nilM)))) (sq (ifM (cmpM .isn (vM 2) (kM .none)) (retM (kM .none)) (skM)) (sq (ifM (cmpM .eq (subM (vM 2) (kM (.int 0))) (tupM (nilM))) (sq (asgM (.nm 3) (biM .min (consM (vM 1) (consM (callM m_digits_told (consM (subM (vM 2) (kM (.int 1))) (nilM))) (nilM))))) (retM (iteM (cmpM .gt (vM 3) (kM (.int 0))) (tupM (consM (binM .sub (vM 1) (vM 3)) (consM (binM .sub (vM 1) (kM (.int 1))) (nilM)))) (tupM (nilM))))) (skM)) (sq (par2M 4 5 (consM (callM m_digits_told (consM (subM (vM 2) (kM (.int 0))) (nilM))) (consM (iteM (cmpM .eq (subM (vM 2) (kM (.int 1))) (tupM (nilM))) (binM .sub (vM 1) (kM (.int 1))) (callM m_digits_told (consM (subM (vM 2) (kM (.int 1))) (nilM)))) (nilM)))) (retM spanE)))))) := rfl
  rw [e, sq_ap]
  simp only [a_ex, a_call, a_cons', a_v, a_k, a_nil', getV_cons0, getV_cons, List.map_cons, List.map_nil, List.cons_append, List.nil_append, List.replicate_succ, List.replicate_zero, post_ret]
  refine need_ok hx ⟨by omega, by omega, by omega⟩ ?_
  rw [sq_ap]
  simp only [a_ex, a_call, a_cons', a_v, a_k, a_nil', getV_cons0, getV_cons, post_ret]
  refine whole_ok hs ?_
  rw [sq_ap]
  simp only [a_asg, a_call, a_cons', a_v, a_k, a_nil', getV_cons0, getV_cons, post_ret]
  refine parts_ok hl ?_
  simp only [List.set_cons_zero, List.set_cons_succ]
  rw [sq_ap]
  simp only [a_if, a_cmp, a_v, a_k, getV_cons0, getV_cons, post_ret, v_isn, v_trB]
  unfold spanR at k
  cases hp : partsR xs with
  | none =>
    rw [hp] at k
    simp only [partsD, isNone, if_true, a_ret, a_k, leave_same (Nat.le_refl _)]
    exact k
  | some ab =>
    obtain ⟨a, b⟩ := ab
    rw [hp] at k
    have k : q (.d (spanOf a b size)) S := k
    obtain ⟨hne, oa, ob, la, lb⟩ := partsR_some hp
    simp only [partsD, isNone, Bool.false_eq_true, if_false, a_sk]
    rw [sq_ap]
    have i0 : L2.atI [T a, T b] 0 = some (T a) := rfl
    have i1 : L2.atI [T a, T b] 1 = some (T b) := rfl
    simp only [a_if, a_cmp, a_sub, a_v, a_k, getV_cons0, getV_cons, post_ret]
    rw [v_ixT i0, v_retT]
    refine ⟨by decide, ?_⟩
    rw [show (T [] : D) = .tuple [] from rfl, v_eqT0]
    simp only [v_trB]
    unfold spanOf at k
    by_cases ca : a = []
    · rw [if_pos ca] at k
      have cb : b ≠ [] := fun z => hne ⟨ca, z⟩
      rw [if_pos (decide_eq_true ca), sq_ap]
      simp only [a_asg, a_bi, a_cons', a_call, a_sub, a_nil', a_v, a_k, getV_cons0, getV_cons, post_ret]
      rw [v_ixT i1]
      refine told_ok (by omega) ?_
      rw [okp_told ob cb]
      simp only [optW, v_min, List.set_cons_zero, List.set_cons_succ, a_ret, a_ite, a_cmp, a_v, a_k, getV_cons0, getV_cons, post_ret, v_gt, v_trB, v_retT]
      by_cases c0 : 0 < mn size (digI 0 b)
      · rw [if_pos c0] at k
        rw [if_pos (decide_eq_true c0)]
        simp only [a_tup, a_cons', a_bin, a_nil', a_v, a_k, getV_cons0, getV_cons, post_ret, v_sub, dataOf, Option.map_some, Option.some.injEq, exists_eq_left', List.length_cons, List.length_nil, leave_same (Nat.le_refl _)]
        exact ⟨by decide, k⟩
      · rw [if_neg c0] at k
        rw [if_neg (by simpa using c0)]
        simp only [leave_same (Nat.le_refl _)]
        exact ⟨by decide, k⟩
    · rw [if_neg ca] at k
      rw [if_neg (by simpa using ca), a_sk]
      simp only
      rw [sq_ap]
      simp only [a_par2, a_call, a_cons', a_nil', a_sub, a_v, a_k, getV_cons0, getV_cons, post_ret]
      rw [v_ixT i0]
      refine told_ok (by omega) ?_
      rw [okp_told oa ca]
      simp only [optW, a_ite, a_cmp, a_sub, a_v, a_k, getV_cons0, getV_cons, post_ret]
      rw [v_ixT i1, v_retT]
      refine ⟨by decide, ?_⟩
      rw [show (T [] : D) = .tuple [] from rfl, v_eqT0]
      simp only [v_trB]
      by_cases cb : b = []
      · simp only [if_pos cb] at k
        rw [if_pos (decide_eq_true cb)]
        simp only [a_bin, a_v, a_k, getV_cons0, getV_cons, post_ret, v_sub, List.set_cons_zero, List.set_cons_succ, a_ret]
        refine spanE_ok ?_
        simp only [leave_same (Nat.le_refl _)]
        exact k
      · simp only [if_neg cb] at k
        rw [if_neg (by simpa using cb)]
        simp only [a_call, a_cons', a_nil', a_sub, a_v, a_k, getV_cons0, getV_cons, post_ret]
        rw [v_ixT i1]
        refine told_ok (by omega) ?_
        rw [okp_told ob cb]
        simp only [optW, List.set_cons_zero, List.set_cons_succ, a_ret]
        refine spanE_ok ?_
        simp only [leave_same (Nat.le_refl _)]
        exact k
end MP

namespace MP
open PySem L2 PySem.Spec PyProof.Rows
theorem okp_iff (o : List Int) : okp o = (decide (o.length ≤ 6) && o.all dg) := by
  unfold okp
  by_cases c : o = []
  · subst c; rfl
  · rw [decide_eq_false c, Bool.false_or]
    have hl : 1 ≤ o.length := List.length_pos_iff.mpr c
    unfold told1
    by_cases c2 : o.length ≤ 6
    · rw [decide_eq_true ⟨hl, c2⟩, decide_eq_true c2, Bool.true_and]
      try rw [Bool.true_and]
      cases o.all dg <;> rfl
    · rw [decide_eq_false (fun z => c2 z.2), decide_eq_false c2, Bool.false_and]
      try rw [Bool.false_and]
      rfl
theorem okp_45 {o : List Int} (h : 45 ∈ o) : okp o = false := by
  rw [okp_iff]
  have e : o.all dg = false := by
    rw [Bool.eq_false_iff]
    intro z
    have := List.all_eq_true.mp z 45 h
    exact absurd this (by decide)
  rw [e, Bool.and_false]
theorem partsR_dash {xs : List Int} {n : Nat} {more : List Int} (c : xs.take 6 = AH) (hd : dashes 0 (xs.drop 6) = (n : Int) :: more) :
    partsR xs = if (xs.drop 6).take n = [] ∧ (xs.drop 6).drop (n + 1) = [] then none else if (okp ((xs.drop 6).take n) && okp ((xs.drop 6).drop (n + 1))) = true then some ((xs.drop 6).take n, (xs.drop 6).drop (n + 1)) else none := by
  unfold partsR
  rw [if_pos c, hd]
  rfl
theorem filter_seq (p : Int → Bool) (xs : List Int) : ((xs.map PyData.int).filter (pI p)).map id = (xs.filter p).map PyData.int := filter_I p xs
theorem mn_self (s : Int) : mn s (s - 1) = s - 1 := by unfold mn; rw [if_pos (by omega)]
def lspE : EM := iteM (andM (cmpM .lt (vM 7) (vM 1)) (cmpM .le (vM 7) (vM 8))) (tupM (consM (vM 7) (consM (biM .min (consM (vM 8) (consM (binM .sub (vM 1) (kM (.int 1))) (nilM)))) (nilM)))) (tupM (nilM))
theorem lspE_ok {S : Sto} {q : W → Sto → Prop} {x0 x2 x3 x4 x5 x6 x9 x10 : Option W} {size first last : Int} (k : q (.d (if first < size ∧ first ≤ last then T [first, mn last (size - 1)] else T [])) S) : post (lspE [x0, some (.d (.int size)), x2, x3, x4, x5, x6, some (.d (.int first)), some (.d (.int last)), x9, x10] S) q := by
  unfold lspE
  simp only [a_ite, a_and, a_cmp, a_v, getV_cons0, getV_cons, post_ret, v_lt, v_le, v_trB, v_retT]
  have yes : q (.d (T [first, mn last (size - 1)])) S → post (tupM (consM (vM 7) (consM (biM .min (consM (vM 8) (consM (binM .sub (vM 1) (kM (.int 1))) (nilM)))) (nilM))) [x0, some (.d (.int size)), x2, x3, x4, x5, x6, some (.d (.int first)), some (.d (.int last)), x9, x10] S) q := fun h => by
    simp only [a_tup, a_cons', a_bi, a_bin, a_nil', a_v, a_k, getV_cons0, getV_cons, post_ret, v_sub, v_min, dataOf, Option.map_some, Option.some.injEq, exists_eq_left', List.length_cons, List.length_nil]
    exact ⟨by decide, h⟩
  by_cases c1 : first < size
  · rw [if_pos (decide_eq_true c1)]
    by_cases c2 : first ≤ last
    · rw [if_pos ⟨c1, c2⟩] at k
      rw [if_pos (decide_eq_true c2)]
      exact yes k
    · rw [if_neg (fun z => c2 z.2)] at k
      rw [if_neg (by simpa using c2)]
      exact ⟨by decide, k⟩
  · rw [if_neg (fun z => c1 z.1)] at k
    rw [if_neg (by simpa using c1)]
    simp only [decide_eq_false c1, v_trB, Bool.false_eq_true, if_false]
    exact ⟨by decide, k⟩
/-- behind the tests -/
def lspT : SM := (sq (ifM (cmpM .eq (vM 4) (tupM (nilM))) (sq (asgM (.nm 6) (biM .min (consM (vM 1) (consM (callM m__law_digits (consM (vM 5) (nilM))) (nilM))))) (retM (iteM (cmpM .gt (vM 6) (kM (.int 0))) (tupM (consM (binM .sub (vM 1) (vM 6)) (consM (binM .sub (vM 1) (kM (.int 1))) (nilM)))) (tupM (nilM))))) (skM)) (sq (par2M 7 8 (consM (callM m__law_digits (consM (vM 4) (nilM))) (consM (iteM (cmpM .ne (vM 5) (tupM (nilM))) (callM m__law_digits (consM (vM 5) (nilM))) (vM 1)) (nilM)))) (retM lspE)))
theorem lspT_ok {S : Sto} {Q : Fl → Sto → Prop} {x0 x2 x3 x6 x7 x8 x9 x10 : Option W} {a b : List Int} {size : Int} (k : Q (.rt (.d (spanOf a b size))) S) : post (lspT [x0, some (.d (.int size)), x2, x3, some (.d (T a)), some (.d (T b)), x6, x7, x8, x9, x10] S) Q := by
  unfold lspT
  rw [sq_ap]
  simp only [a_if, a_cmp, a_v, getV_cons0, getV_cons, post_ret, v_retT]
  refine ⟨by decide, ?_⟩
  rw [show (T [] : D) = .tuple [] from rfl, v_eqT0]
  simp only [v_trB]
  unfold spanOf at k
  by_cases ca : a = []
  · rw [if_pos ca] at k
    rw [if_pos (decide_eq_true ca), sq_ap]
    simp only [a_asg, a_bi, a_cons', a_call, a_nil', a_v, getV_cons0, getV_cons, post_ret]
    refine ldig_ok ?_
    simp only [v_min, List.set_cons_zero, List.set_cons_succ, a_ret, a_ite, a_cmp, a_v, a_k, getV_cons0, getV_cons, post_ret, v_gt, v_trB, v_retT]
    by_cases c0 : 0 < mn size (digI 0 b)
    · rw [if_pos c0] at k
      rw [if_pos (decide_eq_true c0)]
      simp only [a_tup, a_cons', a_bin, a_nil', a_v, a_k, getV_cons0, getV_cons, post_ret, v_sub, dataOf, Option.map_some, Option.some.injEq, exists_eq_left', List.length_cons, List.length_nil]
      exact ⟨by decide, k⟩
    · rw [if_neg c0] at k
      rw [if_neg (by simpa using c0)]
      exact ⟨by decide, k⟩
  · rw [if_neg ca] at k
    rw [if_neg (by simpa using ca), a_sk]
    simp only
    rw [sq_ap]
    simp only [a_par2, a_call, a_cons', a_nil', a_v, getV_cons0, getV_cons, post_ret]
    refine ldig_ok ?_
    simp only [a_ite, a_cmp, a_v, getV_cons0, getV_cons, post_ret, v_retT]
    refine ⟨by decide, ?_⟩
    rw [show (T [] : D) = .tuple [] from rfl, v_neT0]
    simp only [v_trB]
    by_cases cb : b = []
    · simp only [if_pos cb] at k
      rw [if_neg (by simpa using cb)]
      simp only [a_v, getV_cons0, getV_cons, post_ret, List.set_cons_zero, List.set_cons_succ, a_ret]
      refine lspE_ok ?_
      have e : (if digI 0 a < size ∧ digI 0 a ≤ size then T [digI 0 a, mn size (size - 1)] else T []) = (if digI 0 a < size ∧ digI 0 a ≤ size - 1 then T [digI 0 a, mn (size - 1) (size - 1)] else T [] : D) := by
        by_cases c : digI 0 a < size
        · rw [if_pos ⟨c, by omega⟩, if_pos ⟨c, by omega⟩, mn_self]
          unfold mn
          rw [if_neg (by omega)]
        · rw [if_neg (fun z => c z.1), if_neg (fun z => c z.1)]
      rw [e]
      exact k
    · simp only [if_neg cb] at k
      rw [if_pos (by simpa using cb)]
      simp only [a_call, a_cons', a_nil', a_v, getV_cons0, getV_cons, post_ret]
      refine ldig_ok ?_
      simp only [List.set_cons_zero, List.set_cons_succ, a_ret]
      exact lspE_ok k
end MP

namespace MP
open PySem L2 PySem.Spec PyProof.Rows
theorem items_rng {n : Int} (h : -(2 ^ 62) ≤ n ∧ n < 2 ^ 62) : itemsOf .rng [.d (.int n)] = some ((List.range n.toNat).map fun (i : Nat) => .int (i : Int)) := by
  show (if -(2 ^ 62) ≤ n ∧ n < 2 ^ 62 then some ((List.range n.toNat).map fun (i : Nat) => PyData.int (i : Int)) else none) = _
  rw [if_pos h]
theorem cpsI_bytes : cpsI ("bytes=" : String) = AH := by decide
theorem place_turn {S : Sto} {x0 x1 x3 x4 x5 x6 x7 x8 x9 x10 : Option W} {rest : List Int} {i : Nat} {o : Int} {q : Option D → Sto → Prop} (ho : rest[i]? = some o) (h : q (if (o == 45) = true then some (.int (i : Int)) else none) S) :
    post (lcT (.nm 9) [9] (tst (cmpM .eq (subM (vM 2) (vM 9)) (kM (.int 45)))) (vM 9) [x0, x1, some (.d (T rest)), x3, x4, x5, x6, x7, x8, x9, x10] (.int (i : Int)) S) q := by
  unfold lcT
  have eb : bindP (.nm 9) (.d (.int (i : Int))) (wipeW [x0, x1, some (.d (T rest)), x3, x4, x5, x6, x7, x8, x9, x10] [9]) = some [x0, x1, some (.d (T rest)), x3, x4, x5, x6, x7, x8, some (.d (.int (i : Int))), x10] := rfl
  have ei : L2.atI (rest.map PyData.int) (i : Int) = some (.int o) := L2.atI_nat (by rw [List.getElem?_map, ho]; rfl)
  rw [eb]
  simp only [opt_some, bnd_ret, post_bnd, a_tst, a_cmp, a_sub, a_v, a_k, getV_cons0, getV_cons, post_ret]
  rw [v_ixT ei]
  simp only [v_eqI, v_trB]
  cases hb : (o == 45) with
  | true =>
    rw [hb] at h
    exact h
  | false =>
    rw [hb] at h
    exact h
theorem odd_turn {S : Sto} {x0 x1 x2 x3 x4 x5 x6 x7 x8 x9 x10 : Option W} {o : Int} {q : Option D → Sto → Prop} (h : q (if (!dg o) = true then some (.int o) else none) S) :
    post (lcT (.nm 10) [10] (tst (orM (cmpM .lt (vM 10) (kM (.int 48))) (cmpM .gt (vM 10) (kM (.int 57))))) (vM 10) [x0, x1, x2, x3, x4, x5, x6, x7, x8, x9, x10] (.int o) S) q := by
  unfold lcT
  have eb : bindP (.nm 10) (.d (.int o)) (wipeW [x0, x1, x2, x3, x4, x5, x6, x7, x8, x9, x10] [10]) = some [x0, x1, x2, x3, x4, x5, x6, x7, x8, x9, some (.d (.int o))] := rfl
  rw [eb]
  simp only [opt_some, bnd_ret, post_bnd, a_tst, a_or, a_cmp, a_v, a_k, getV_cons0, getV_cons, post_ret, v_lt, v_gt, v_trB]
  unfold dg at h
  by_cases c1 : o < 48
  · rw [if_pos (decide_eq_true c1)]
    rw [decide_eq_false (show ¬ 48 ≤ o by omega)] at h
    simp only [v_trB, decide_eq_true c1, if_true]
    exact h
  · rw [if_neg (by simpa using c1)]
    rw [decide_eq_true (show 48 ≤ o by omega), Bool.true_and] at h
    by_cases c2 : 57 < o
    · rw [decide_eq_false (show ¬ o ≤ 57 by omega)] at h
      simp only [v_trB, decide_eq_true c2, if_true]
      exact h
    · rw [decide_eq_true (show o ≤ 57 by omega)] at h
      simp only [v_trB, decide_eq_false c2, Bool.false_eq_true, if_false]
      exact h
def lspP5 : SM := ifM (orM (cmpM .gt (biM .len (consM (vM 4) (nilM))) (kM (.int 6))) (orM (cmpM .gt (biM .len (consM (vM 5) (nilM))) (kM (.int 6))) (cmpM .ne (lcE (seqI (binM .add (vM 4) (vM 5))) (.nm 10) [10] (tst (orM (cmpM .lt (vM 10) (kM (.int 48))) (cmpM .gt (vM 10) (kM (.int 57))))) (vM 10)) (lstM (nilM))))) (retM (kM .none)) (skM)
theorem P5_ok {S : Sto} {x0 x1 x2 x3 x6 x7 x8 x9 x10 : Option W} {a b : List Int} {Q : Fl → Sto → Prop} (hl : a.length + b.length ≤ 1000)
    (k : if (okp a && okp b) = true then Q (.nx [x0, x1, x2, x3, some (.d (T a)), some (.d (T b)), x6, x7, x8, x9, x10]) S else Q (.rt (.d .none)) S) : post (lspP5 [x0, x1, x2, x3, some (.d (T a)), some (.d (T b)), x6, x7, x8, x9, x10] S) Q := by
  rw [okp_iff, okp_iff] at k
  unfold lspP5
  simp only [a_if, a_or, a_cmp, a_bi, a_cons', a_nil', a_v, a_k, getV_cons0, getV_cons, post_ret, v_lenT, List.length_map, v_gt, v_trB]
  by_cases c1 : a.length ≤ 6
  · rw [decide_eq_true c1, Bool.true_and] at k
    rw [if_neg (by simp; omega)]
    by_cases c2 : b.length ≤ 6
    · rw [decide_eq_true c2, Bool.true_and] at k
      rw [if_neg (by simp; omega)]
      simp only [a_lc, a_seq, a_bin, a_v, getV_cons0, getV_cons, post_ret]
      rw [v_catT (by omega)]
      refine ⟨_, rfl, ?_⟩
      refine lc_filter (p := pI fun o => !dg o) (f := id) ((a ++ b).map .int) ?_ ?_
      · intro y m q h
        obtain ⟨o, ho, rfl⟩ := List.mem_map.mp m
        exact odd_turn h
      · rw [filter_I]
        have hfl := List.length_filter_le (fun o => !dg o) (a ++ b)
        rw [List.length_append] at hfl
        refine ⟨by rw [List.length_map]; show _ ≤ 16777216; omega, ?_⟩
        simp only [a_lst, a_nil', dataOf, Option.some.injEq, exists_eq_left', List.length_nil]
        refine ⟨by decide, ?_⟩
        have el : (PyData.list [] : D) = .list (([] : List Int).map .int) := rfl
        rw [el, v_neD (eq_L ((a ++ b).filter fun o => !dg o) [])]
        have hodd : decide (((a ++ b).filter fun o => !dg o) = []) = (a.all dg && b.all dg) := by
          rw [← List.all_append, Bool.eq_iff_iff]
          simp [List.filter_eq_nil_iff]
        rw [hodd]
        try simp only [v_trB]
        cases hb : (a.all dg && b.all dg) with
        | true =>
          rw [hb, if_pos rfl] at k
          simp only [Bool.not_true, Bool.false_eq_true, if_false, a_sk]
          exact k
        | false =>
          rw [hb, if_neg Bool.false_ne_true] at k
          simp only [Bool.not_false, if_true, a_ret, a_k]
          exact k
    · rw [decide_eq_false c2, Bool.false_and, Bool.and_false, if_neg Bool.false_ne_true] at k
      rw [if_pos (by simp; omega)]
      simp only [v_trB, a_ret, a_k]
      rw [if_pos (by simp; omega)]
      exact k
  · rw [decide_eq_false c1, Bool.false_and, Bool.false_and, if_neg Bool.false_ne_true] at k
    rw [if_pos (by simp; omega)]
    simp only [v_trB, a_ret, a_k]
    rw [if_pos (by simp; omega)]
    exact k
end MP

namespace MP
open PySem L2 PySem.Spec PyProof.Rows
/-! ### the texts of the answers -/
theorem reprD_of {x : D} {z : Str} (h : reprD x = some z) : x.showable = true ∧ x.hasDict = false ∧ x.depth ≤ 60 ∧ x.shown.length ≤ SZ := by
  unfold reprD at h
  split at h
  · assumption
  · cases h
theorem shown_len {xs : List Int} (h : oct xs) : (T xs).shown.length ≤ 5 * xs.length + 3 := by
  show (tupleText (PyData.shownAll (xs.map .int))).length ≤ _
  have e : PyData.shownAll (xs.map PyData.int) = xs.map fun i => (toString i : Str) := by
    clear h
    induction xs with
    | nil => rfl
    | cons x r ih => show _ :: PyData.shownAll (r.map .int) = _; rw [ih]; rfl
  rw [e]
  unfold tupleText
  rw [Str.length_append, Str.length_append]
  have j := StrLaws.join_length_le ((", " : String) : Str) (xs.map fun i => (toString i : Str))
  have b : ((xs.map fun i => (toString i : Str)).map (·.length)).sum ≤ 3 * xs.length := by
    clear j e
    induction xs with
    | nil => simp
    | cons x r ih =>
      have h1 := ih fun y m => h y (List.mem_cons_of_mem _ m)
      have h2 := small_text' (h x List.mem_cons_self)
      rw [List.map_cons, List.map_cons, List.sum_cons, List.length_cons]
      omega
  have l1 : (("(" : String) : Str).length = 1 := rfl
  have l2 : ((", " : String) : Str).length = 2 := rfl
  have l3 : ((if (xs.map fun i => (toString i : Str)).length == 1 then ",)" else ")" : String) : Str).length ≤ 2 := by
    split <;> decide
  rw [l2, List.length_map] at j
  omega
theorem repr_file {r : List Int} (h : oct r) (hl : r.length ≤ 1000) : ∃ z, reprD (.tuple [.str "file", T r]) = some z := by
  obtain ⟨z, hz⟩ := repr_octs h (by omega)
  obtain ⟨s1, s2, s3, s4⟩ := reprD_of hz
  have hd : (T r).depth = 1 := by
    show PyData.depthAll _ + 1 = 1
    rw [depth_ints]
  refine ⟨_, if_pos ⟨?_, ?_, ?_, ?_⟩⟩
  · show (true && (PyData.showable (T r) && true)) = true
    rw [s1]; rfl
  · show (false || (PyData.hasDict (T r) || false)) = false
    rw [s2]; rfl
  · show max 0 (max (T r).depth 0) + 1 ≤ 60
    rw [hd]; decide
  · show (tupleText [reprText ("file" : String), (T r).shown]).length ≤ SZ
    have hs := shown_len h
    unfold tupleText
    rw [Str.length_append, Str.length_append]
    have j := StrLaws.join_length_le ((", " : String) : Str) [reprText ("file" : String), (T r).shown]
    have l1 : (("(" : String) : Str).length = 1 := rfl
    have l2 : ((", " : String) : Str).length = 2 := rfl
    have l3 : (reprText ("file" : String)).length ≤ 10 := by decide +kernel
    have l4 : ((if ([reprText ("file" : String), (T r).shown] : List Str).length == 1 then ",)" else ")" : String) : Str).length ≤ 2 := by
      split <;> decide
    rw [l2] at j
    simp only [List.map_cons, List.map_nil, List.sum_cons, List.sum_nil, List.length_cons, List.length_nil] at j
    show _ ≤ 16777216
    omega
theorem repr_tgt {xs : List Int} (h : oct xs) (hl : xs.length ≤ 1000) : ∃ z, reprD (targetR xs) = some z := by
  unfold targetR
  split
  · exact ⟨_, if_pos (by decide +kernel)⟩
  · split
    · exact ⟨_, if_pos (by decide +kernel)⟩
    · split
      · exact ⟨_, if_pos (by decide +kernel)⟩
      · split
        · refine repr_file (fun o m => h o (List.mem_of_mem_tail m)) ?_
          rw [List.length_tail]; omega
        · exact ⟨_, if_pos (by decide +kernel)⟩
theorem repr_bool (b : Bool) : ∃ z, reprD (.bool b) = some z := by
  cases b
  · exact ⟨_, if_pos (by decide +kernel)⟩
  · exact ⟨_, if_pos (by decide +kernel)⟩
theorem repr_two {a b : Int} (ha : a.natAbs.log2 < 1920) (hb : b.natAbs.log2 < 1920) : ∃ z, reprD (T [a, b]) = some z := by
  refine ⟨_, if_pos ⟨?_, rfl, by show max 0 (max 0 0) + 1 ≤ 60; decide, ?_⟩⟩
  · show (decide (a.natAbs.log2 < 1920) && (decide (b.natAbs.log2 < 1920) && true)) = true
    rw [decide_eq_true ha, decide_eq_true hb]; rfl
  · show (tupleText [(toString a : Str), (toString b : Str)]).length ≤ SZ
    have la := int_text_len_1921 ha
    have lb := int_text_len_1921 hb
    unfold tupleText
    rw [Str.length_append, Str.length_append]
    have j := StrLaws.join_length_le ((", " : String) : Str) [(toString a : Str), (toString b : Str)]
    have l1 : (("(" : String) : Str).length = 1 := rfl
    have l2 : ((", " : String) : Str).length = 2 := rfl
    have l4 : ((if ([(toString a : Str), (toString b : Str)] : List Str).length == 1 then ",)" else ")" : String) : Str).length ≤ 2 := by
      split <;> decide
    rw [l2] at j
    simp only [List.map_cons, List.map_nil, List.sum_cons, List.sum_nil, List.length_cons, List.length_nil] at j
    show _ ≤ 16777216
    omega
end MP

namespace MP.Q0
open PySem L2 PySem.Spec PyProof.Rows
@[irreducible] def post {α : Type} (r : Option (Out α)) (q : α → Sto → Prop) : Prop := MP.post r q
theorem post_def {α : Type} : @post α = @MP.post α := by unfold post; rfl
theorem post.imp {α : Type} {r : Option (Out α)} {q q' : α → Sto → Prop} (h : post r q) (k : ∀ a S, q a S → q' a S) : post r q' := by
  simp only [post_def] at *
  exact MP.post.imp h k
theorem post_ok {α : Type} {r : Option (Out α)} {q : α → Sto → Prop} (h : post r q) : ∃ a S, r = some (.ok a S) ∧ q a S := by
  simp only [post_def] at *
  exact MP.post_ok h
theorem of_post {α : Type} {r : Option (Out α)} {q : α → Sto → Prop} (h : MP.post r q) : post r q := by
  simp only [post_def]
  exact h
theorem post_bnd {α β : Type} (x : M α) (f : α → M β) (S : Sto) (q : β → Sto → Prop) : post (bnd x f S) q = post (x S) (fun a S' => post (f a S') q) := by
  simp only [post_def]
  exact MP.post_bnd x f S q
theorem post_ret {α : Type} (a : α) (S : Sto) (q : α → Sto → Prop) : post (ret a S) q = q a S := by
  simp only [post_def]
  exact MP.post_ret a S q
theorem post_bad {α : Type} (S : Sto) (q : α → Sto → Prop) : post (bad S) q = False := by
  simp only [post_def]
  exact MP.post_bad S q
section
variable {S : Sto} {ρ : Sl} {q : W → Sto → Prop}
theorem post_some {α : Type} (a : α) (q : α → Sto → Prop) : post (some (Out.ok a S)) q = q a S := by
  first
    | (simp only [post_def]; exact MP.post_some a q)
    | (simp only [post_def] at *; exact MP.post_some a q)
theorem post_fn {np nsl : Nat} {body : SM} {ws : List W} (h : ws.length = np)
    (k : post (body (ws.map some ++ List.replicate (nsl - np) none) S) (fun f S' => match f with
      | .nx _ => q (.d .none) (leave S.length (.d .none) S')
      | .rt w => q w (leave S.length w S')
      | _ => False)) : post (fnB np nsl body ws S) q := by
  first
    | (simp only [post_def]; exact MP.post_fn h k)
    | (simp only [post_def] at *; exact MP.post_fn h k)
theorem sq_ap (a b : SM) (q : Fl → Sto → Prop) : post (sq a b ρ S) q = post (a ρ S) (fun f S' => match f with
    | .nx ρ' => post (b ρ' S') q
    | .rt w => q (.rt w) S'
    | .bk r => q (.bk r) S'
    | .ct r => q (.ct r) S') := by
  first
    | (simp only [post_def]; exact MP.sq_ap a b q)
    | (simp only [post_def] at *; exact MP.sq_ap a b q)
theorem a_k (d : D) : post (kM d ρ S) q = q (.d d) S := by
  first
    | (simp only [post_def]; exact MP.a_k d)
    | (simp only [post_def] at *; exact MP.a_k d)
theorem a_v (i : Nat) : post (vM i ρ S) q = post (getV ρ i S) q := by
  first
    | (simp only [post_def]; exact MP.a_v i)
    | (simp only [post_def] at *; exact MP.a_v i)
theorem a_bin (o : B2) (a b : EM) : post (binM o a b ρ S) q = post (a ρ S) fun x S1 => post (b ρ S1) fun y S2 => post (binW o x y S2) q := by
  first
    | (simp only [post_def]; exact MP.a_bin o a b)
    | (simp only [post_def] at *; exact MP.a_bin o a b)
theorem a_cmp (o : C2) (a b : EM) : post (cmpM o a b ρ S) q = post (a ρ S) fun x S1 => post (b ρ S1) fun y S2 => post (cmpW o x y S2) fun t S3 => q (.d (.bool t)) S3 := by
  first
    | (simp only [post_def]; exact MP.a_cmp o a b)
    | (simp only [post_def] at *; exact MP.a_cmp o a b)
theorem a_ch (o1 o2 : C2) (a b c : EM) : post (chM o1 o2 a b c ρ S) q = post (a ρ S) fun x S1 => post (b ρ S1) fun y S2 => post (cmpW o1 x y S2) fun t S3 => if t = true then post (c ρ S3) fun z S4 => post (cmpW o2 y z S4) fun t S5 => q (.d (.bool t)) S5 else q (.d (.bool false)) S3 := by
  first
    | (simp only [post_def]; exact MP.a_ch o1 o2 a b c)
    | (simp only [post_def] at *; exact MP.a_ch o1 o2 a b c)
theorem a_neg (a : EM) : post (negM a ρ S) q = post (a ρ S) fun x S1 => post (negW x S1) q := by
  first
    | (simp only [post_def]; exact MP.a_neg a)
    | (simp only [post_def] at *; exact MP.a_neg a)
theorem a_not (a : EM) : post (notM a ρ S) q = post (a ρ S) fun x S1 => post (truW x S1) fun t S2 => q (.d (.bool (!t))) S2 := by
  first
    | (simp only [post_def]; exact MP.a_not a)
    | (simp only [post_def] at *; exact MP.a_not a)
theorem post_ite {α : Type} (t : Bool) (a b : M α) (S : Sto) (q : α → Sto → Prop) : post ((if t = true then a else b) S) q = if t = true then post (a S) q else post (b S) q := by
  first
    | (simp only [post_def]; exact MP.post_ite t a b S q)
    | (simp only [post_def] at *; exact MP.post_ite t a b S q)
theorem a_and (a b : EM) : post (andM a b ρ S) q = post (a ρ S) fun x S1 => post (truW x S1) fun t S2 => if t = true then post (b ρ S2) q else q x S2 := by
  first
    | (simp only [post_def]; exact MP.a_and a b)
    | (simp only [post_def] at *; exact MP.a_and a b)
theorem a_or (a b : EM) : post (orM a b ρ S) q = post (a ρ S) fun x S1 => post (truW x S1) fun t S2 => if t = true then q x S2 else post (b ρ S2) q := by
  first
    | (simp only [post_def]; exact MP.a_or a b)
    | (simp only [post_def] at *; exact MP.a_or a b)
theorem a_ite (c a b : EM) : post (iteM c a b ρ S) q = post (c ρ S) fun x S1 => post (truW x S1) fun t S2 => if t = true then post (a ρ S2) q else post (b ρ S2) q := by
  first
    | (simp only [post_def]; exact MP.a_ite c a b)
    | (simp only [post_def] at *; exact MP.a_ite c a b)
theorem a_sub (a b : EM) : post (subM a b ρ S) q = post (a ρ S) fun x S1 => post (b ρ S1) fun y S2 => post (subW x y S2) q := by
  first
    | (simp only [post_def]; exact MP.a_sub a b)
    | (simp only [post_def] at *; exact MP.a_sub a b)
theorem a_slc (a : EM) (lo hi : Sl → M (Option W)) : post (slcM a lo hi ρ S) q = post (a ρ S) fun x S1 => post (lo ρ S1) fun l S2 => post (hi ρ S2) fun h S3 => match asOI l, asOI h with
    | some l, some h => post (slcW x l h S3) q
    | _, _ => False := by
  first
    | (simp only [post_def]; exact MP.a_slc a lo hi)
    | (simp only [post_def] at *; exact MP.a_slc a lo hi)
theorem a_no (q : Option W → Sto → Prop) : post (noM ρ S) q = q none S := by
  first
    | (simp only [post_def]; exact MP.a_no q)
    | (simp only [post_def] at *; exact MP.a_no q)
theorem a_so (a : EM) (q : Option W → Sto → Prop) : post (soM a ρ S) q = post (a ρ S) fun w S1 => q (some w) S1 := by
  first
    | (simp only [post_def]; exact MP.a_so a q)
    | (simp only [post_def] at *; exact MP.a_so a q)
theorem a_nil' (q : List W → Sto → Prop) : post (nilM ρ S) q = q [] S := by
  first
    | (simp only [post_def]; exact MP.a_nil' q)
    | (simp only [post_def] at *; exact MP.a_nil' q)
theorem a_cons' (a : EM) (r : AM) (q : List W → Sto → Prop) : post (consM a r ρ S) q = post (a ρ S) fun w S1 => post (r ρ S1) fun ws S2 => q (w :: ws) S2 := by
  first
    | (simp only [post_def]; exact MP.a_cons' a r q)
    | (simp only [post_def] at *; exact MP.a_cons' a r q)
theorem a_tup (ms : AM) : post (tupM ms ρ S) q = post (ms ρ S) fun ws S1 => ∃ xs, dataOf ws = some xs ∧ xs.length ≤ SZ ∧ q (.d (.tuple xs)) S1 := by
  first
    | (simp only [post_def]; exact MP.a_tup ms)
    | (simp only [post_def] at *; exact MP.a_tup ms)
theorem a_lst (ms : AM) : post (lstM ms ρ S) q = post (ms ρ S) fun ws S1 => ∃ xs, dataOf ws = some xs ∧ xs.length ≤ SZ ∧ q (.d (.list xs)) S1 := by
  first
    | (simp only [post_def]; exact MP.a_lst ms)
    | (simp only [post_def] at *; exact MP.a_lst ms)
theorem a_nl (ms : AM) : post (nlM ms ρ S) q = post (ms ρ S) fun ws S1 => ws.length ≤ SZ ∧ q (.r S1.length) (S1 ++ [.lst ws]) := by
  first
    | (simp only [post_def]; exact MP.a_nl ms)
    | (simp only [post_def] at *; exact MP.a_nl ms)
theorem a_ndk : post (ndkM ρ S) q = q (.r S.length) (S ++ [.dk []]) := by
  first
    | (simp only [post_def]; exact MP.a_ndk )
    | (simp only [post_def] at *; exact MP.a_ndk )
theorem a_call (m : List W → M W) (ms : AM) : post (callM m ms ρ S) q = post (ms ρ S) fun ws S1 => post (m ws S1) q := by
  first
    | (simp only [post_def]; exact MP.a_call m ms)
    | (simp only [post_def] at *; exact MP.a_call m ms)
theorem a_bi (f : B1) (ms : AM) : post (biM f ms ρ S) q = post (ms ρ S) fun ws S1 => post (b1W f ws S1) q := by
  first
    | (simp only [post_def]; exact MP.a_bi f ms)
    | (simp only [post_def] at *; exact MP.a_bi f ms)
theorem a_isi (T : String) (a : EM) : post (isiM T a ρ S) q = post (a ρ S) fun w S1 => post (b1W (.isI T) [w] S1) q := by
  first
    | (simp only [post_def]; exact MP.a_isi T a)
    | (simp only [post_def] at *; exact MP.a_isi T a)
theorem a_app (o a : EM) : post (appM o a ρ S) q = post (o ρ S) fun x S1 => post (rcv .append x S1) fun _ S2 => post (a ρ S2) fun w S3 => post (meW .append x [w] S3) q := by
  first
    | (simp only [post_def]; exact MP.a_app o a)
    | (simp only [post_def] at *; exact MP.a_app o a)
theorem a_sd (o a b : EM) : post (sdM o a b ρ S) q = post (o ρ S) fun x S1 => post (rcv .setdefault x S1) fun _ S2 => post (a ρ S2) fun y S3 => post (b ρ S3) fun z S4 => post (meW .setdefault x [y, z] S4) q := by
  first
    | (simp only [post_def]; exact MP.a_sd o a b)
    | (simp only [post_def] at *; exact MP.a_sd o a b)
theorem a_tst (m : EM) (q : Bool → Sto → Prop) : post (tst m ρ S) q = post (m ρ S) fun w S1 => post (truW w S1) q := by
  first
    | (simp only [post_def]; exact MP.a_tst m q)
    | (simp only [post_def] at *; exact MP.a_tst m q)
variable {Q : Fl → Sto → Prop}
theorem a_sk : post (skM ρ S) Q = Q (.nx ρ) S := by
  first
    | (simp only [post_def]; exact MP.a_sk )
    | (simp only [post_def] at *; exact MP.a_sk )
theorem a_brk : post (brkM ρ S) Q = Q (.bk ρ) S := by
  first
    | (simp only [post_def]; exact MP.a_brk )
    | (simp only [post_def] at *; exact MP.a_brk )
theorem a_cnt : post (cntM ρ S) Q = Q (.ct ρ) S := by
  first
    | (simp only [post_def]; exact MP.a_cnt )
    | (simp only [post_def] at *; exact MP.a_cnt )
theorem a_bad : post (badM ρ S) Q = False := by
  first
    | (simp only [post_def]; exact MP.a_bad )
    | (simp only [post_def] at *; exact MP.a_bad )
theorem a_ex (a : EM) : post (exM a ρ S) Q = post (a ρ S) fun _ S1 => Q (.nx ρ) S1 := by
  first
    | (simp only [post_def]; exact MP.a_ex a)
    | (simp only [post_def] at *; exact MP.a_ex a)
theorem a_ret (a : EM) : post (retM a ρ S) Q = post (a ρ S) fun w S1 => Q (.rt w) S1 := by
  first
    | (simp only [post_def]; exact MP.a_ret a)
    | (simp only [post_def] at *; exact MP.a_ret a)
theorem a_retN : post (retN ρ S) Q = Q (.rt (.d .none)) S := by
  first
    | (simp only [post_def]; exact MP.a_retN )
    | (simp only [post_def] at *; exact MP.a_retN )
theorem a_if (c : EM) (a b : SM) : post (ifM c a b ρ S) Q = post (c ρ S) fun w S1 => post (truW w S1) fun t S2 => if t = true then post (a ρ S2) Q else post (b ρ S2) Q := by
  first
    | (simp only [post_def]; exact MP.a_if c a b)
    | (simp only [post_def] at *; exact MP.a_if c a b)
theorem a_asg (i : Nat) (a : EM) : post (asgM (.nm i) a ρ S) Q = post (a ρ S) fun w S1 => Q (.nx (ρ.set i (some w))) S1 := by
  first
    | (simp only [post_def]; exact MP.a_asg i a)
    | (simp only [post_def] at *; exact MP.a_asg i a)
theorem a_asgT (is : List Nat) (a : EM) : post (asgM (.tup is) a ρ S) Q = post (a ρ S) fun w S1 => ∃ ρ', bindP (.tup is) w ρ = some ρ' ∧ Q (.nx ρ') S1 := by
  first
    | (simp only [post_def]; exact MP.a_asgT is a)
    | (simp only [post_def] at *; exact MP.a_asgT is a)
theorem a_par2 (i j : Nat) (a b : EM) : post (par2M i j (consM a (consM b nilM)) ρ S) Q = post (a ρ S) fun x S1 => post (b ρ S1) fun y S2 => Q (.nx ((ρ.set i (some x)).set j (some y))) S2 := by
  first
    | (simp only [post_def]; exact MP.a_par2 i j a b)
    | (simp only [post_def] at *; exact MP.a_par2 i j a b)
theorem a_par3 (i j l : Nat) (a b c : EM) : post (par3M i j l (consM a (consM b (consM c nilM))) ρ S) Q = post (a ρ S) fun x S1 => post (b ρ S1) fun y S2 => post (c ρ S2) fun z S3 => Q (.nx (((ρ.set i (some x)).set j (some y)).set l (some z))) S3 := by
  first
    | (simp only [post_def]; exact MP.a_par3 i j l a b c)
    | (simp only [post_def] at *; exact MP.a_par3 i j l a b c)
theorem a_set (o i e : EM) : post (setM o i e ρ S) Q = post (e ρ S) fun w S1 => post (o ρ S1) fun x S2 => post (i ρ S2) fun y S3 => post (setW x y w S3) fun _ S4 => Q (.nx ρ) S4 := by
  first
    | (simp only [post_def]; exact MP.a_set o i e)
    | (simp only [post_def] at *; exact MP.a_set o i e)
theorem a_for (p : P) (mi : Sl → M (List D)) (b : SM) : post (foM p mi b ρ S) Q = post (mi ρ S) fun items S1 => post (forM p b items ρ S1) Q := by
  first
    | (simp only [post_def]; exact MP.a_for p mi b)
    | (simp only [post_def] at *; exact MP.a_for p mi b)
theorem for_nil (p : P) (b : SM) : post (forM p b [] ρ S) Q = Q (.nx ρ) S := by
  first
    | (simp only [post_def]; exact MP.for_nil p b)
    | (simp only [post_def] at *; exact MP.for_nil p b)
theorem for_cons (p : P) (b : SM) (x : D) (r : List D) : post (forM p b (x :: r) ρ S) Q = ∃ ρ', bindP p (.d x) ρ = some ρ' ∧ post (b ρ' S) (fun f S1 => match f with
    | .nx ρ2 => post (forM p b r ρ2 S1) Q
    | .ct ρ2 => post (forM p b r ρ2 S1) Q
    | .bk ρ2 => Q (.nx ρ2) S1
    | .rt w => Q (.rt w) S1) := by
  first
    | (simp only [post_def]; exact MP.for_cons p b x r)
    | (simp only [post_def] at *; exact MP.for_cons p b x r)
theorem for_inv {p : P} {b : SM} {Q : Fl → Sto → Prop} (I : Nat → Sl → Sto → Prop) : ∀ (items : List D) (n : Nat), (∀ (i : Nat) (x : D) ρ S, items[i]? = some x → I (n + i) ρ S → ∃ ρ', bindP p (.d x) ρ = some ρ' ∧ post (b ρ' S) (fun f S1 => match f with
    | .nx ρ2 => I (n + i + 1) ρ2 S1
    | .ct ρ2 => I (n + i + 1) ρ2 S1
    | .bk ρ2 => False
    | .rt w => False)) → (∀ ρ S, I (n + items.length) ρ S → Q (.nx ρ) S) → ∀ ρ S, I n ρ S → post (forM p b items ρ S) Q := by
  first
    | (simp only [post_def]; exact MP.for_inv I)
    | (simp only [post_def] at *; exact MP.for_inv I)
theorem a_seq (a : EM) (q : List D → Sto → Prop) : post (seqI a ρ S) q = post (a ρ S) fun w S1 => ∃ xs, itemsOf .seq [w] = some xs ∧ q xs S1 := by
  first
    | (simp only [post_def]; exact MP.a_seq a q)
    | (simp only [post_def] at *; exact MP.a_seq a q)
theorem a_enum (ms : AM) (q : List D → Sto → Prop) : post (enumI ms ρ S) q = post (ms ρ S) fun w S1 => ∃ xs, itemsOf .enum w = some xs ∧ q xs S1 := by
  first
    | (simp only [post_def]; exact MP.a_enum ms q)
    | (simp only [post_def] at *; exact MP.a_enum ms q)
theorem a_rng1 (a : EM) (q : List D → Sto → Prop) : post (rng1I (consM a nilM) ρ S) q = post (a ρ S) fun w S1 => ∃ xs, itemsOf .rng [w] = some xs ∧ q xs S1 := by
  first
    | (simp only [post_def]; exact MP.a_rng1 a q)
    | (simp only [post_def] at *; exact MP.a_rng1 a q)
theorem a_rng2 (a b : EM) (q : List D → Sto → Prop) : post (rng2I (consM a (consM b nilM)) ρ S) q = post (a ρ S) fun w S1 => post (b ρ S1) fun u S2 => ∃ xs, itemsOf .rng [w, u] = some xs ∧ q xs S2 := by
  first
    | (simp only [post_def]; exact MP.a_rng2 a b q)
    | (simp only [post_def] at *; exact MP.a_rng2 a b q)
theorem a_lc (mi : Sl → M (List D)) (p : P) (own : List Nat) (mt : Sl → M Bool) (me : EM) : post (lcE mi p own mt me ρ S) q = post (mi ρ S) fun items S1 => post (lcM (lcT p own mt me ρ) items S1) fun ys S2 => ys.length ≤ SZ ∧ q (.d (.list ys)) S2 := by
  first
    | (simp only [post_def]; exact MP.a_lc mi p own mt me)
    | (simp only [post_def] at *; exact MP.a_lc mi p own mt me)
theorem lc_inv {turn : D → M (Option D)} {q : List D → Sto → Prop} (I : List D → Sto → Prop) (R : Nat → D → Prop) : ∀ (items : List D) (n : Nat) (acc : List D), (∀ (i : Nat) (x : D) acc S, items[i]? = some x → I acc S → acc.length = n + i → post (turn x S) (fun y S1 => ∃ z, y = some z ∧ I (acc ++ [z]) S1)) → acc.length = n →
    (∀ acc S, I acc S → acc.length = n + items.length → q acc S) → ∀ S, I acc S → post (lcM turn items S) (fun ys S1 => q (acc ++ ys) S1) := by
  first
    | (simp only [post_def]; exact MP.lc_inv I R)
    | (simp only [post_def] at *; exact MP.lc_inv I R)
theorem v_add (i j : Int) : post (binW .add (.d (.int i)) (.d (.int j)) S) q = q (.d (.int (i + j))) S := by
  first
    | (simp only [post_def]; exact MP.v_add i j)
    | (simp only [post_def] at *; exact MP.v_add i j)
theorem v_sub (i j : Int) : post (binW .sub (.d (.int i)) (.d (.int j)) S) q = q (.d (.int (i - j))) S := by
  first
    | (simp only [post_def]; exact MP.v_sub i j)
    | (simp only [post_def] at *; exact MP.v_sub i j)
theorem v_band (i j : Int) : post (binW .band (.d (.int i)) (.d (.int j)) S) q = q (.d (.int (Builtin.bitAnd i j))) S := by
  first
    | (simp only [post_def]; exact MP.v_band i j)
    | (simp only [post_def] at *; exact MP.v_band i j)
theorem bin_pos {o : B2} {x y z : D} (h : binD o x y = some z) : post (binW o (.d x) (.d y) S) q = q (.d z) S := by
  first
    | (simp only [post_def]; exact MP.bin_pos h)
    | (simp only [post_def] at *; exact MP.bin_pos h)
theorem v_mul {i j : Int} (h : (-(2 ^ 64) < i ∧ i < 2 ^ 64) ∨ (-(2 ^ 64) < j ∧ j < 2 ^ 64)) : post (binW .mul (.d (.int i)) (.d (.int j)) S) q = q (.d (.int (i * j))) S := by
  first
    | (simp only [post_def]; exact MP.v_mul h)
    | (simp only [post_def] at *; exact MP.v_mul h)
theorem v_fdiv {i j : Int} (h : 0 < j ∧ j < 18446744073709551616) : post (binW .fdiv (.d (.int i)) (.d (.int j)) S) q = q (.d (.int (i / j))) S := by
  first
    | (simp only [post_def]; exact MP.v_fdiv h)
    | (simp only [post_def] at *; exact MP.v_fdiv h)
theorem v_mod {i j : Int} (h : 0 < j) : post (binW .mod (.d (.int i)) (.d (.int j)) S) q = q (.d (.int (i % j))) S := by
  first
    | (simp only [post_def]; exact MP.v_mod h)
    | (simp only [post_def] at *; exact MP.v_mod h)
theorem v_pow {i j : Int} (h : 0 ≤ j ∧ j ≤ 1000000 ∧ i.natAbs < 2 ^ 64) : post (binW .pow (.d (.int i)) (.d (.int j)) S) q = q (.d (.int (i ^ j.toNat))) S := by
  first
    | (simp only [post_def]; exact MP.v_pow h)
    | (simp only [post_def] at *; exact MP.v_pow h)
theorem v_cat {xs ys : List D} (h : xs.length + ys.length ≤ SZ) : post (binW .add (.d (.tuple xs)) (.d (.tuple ys)) S) q = q (.d (.tuple (xs ++ ys))) S := by
  first
    | (simp only [post_def]; exact MP.v_cat h)
    | (simp only [post_def] at *; exact MP.v_cat h)
theorem v_catL {xs ys : List D} (h : xs.length + ys.length ≤ SZ) : post (binW .add (.d (.list xs)) (.d (.list ys)) S) q = q (.d (.list (xs ++ ys))) S := by
  first
    | (simp only [post_def]; exact MP.v_catL h)
    | (simp only [post_def] at *; exact MP.v_catL h)
theorem v_rep {xs : List D} {k : Int} (h : xs ≠ [] ∧ 2 ≤ k ∧ (xs.length : Int) * k ≤ 1000000) : post (binW .mul (.d (.tuple xs)) (.d (.int k)) S) q = q (.d (.tuple (List.replicate k.toNat xs).flatten)) S := by
  first
    | (simp only [post_def]; exact MP.v_rep h)
    | (simp only [post_def] at *; exact MP.v_rep h)
theorem v_neg (i : Int) : post (negW (.d (.int i)) S) q = q (.d (.int (-i))) S := by
  first
    | (simp only [post_def]; exact MP.v_neg i)
    | (simp only [post_def] at *; exact MP.v_neg i)
section
variable {qb : Bool → Sto → Prop}
theorem v_trB (b : Bool) : post (truW (.d (.bool b)) S) qb = qb b S := by
  first
    | (simp only [post_def]; exact MP.v_trB b)
    | (simp only [post_def] at *; exact MP.v_trB b)
theorem v_trI (i : Int) : post (truW (.d (.int i)) S) qb = qb (i != 0) S := by
  first
    | (simp only [post_def]; exact MP.v_trI i)
    | (simp only [post_def] at *; exact MP.v_trI i)
theorem v_trN : post (truW (.d .none) S) qb = qb false S := by
  first
    | (simp only [post_def]; exact MP.v_trN )
    | (simp only [post_def] at *; exact MP.v_trN )
theorem v_lt (i j : Int) : post (cmpW .lt (.d (.int i)) (.d (.int j)) S) qb = qb (decide (i < j)) S := by
  first
    | (simp only [post_def]; exact MP.v_lt i j)
    | (simp only [post_def] at *; exact MP.v_lt i j)
theorem v_le (i j : Int) : post (cmpW .le (.d (.int i)) (.d (.int j)) S) qb = qb (decide (i ≤ j)) S := by
  first
    | (simp only [post_def]; exact MP.v_le i j)
    | (simp only [post_def] at *; exact MP.v_le i j)
theorem v_gt (i j : Int) : post (cmpW .gt (.d (.int i)) (.d (.int j)) S) qb = qb (decide (j < i)) S := by
  first
    | (simp only [post_def]; exact MP.v_gt i j)
    | (simp only [post_def] at *; exact MP.v_gt i j)
theorem v_ge (i j : Int) : post (cmpW .ge (.d (.int i)) (.d (.int j)) S) qb = qb (decide (j ≤ i)) S := by
  first
    | (simp only [post_def]; exact MP.v_ge i j)
    | (simp only [post_def] at *; exact MP.v_ge i j)
theorem v_eqI (i j : Int) : post (cmpW .eq (.d (.int i)) (.d (.int j)) S) qb = qb (i == j) S := by
  first
    | (simp only [post_def]; exact MP.v_eqI i j)
    | (simp only [post_def] at *; exact MP.v_eqI i j)
theorem v_neI (i j : Int) : post (cmpW .ne (.d (.int i)) (.d (.int j)) S) qb = qb (!(i == j)) S := by
  first
    | (simp only [post_def]; exact MP.v_neI i j)
    | (simp only [post_def] at *; exact MP.v_neI i j)
theorem v_eqS (x y : Str) : post (cmpW .eq (.d (.str x)) (.d (.str y)) S) qb = qb (x == y) S := by
  first
    | (simp only [post_def]; exact MP.v_eqS x y)
    | (simp only [post_def] at *; exact MP.v_eqS x y)
theorem v_neS (x y : Str) : post (cmpW .ne (.d (.str x)) (.d (.str y)) S) qb = qb (!(x == y)) S := by
  first
    | (simp only [post_def]; exact MP.v_neS x y)
    | (simp only [post_def] at *; exact MP.v_neS x y)
theorem v_isn (x : W) : post (cmpW .isn x (.d .none) S) qb = qb (isNone x) S := by
  first
    | (simp only [post_def]; exact MP.v_isn x)
    | (simp only [post_def] at *; exact MP.v_isn x)
theorem v_isnn (x : W) : post (cmpW .isnn x (.d .none) S) qb = qb (!isNone x) S := by
  first
    | (simp only [post_def]; exact MP.v_isnn x)
    | (simp only [post_def] at *; exact MP.v_isnn x)
theorem v_eqD {x y : D} {b : Bool} (h : eqD x y = some b) : post (cmpW .eq (.d x) (.d y) S) qb = qb b S := by
  first
    | (simp only [post_def]; exact MP.v_eqD h)
    | (simp only [post_def] at *; exact MP.v_eqD h)
theorem v_neD {x y : D} {b : Bool} (h : eqD x y = some b) : post (cmpW .ne (.d x) (.d y) S) qb = qb (!b) S := by
  first
    | (simp only [post_def]; exact MP.v_neD h)
    | (simp only [post_def] at *; exact MP.v_neD h)
end
theorem v_ixT {xs : List D} {k : Int} {x : D} (h : L2.atI xs k = some x) : post (subW (.d (.tuple xs)) (.d (.int k)) S) q = q (.d x) S := by
  first
    | (simp only [post_def]; exact MP.v_ixT h)
    | (simp only [post_def] at *; exact MP.v_ixT h)
theorem v_ixL {xs : List D} {k : Int} {x : D} (h : L2.atI xs k = some x) : post (subW (.d (.list xs)) (.d (.int k)) S) q = q (.d x) S := by
  first
    | (simp only [post_def]; exact MP.v_ixL h)
    | (simp only [post_def] at *; exact MP.v_ixL h)
theorem v_ixR {i : Nat} {xs : List W} {k : Int} {x : W} (e : S[i]? = some (.lst xs)) (h : L2.atI xs k = some x) : post (subW (.r i) (.d (.int k)) S) q = q x S := by
  first
    | (simp only [post_def]; exact MP.v_ixR e h)
    | (simp only [post_def] at *; exact MP.v_ixR e h)
theorem v_setR {i j : Nat} {xs : List W} {k : Int} {w : W} {qu : Unit → Sto → Prop} (e : S[i]? = some (.lst xs)) (h : ixN xs.length k = some j) : post (setW (.r i) (.d (.int k)) w S) qu = qu () (S.set i (.lst (xs.set j w))) := by
  first
    | (simp only [post_def]; exact MP.v_setR e h)
    | (simp only [post_def] at *; exact MP.v_setR e h)
theorem v_b1 {f : B1} {xs : List D} {y : D} (h1 : f ≠ .len) (h2 : f ≠ .tuple) (h : b1D f xs = some y) : post (b1W f (xs.map .d) S) q = q (.d y) S := by
  first
    | (simp only [post_def]; exact MP.v_b1 h1 h2 h)
    | (simp only [post_def] at *; exact MP.v_b1 h1 h2 h)
theorem v_int (i : Int) : post (b1W .int [.d (.int i)] S) q = q (.d (.int i)) S := by
  first
    | (simp only [post_def]; exact MP.v_int i)
    | (simp only [post_def] at *; exact MP.v_int i)
theorem v_abs (i : Int) : post (b1W .abs [.d (.int i)] S) q = q (.d (.int (if i < 0 then -i else i))) S := by
  first
    | (simp only [post_def]; exact MP.v_abs i)
    | (simp only [post_def] at *; exact MP.v_abs i)
theorem v_lenT (xs : List D) : post (b1W .len [.d (.tuple xs)] S) q = q (.d (.int xs.length)) S := by
  first
    | (simp only [post_def]; exact MP.v_lenT xs)
    | (simp only [post_def] at *; exact MP.v_lenT xs)
theorem v_lenL (xs : List D) : post (b1W .len [.d (.list xs)] S) q = q (.d (.int xs.length)) S := by
  first
    | (simp only [post_def]; exact MP.v_lenL xs)
    | (simp only [post_def] at *; exact MP.v_lenL xs)
theorem v_tupL (xs : List D) : post (b1W .tuple [.d (.list xs)] S) q = q (.d (.tuple xs)) S := by
  first
    | (simp only [post_def]; exact MP.v_tupL xs)
    | (simp only [post_def] at *; exact MP.v_tupL xs)
theorem v_lstL (xs : List D) : post (b1W .list [.d (.list xs)] S) q = q (.d (.list xs)) S := by
  first
    | (simp only [post_def]; exact MP.v_lstL xs)
    | (simp only [post_def] at *; exact MP.v_lstL xs)
theorem v_repr {x : D} {z : Str} (h : reprD x = some z) : post (b1W .repr [.d x] S) q = q (.d (.str z)) S := by
  first
    | (simp only [post_def]; exact MP.v_repr h)
    | (simp only [post_def] at *; exact MP.v_repr h)
end
theorem v_isi {S : Sto} {q : W → Sto → Prop} {T : String} {x : D} {b : Bool} (h : isI T x = some b) : post (b1W (.isI T) [.d x] S) q = q (.d (.bool b)) S := by
  first
    | (simp only [post_def]; exact MP.v_isi h)
    | (simp only [post_def] at *; exact MP.v_isi h)
end MP.Q0

namespace MP.Q0
open PySem L2 PySem.Spec PyProof.Rows
theorem roll_ok {c0 c1 many : Int} {R : Sto} {q : W → Sto → Prop} (h0 : 0 ≤ c0) (hm : 0 < many ∧ many < 18446744073709551616)
    (k : ∀ v c0' c1', 0 ≤ v → v < many → 0 ≤ c0' → q (.d (.int v)) (.lst [.d (.int c0'), .d (.int c1')] :: R)) : post (m__law_roll [.r 0, .d (.int many)] (.lst [.d (.int c0), .d (.int c1)] :: R)) q := by
  first
    | (simp only [post_def]; exact MP.roll_ok h0 hm k)
    | (simp only [post_def] at *; exact MP.roll_ok h0 hm k)
theorem some_ok {c0 c1 : Int} {R : Sto} {q : W → Sto → Prop} {xs : List D} {w : W} (hw : w = .d (.list xs) ∨ w = .d (.tuple xs)) (h0 : 0 ≤ c0) (hx : xs ≠ []) (hl : xs.length < 1000)
    (k : ∀ x c0' c1', x ∈ xs → 0 ≤ c0' → q (.d x) (.lst [.d (.int c0'), .d (.int c1')] :: R)) : post (m__law_some [.r 0, w] (.lst [.d (.int c0), .d (.int c1)] :: R)) q := by
  first
    | (simp only [post_def]; exact MP.some_ok hw h0 hx hl k)
    | (simp only [post_def] at *; exact MP.some_ok hw h0 hx hl k)
theorem cup_ok {ns : List Int} {q : W → Sto → Prop} (hl : ns.length ≤ 63) (k : ∀ c0 c1 : Int, 0 ≤ c0 → q (.r 0) [.lst [.d (.int c0), .d (.int c1)]]) : post (m__law_cup [.d (.list (ns.map .int))] []) q := by
  first
    | (simp only [post_def]; exact MP.cup_ok hl k)
    | (simp only [post_def] at *; exact MP.cup_ok hl k)
theorem lc_map {turn : D → M (Option D)} {f : D → D} {S : Sto} {q : List D → Sto → Prop} : ∀ (items : List D), (∀ x ∈ items, ∀ q : Option D → Sto → Prop, q (some (f x)) S → post (turn x S) q) → q (items.map f) S → post (lcM turn items S) q := by
  first
    | (simp only [post_def]; exact MP.lc_map )
    | (simp only [post_def] at *; exact MP.lc_map )
theorem lc_filter {turn : D → M (Option D)} {f : D → D} {p : D → Bool} {S : Sto} {q : List D → Sto → Prop} : ∀ (items : List D), (∀ x ∈ items, ∀ q : Option D → Sto → Prop, q (if p x = true then some (f x) else none) S → post (turn x S) q) → q ((items.filter p).map f) S → post (lcM turn items S) q := by
  first
    | (simp only [post_def]; exact MP.lc_filter )
    | (simp only [post_def] at *; exact MP.lc_filter )
theorem v_all {S : Sto} {q : W → Sto → Prop} {α : Type} (g : α → Bool) (xs : List α) : post (b1W .all [.d (.list (xs.map fun x => (PyData.bool (g x) : D)))] S) q = q (.d (.bool (xs.all g))) S := by
  first
    | (simp only [post_def]; exact MP.v_all g xs)
    | (simp only [post_def] at *; exact MP.v_all g xs)
theorem isw_ok {S : Sto} {q : W → Sto → Prop} {v lo hi : Int} (h : lo ≤ v ∧ v ≤ hi) (k : q (.d (.bool true)) S) : post (m_is_whole [.d (.int v), .d (.int lo), .d (.int hi)] S) q := by
  first
    | (simp only [post_def]; exact MP.isw_ok h k)
    | (simp only [post_def] at *; exact MP.isw_ok h k)
theorem whole_ok {S : Sto} {q : W → Sto → Prop} {v lo hi : Int} (h : lo ≤ v ∧ v ≤ hi) (k : q (.d .none) S) : post (m_need_whole [.d (.int v), .d (.int lo), .d (.int hi)] S) q := by
  first
    | (simp only [post_def]; exact MP.whole_ok h k)
    | (simp only [post_def] at *; exact MP.whole_ok h k)
theorem isT_ok {S : Sto} {q : W → Sto → Prop} {xs : List Int} {hi : Int} (k : q (.d (.bool (decide ((xs.length : Int) ≤ hi)))) S) : post (m_is_tuple_of [.d (T xs), .d (.int 0), .d (.int hi)] S) q := by
  first
    | (simp only [post_def]; exact MP.isT_ok k)
    | (simp only [post_def] at *; exact MP.isT_ok k)
theorem are_ok {S : Sto} {q : W → Sto → Prop} {xs : List Int} {hi : Int} (hx : oct xs) (hl : xs.length ≤ 1000) (k : q (.d (.bool (decide ((xs.length : Int) ≤ hi)))) S) : post (m_are_octets [.d (T xs), .d (.int hi)] S) q := by
  first
    | (simp only [post_def]; exact MP.are_ok hx hl k)
    | (simp only [post_def] at *; exact MP.are_ok hx hl k)
theorem need_ok {S : Sto} {q : W → Sto → Prop} {xs : List Int} {lo hi : Int} (hx : oct xs) (hl : lo ≤ xs.length ∧ (xs.length : Int) ≤ hi ∧ hi ≤ 1000) (k : q (.d .none) S) : post (m_need_octets [.d (T xs), .d (.int lo), .d (.int hi)] S) q := by
  first
    | (simp only [post_def]; exact MP.need_ok hx hl k)
    | (simp only [post_def] at *; exact MP.need_ok hx hl k)
theorem ord_turn {S : Sto} {q : W → Sto → Prop} {c : Nat} : post (b1W .ord [.d (.str ⟨#[c]⟩)] S) q = q (.d (.int (c : Nat))) S := by
  first
    | (simp only [post_def]; exact MP.ord_turn )
    | (simp only [post_def] at *; exact MP.ord_turn )
theorem text_ok {S : Sto} {q : W → Sto → Prop} {z : Str} (hz : z.cps.toList.length ≤ 1000) (k : q (.d (T (cpsI z))) S) : post (m_text_octets [.d (.str z)] S) q := by
  first
    | (simp only [post_def]; exact MP.text_ok hz k)
    | (simp only [post_def] at *; exact MP.text_ok hz k)
theorem ltext_ok {S : Sto} {q : W → Sto → Prop} {z : Str} (hz : z.cps.toList.length ≤ 1000) (k : q (.d (T (cpsI z))) S) : post (m__law_text [.d (.str z)] S) q := by
  first
    | (simp only [post_def]; exact MP.ltext_ok hz k)
    | (simp only [post_def] at *; exact MP.ltext_ok hz k)
theorem fits_ok {S : Sto} {q : W → Sto → Prop} {o : Int} (k : q (.d (.bool (fits o))) S) : post (m_fits_sign [.d (.int o)] S) q := by
  first
    | (simp only [post_def]; exact MP.fits_ok k)
    | (simp only [post_def] at *; exact MP.fits_ok k)
theorem name_ok {S : Sto} {q : W → Sto → Prop} {xs : List Int} (hx : oct xs) (hl : xs.length ≤ 1000) (k : q (.d (.bool (decide ((xs.length : Int) ≤ 12) && (decide (xs ≠ []) && xs.all fits)))) S) : post (m_is_file_name [.d (T xs)] S) q := by
  first
    | (simp only [post_def]; exact MP.name_ok hx hl k)
    | (simp only [post_def] at *; exact MP.name_ok hx hl k)
theorem tgt_ok {S : Sto} {q : W → Sto → Prop} {xs : List Int} (hx : oct xs) (hn : xs ≠ []) (hl : xs.length ≤ 40) (k : q (.d (targetR xs)) S) : post (m_target_of [.d (T xs)] S) q := by
  first
    | (simp only [post_def]; exact MP.tgt_ok hx hn hl k)
    | (simp only [post_def] at *; exact MP.tgt_ok hx hn hl k)
theorem oddC_ok {S : Sto} {q : Bool → Sto → Prop} {x0 x1 : Option W} {o : Int} (k : q (!fits o) S) : post (tst oddC [x0, x1, some (.d (.int o))] S) q := by
  first
    | (simp only [post_def]; exact MP.oddC_ok k)
    | (simp only [post_def] at *; exact MP.oddC_ok k)
theorem ltgt_ok {S : Sto} {q : W → Sto → Prop} {xs : List Int} (hn : xs ≠ []) (hl : xs.length ≤ 40) (k : q (.d (targetR xs)) S) : post (m__law_target [.d (T xs)] S) q := by
  first
    | (simp only [post_def]; exact MP.ltgt_ok hn hl k)
    | (simp only [post_def] at *; exact MP.ltgt_ok hn hl k)
theorem v_catS {S : Sto} {q : W → Sto → Prop} {x y : Str} (h : x.length + y.length ≤ SZ) : post (binW .add (.d (.str x)) (.d (.str y)) S) q = q (.d (.str (x ++ y))) S := by
  first
    | (simp only [post_def]; exact MP.v_catS h)
    | (simp only [post_def] at *; exact MP.v_catS h)
theorem v_catT {S : Sto} {q : W → Sto → Prop} {xs ys : List Int} (h : xs.length + ys.length ≤ 1000000) : post (binW .add (.d (T xs)) (.d (T ys)) S) q = q (.d (T (xs ++ ys))) S := by
  first
    | (simp only [post_def]; exact MP.v_catT h)
    | (simp only [post_def] at *; exact MP.v_catT h)
theorem v_str {S : Sto} {q : W → Sto → Prop} {v : Int} (h : v.natAbs.log2 < 1920) : post (b1W .str [.d (.int v)] S) q = q (.d (.str (toString v : String))) S := by
  first
    | (simp only [post_def]; exact MP.v_str h)
    | (simp only [post_def] at *; exact MP.v_str h)
theorem tag_ok {S : Sto} {q : W → Sto → Prop} {v : Int} (h0 : 0 ≤ v) (h : v ≤ 1000000000000000) (k : q (.d (T (tagI v))) S) : post (m_tag_of [.d (.int v)] S) q := by
  first
    | (simp only [post_def]; exact MP.tag_ok h0 h k)
    | (simp only [post_def] at *; exact MP.tag_ok h0 h k)
theorem ltag_ok {S : Sto} {q : W → Sto → Prop} {v : Int} (h0 : 0 ≤ v) (h : v < 10 ^ 16) (k : q (.d (T (tagI v))) S) : post (m__law_tag [.d (.int v)] S) q := by
  first
    | (simp only [post_def]; exact MP.ltag_ok h0 h k)
    | (simp only [post_def] at *; exact MP.ltag_ok h0 h k)
theorem fit_ok {S : Sto} {q : W → Sto → Prop} {xs : List Int} {ver : Option Int} (hx : oct xs) (hl : xs.length ≤ 100) (hv : ∀ v, ver = some v → 1 ≤ v ∧ v ≤ 1000000000000000) (k : q (.d (.bool (fitR xs ver))) S) : post (m_fits_tag [.d (T xs), verW ver] S) q := by
  first
    | (simp only [post_def]; exact MP.fit_ok hx hl hv k)
    | (simp only [post_def] at *; exact MP.fit_ok hx hl hv k)
theorem lfit_ok {S : Sto} {q : W → Sto → Prop} {xs : List Int} {ver : Option Int} (hv : ∀ v, ver = some v → 1 ≤ v ∧ v ≤ 1000000000000000) (k : q (.d (.bool (fitR xs ver))) S) : post (m__law_fits [.d (T xs), verW ver] S) q := by
  first
    | (simp only [post_def]; exact MP.lfit_ok hv k)
    | (simp only [post_def] at *; exact MP.lfit_ok hv k)
theorem dig_loop {S : Sto} {Q : Fl → Sto → Prop} {x0 : Option W} : ∀ (xs : List Int) (f : Int) (x2 : Option W), (∀ y2, Q (.nx [x0, some (.d (.int (digI f xs))), y2]) S) → post (forM (.nm 2) digB (xs.map .int) [x0, some (.d (.int f)), x2] S) Q := by
  first
    | (simp only [post_def]; exact MP.dig_loop )
    | (simp only [post_def] at *; exact MP.dig_loop )
theorem ldig_ok {S : Sto} {q : W → Sto → Prop} {xs : List Int} (k : q (.d (.int (digI 0 xs))) S) : post (m__law_digits [.d (T xs)] S) q := by
  first
    | (simp only [post_def]; exact MP.ldig_ok k)
    | (simp only [post_def] at *; exact MP.ldig_ok k)
theorem told_ok {S : Sto} {q : W → Sto → Prop} {xs : List Int} (hl : xs.length ≤ 1000) (k : q (optW (told1 xs)) S) : post (m_digits_told [.d (T xs)] S) q := by
  first
    | (simp only [post_def]; exact MP.told_ok hl k)
    | (simp only [post_def] at *; exact MP.told_ok hl k)
theorem v_slT {S : Sto} {q : W → Sto → Prop} {xs : List Int} {lo hi : Option Int} : post (slcW (.d (T xs)) lo hi S) q = q (.d (T (cut xs lo hi))) S := by
  first
    | (simp only [post_def]; exact MP.v_slT )
    | (simp only [post_def] at *; exact MP.v_slT )
theorem v_ninT {S : Sto} {q : Bool → Sto → Prop} {xs : List Int} : post (cmpW .nin (.d (.int 45)) (.d (T xs)) S) q = q (!decide (45 ∈ xs)) S := by
  first
    | (simp only [post_def]; exact MP.v_ninT )
    | (simp only [post_def] at *; exact MP.v_ninT )
theorem v_eqT0 {S : Sto} {q : Bool → Sto → Prop} {xs : List Int} : post (cmpW .eq (.d (T xs)) (.d (.tuple [])) S) q = q (decide (xs = [])) S := by
  first
    | (simp only [post_def]; exact MP.v_eqT0 )
    | (simp only [post_def] at *; exact MP.v_eqT0 )
theorem v_neT0 {S : Sto} {q : Bool → Sto → Prop} {xs : List Int} : post (cmpW .ne (.d (T xs)) (.d (.tuple [])) S) q = q (!decide (xs = [])) S := by
  first
    | (simp only [post_def]; exact MP.v_neT0 )
    | (simp only [post_def] at *; exact MP.v_neT0 )
theorem pTail_ok {S : Sto} {x0 x1 x2 x5 x6 x7 x8 : Option W} {a b : List Int} {Q : Fl → Sto → Prop} (ha : a.length ≤ 1000) (hb : b.length ≤ 1000)
    (k : Q (.rt (.d (partsD (if a = [] ∧ b = [] then none else if (okp a && okp b) = true then some (a, b) else none)))) S) : post (pTail [x0, x1, x2, some (.d (T a)), some (.d (T b)), x5, x6, x7, x8] S) Q := by
  first
    | (simp only [post_def]; exact MP.pTail_ok ha hb k)
    | (simp only [post_def] at *; exact MP.pTail_ok ha hb k)
theorem parts_ok {S : Sto} {q : W → Sto → Prop} {xs : List Int} (hl : xs.length ≤ 100) (k : q (.d (partsD (partsR xs))) S) : post (m_parts_in [.d (T xs)] S) q := by
  first
    | (simp only [post_def]; exact MP.parts_ok hl k)
    | (simp only [post_def] at *; exact MP.parts_ok hl k)
theorem v_min {S : Sto} {q : W → Sto → Prop} {i j : Int} : post (b1W .min [.d (.int i), .d (.int j)] S) q = q (.d (.int (mn i j))) S := by
  first
    | (simp only [post_def]; exact MP.v_min )
    | (simp only [post_def] at *; exact MP.v_min )
theorem v_retT {S : Sto} {ρ : Sl} {q : W → Sto → Prop} : post (tupM nilM ρ S) q = (0 ≤ SZ ∧ q (.d (T [])) S) := by
  first
    | (simp only [post_def]; exact MP.v_retT )
    | (simp only [post_def] at *; exact MP.v_retT )
theorem spanE_ok {S : Sto} {q : W → Sto → Prop} {x0 x2 x3 : Option W} {size first last : Int} (k : q (.d (if first < size ∧ first ≤ last then T [first, mn last (size - 1)] else T [])) S) : post (spanE [x0, some (.d (.int size)), x2, x3, some (.d (.int first)), some (.d (.int last))] S) q := by
  first
    | (simp only [post_def]; exact MP.spanE_ok k)
    | (simp only [post_def] at *; exact MP.spanE_ok k)
theorem span_ok {S : Sto} {q : W → Sto → Prop} {xs : List Int} {size : Int} (hx : oct xs) (hl : xs.length ≤ 100) (hs : 0 ≤ size ∧ size ≤ 300) (k : q (.d (spanR xs size)) S) : post (m_span_in [.d (T xs), .d (.int size)] S) q := by
  first
    | (simp only [post_def]; exact MP.span_ok hx hl hs k)
    | (simp only [post_def] at *; exact MP.span_ok hx hl hs k)
theorem lspE_ok {S : Sto} {q : W → Sto → Prop} {x0 x2 x3 x4 x5 x6 x9 x10 : Option W} {size first last : Int} (k : q (.d (if first < size ∧ first ≤ last then T [first, mn last (size - 1)] else T [])) S) : post (lspE [x0, some (.d (.int size)), x2, x3, x4, x5, x6, some (.d (.int first)), some (.d (.int last)), x9, x10] S) q := by
  first
    | (simp only [post_def]; exact MP.lspE_ok k)
    | (simp only [post_def] at *; exact MP.lspE_ok k)
theorem lspT_ok {S : Sto} {Q : Fl → Sto → Prop} {x0 x2 x3 x6 x7 x8 x9 x10 : Option W} {a b : List Int} {size : Int} (k : Q (.rt (.d (spanOf a b size))) S) : post (lspT [x0, some (.d (.int size)), x2, x3, some (.d (T a)), some (.d (T b)), x6, x7, x8, x9, x10] S) Q := by
  first
    | (simp only [post_def]; exact MP.lspT_ok k)
    | (simp only [post_def] at *; exact MP.lspT_ok k)
theorem place_turn {S : Sto} {x0 x1 x3 x4 x5 x6 x7 x8 x9 x10 : Option W} {rest : List Int} {i : Nat} {o : Int} {q : Option D → Sto → Prop} (ho : rest[i]? = some o) (h : q (if (o == 45) = true then some (.int (i : Int)) else none) S) : post (lcT (.nm 9) [9] (tst (cmpM .eq (subM (vM 2) (vM 9)) (kM (.int 45)))) (vM 9) [x0, x1, some (.d (T rest)), x3, x4, x5, x6, x7, x8, x9, x10] (.int (i : Int)) S) q := by
  first
    | (simp only [post_def]; exact MP.place_turn ho h)
    | (simp only [post_def] at *; exact MP.place_turn ho h)
theorem odd_turn {S : Sto} {x0 x1 x2 x3 x4 x5 x6 x7 x8 x9 x10 : Option W} {o : Int} {q : Option D → Sto → Prop} (h : q (if (!dg o) = true then some (.int o) else none) S) : post (lcT (.nm 10) [10] (tst (orM (cmpM .lt (vM 10) (kM (.int 48))) (cmpM .gt (vM 10) (kM (.int 57))))) (vM 10) [x0, x1, x2, x3, x4, x5, x6, x7, x8, x9, x10] (.int o) S) q := by
  first
    | (simp only [post_def]; exact MP.odd_turn h)
    | (simp only [post_def] at *; exact MP.odd_turn h)
theorem P5_ok {S : Sto} {x0 x1 x2 x3 x6 x7 x8 x9 x10 : Option W} {a b : List Int} {Q : Fl → Sto → Prop} (hl : a.length + b.length ≤ 1000)
    (k : if (okp a && okp b) = true then Q (.nx [x0, x1, x2, x3, some (.d (T a)), some (.d (T b)), x6, x7, x8, x9, x10]) S else Q (.rt (.d .none)) S) : post (lspP5 [x0, x1, x2, x3, some (.d (T a)), some (.d (T b)), x6, x7, x8, x9, x10] S) Q := by
  first
    | (simp only [post_def]; exact MP.P5_ok hl k)
    | (simp only [post_def] at *; exact MP.P5_ok hl k)
end MP.Q0

namespace MP.Q0
open PySem L2 PySem.Spec PyProof.Rows
def lspA1 : SM := asgM (.nm 2) (slcM (vM 0) (soM (kM (.int 6))) (noM))
theorem A1_ok {S : Sto} {xs : List Int} {x1 x2 x3 x4 x5 x6 x7 x8 x9 x10 : Option W} {Q : Fl → Sto → Prop} (k : Q (.nx [some (.d (T xs)), x1, some (.d (T (xs.drop 6))), x3, x4, x5, x6, x7, x8, x9, x10]) S) : post (lspA1 [some (.d (T xs)), x1, x2, x3, x4, x5, x6, x7, x8, x9, x10] S) Q := by
  have d6 : cut xs (some 6) none = xs.drop 6 := cutFrom (n := 6)
  unfold lspA1
  simp (implicitDefEqProofs := false) only [a_asg, a_slc, a_so, a_no, a_v, a_k, getV_cons0, getV_cons, List.set_cons_zero, List.set_cons_succ, post_ret, asOI, v_slT, d6]
  exact k
def lspA2 : SM := asgM (.nm 3) (lcE (rng1I (consM (biM .len (consM (vM 2) (nilM))) (nilM))) (.nm 9) [9] (tst (cmpM .eq (subM (vM 2) (vM 9)) (kM (.int 45)))) (vM 9))
theorem A2_ok {S : Sto} {rs : List Int} {x0 x1 x3 x4 x5 x6 x7 x8 x9 x10 : Option W} {Q : Fl → Sto → Prop} (rl : rs.length ≤ 100) (k : Q (.nx [x0, x1, some (.d (T rs)), some (.d (.list ((dashes 0 rs).map .int))), x4, x5, x6, x7, x8, x9, x10]) S) : post (lspA2 [x0, x1, some (.d (T rs)), x3, x4, x5, x6, x7, x8, x9, x10] S) Q := by
  unfold lspA2
  simp (implicitDefEqProofs := false) only [a_asg, a_lc, a_rng1, a_bi, a_cons', a_nil', a_v, getV_cons0, getV_cons, post_ret, v_lenT, List.length_map]
  refine ⟨_, items_rng (by omega), ?_⟩
  rw [Int.toNat_natCast]
  refine lc_filter (p := pR rs) (f := id) ((List.range rs.length).map fun (i : Nat) => (PyData.int (i : Int) : D)) ?_ ?_
  · intro y m q h
    obtain ⟨i, hi, rfl⟩ := List.mem_map.mp m
    have hi := List.mem_range.mp hi
    refine place_turn (List.getElem?_eq_getElem hi) ?_
    have ep : pR rs (.int (i : Int)) = (rs[i] == 45) := by
      show (rs[((i : Nat) : Int).toNat]? == some 45) = _
      rw [Int.toNat_natCast, List.getElem?_eq_getElem hi]
      rfl
    rw [ep] at h
    exact h
  · have hr := range_filter rs []
    rw [List.nil_append, List.length_nil, ← List.range_eq_range'] at hr
    rw [hr]
    have dl := dashes_len rs 0
    refine ⟨by rw [List.length_map]; show _ ≤ 16777216; omega, ?_⟩
    simp (implicitDefEqProofs := false) only [List.set_cons_zero, List.set_cons_succ]
    exact k
def lspA3 : SM := ifM (orM (cmpM .ne (slcM (vM 0) (noM) (soM (kM (.int 6)))) (callM m__law_text (consM (kM (.str "bytes=")) (nilM)))) (orM (cmpM .ne (biM .len (consM (vM 3) (nilM))) (kM (.int 1))) (cmpM .eq (vM 2) (tupM (consM (kM (.int 45)) (nilM)))))) (retM (kM .none)) (skM)
theorem A3_ok {S : Sto} {xs rs ds : List Int} {x1 x4 x5 x6 x7 x8 x9 x10 : Option W} {Q : Fl → Sto → Prop}
    (k : if xs.take 6 ≠ AH ∨ ds.length ≠ 1 ∨ rs = [45] then Q (.rt (.d .none)) S else Q (.nx [some (.d (T xs)), x1, some (.d (T rs)), some (.d (.list (ds.map .int))), x4, x5, x6, x7, x8, x9, x10]) S) :
    post (lspA3 [some (.d (T xs)), x1, some (.d (T rs)), some (.d (.list (ds.map .int))), x4, x5, x6, x7, x8, x9, x10] S) Q := by
  have c6 : cut xs none (some 6) = xs.take 6 := cutTo (n := 6)
  unfold lspA3
  simp (implicitDefEqProofs := false) only [a_if, a_or, a_cmp, a_slc, a_so, a_no, a_call, a_cons', a_nil', a_v, a_k, getV_cons0, getV_cons, post_ret, asOI, v_slT, c6]
  refine ltext_ok (by decide) ?_
  rw [cpsI_bytes, v_neD (eq_T (xs.take 6) AH)]
  simp (implicitDefEqProofs := false) only [v_trB]
  by_cases c : xs.take 6 = AH
  · rw [if_neg (by simpa using c)]
    simp (implicitDefEqProofs := false) only [a_bi, a_cons', a_nil', a_v, getV_cons0, getV_cons, post_ret, v_lenL, List.length_map, v_neI, v_trB]
    by_cases c1 : ds.length = 1
    · rw [if_neg (by simp [c1])]
      simp (implicitDefEqProofs := false) only [a_tup, a_cons', a_nil', a_k, dataOf, Option.map_some, Option.some.injEq, exists_eq_left', List.length_cons, List.length_nil]
      refine ⟨by decide, ?_⟩
      have e45 : (PyData.tuple [.int 45] : D) = T [45] := rfl
      rw [e45, v_eqD (eq_T rs [45])]
      try simp (implicitDefEqProofs := false) only [v_trB]
      by_cases c45 : rs = [45]
      · rw [if_pos (.inr (.inr c45))] at k
        rw [if_pos (decide_eq_true c45)]
        simp (implicitDefEqProofs := false) only [a_ret, a_k]
        exact k
      · rw [if_neg (by simp [c, c1, c45])] at k
        rw [if_neg (by simpa using c45), a_sk]
        exact k
    · rw [if_pos (.inr (.inl c1))] at k
      have c1' : ¬ (ds.length : Int) = 1 := by omega
      rw [if_pos (by simpa using c1')]
      simp (implicitDefEqProofs := false) only [v_trB, a_ret, a_k]
      rw [if_pos (by simpa using c1')]
      exact k
  · rw [if_pos (.inl c)] at k
    rw [if_pos (by simpa using c)]
    simp (implicitDefEqProofs := false) only [v_trB, a_ret, a_k]
    rw [if_pos (by simpa using c)]
    exact k
def lspA4 : SM := par2M 4 5 (consM (slcM (vM 2) (noM) (soM (subM (vM 3) (kM (.int 0))))) (consM (slcM (vM 2) (soM (binM .add (subM (vM 3) (kM (.int 0))) (kM (.int 1)))) (noM)) (nilM)))
theorem A4_ok {S : Sto} {rs : List Int} {n : Nat} {x0 x1 x4 x5 x6 x7 x8 x9 x10 : Option W} {Q : Fl → Sto → Prop} (k : Q (.nx [x0, x1, some (.d (T rs)), some (.d (.list (([(n : Int)] : List Int).map .int))), some (.d (T (rs.take n))), some (.d (T (rs.drop (n + 1)))), x6, x7, x8, x9, x10]) S) :
    post (lspA4 [x0, x1, some (.d (T rs)), some (.d (.list (([(n : Int)] : List Int).map .int))), x4, x5, x6, x7, x8, x9, x10] S) Q := by
  unfold lspA4
  have h0 : L2.atI (([(n : Int)] : List Int).map PyData.int) 0 = some (.int (n : Int)) := rfl
  have hp1 : (n : Int) + 1 = ((n + 1 : Nat) : Int) := by omega
  simp (implicitDefEqProofs := false) only [a_par2, a_slc, a_so, a_no, a_bin, a_sub, a_v, a_k, getV_cons0, getV_cons, post_ret]
  rw [v_ixL h0]
  simp (implicitDefEqProofs := false) only [asOI, v_slT, cutTo]
  rw [v_ixL h0]
  simp (implicitDefEqProofs := false) only [v_add, hp1, asOI, v_slT, cutFrom, List.set_cons_zero, List.set_cons_succ]
  exact k
theorem lspan_gen {A1 A2 A3 A4 A5 A6 : SM} {S : Sto} {q : W → Sto → Prop} {xs : List Int} {size : Int} (hl : xs.length ≤ 100) (k : q (.d (spanR xs size)) S)
    (h1 : A1 = lspA1) (h2 : A2 = lspA2) (h3 : A3 = lspA3) (h4 : A4 = lspA4) (h5 : A5 = lspP5) (h6 : A6 = lspT) : post (fnB 2 11 (sq A1 (sq A2 (sq A3 (sq A4 (sq A5 A6))))) [.d (T xs), .d (.int size)] S) q := by
  have rl : (xs.drop 6).length ≤ 100 := by rw [List.length_drop]; omega
  have none_of : partsR xs = none → q (.d .none) S := fun h => by
    unfold spanR at k
    rw [h] at k
    exact k
  refine post_fn rfl ?_
  rw [sq_ap]
  simp (implicitDefEqProofs := false) only [List.map_cons, List.map_nil, List.cons_append, List.nil_append, List.replicate_succ, List.replicate_zero]
  rw [h1]
  refine A1_ok ?_
  simp (implicitDefEqProofs := false) only
  rw [sq_ap, h2]
  refine A2_ok rl ?_
  simp (implicitDefEqProofs := false) only
  rw [sq_ap, h3]
  refine A3_ok ?_
  simp (implicitDefEqProofs := false) only
  split
  · rename_i c
    rw [leave_same (Nat.le_refl _)]
    refine none_of ?_
    by_cases cA : xs.take 6 = AH
    · cases hd : dashes 0 (xs.drop 6) with
      | nil =>
        unfold partsR
        rw [if_pos cA, hd]
      | cons p more =>
        obtain ⟨n, hp, hx, hm⟩ := dashes_zero hd
        subst hp
        rw [partsR_dash cA hd]
        rw [hd] at c
        rcases c with c | c | c
        · exact absurd cA c
        · have cm : more ≠ [] := fun z => c (by rw [z]; rfl)
          have hb : 45 ∈ (xs.drop 6).drop (n + 1) := Classical.byContradiction fun z => cm (hm.mpr z)
          split
          · rfl
          · rw [okp_45 hb, Bool.and_false, if_neg Bool.false_ne_true]
        · rw [if_pos ?_]
          generalize xs.drop 6 = r at hx c
          generalize ha : r.take n = a at hx
          generalize hb : r.drop (n + 1) = b at hx
          rw [hx] at c
          cases a with
          | nil => simp at c; exact ⟨rfl, c⟩
          | cons y a => simp at c
    · unfold partsR
      rw [if_neg cA]
  · rename_i c
    have cA : xs.take 6 = AH := Classical.byContradiction fun z => c (.inl z)
    have cl : (dashes 0 (xs.drop 6)).length = 1 := Classical.byContradiction fun z => c (.inr (.inl z))
    have c45 : ¬ xs.drop 6 = [45] := fun z => c (.inr (.inr z))
    obtain ⟨p, hd⟩ : ∃ p, dashes 0 (xs.drop 6) = [p] := by
      generalize dashes 0 (xs.drop 6) = l at cl
      cases l with
      | nil => cases cl
      | cons p r => cases r with
        | nil => exact ⟨p, rfl⟩
        | cons _ _ => cases cl
    obtain ⟨n, hp, hx, hm⟩ := dashes_zero hd
    subst hp
    have hP := partsR_dash cA hd
    have hne : ¬ ((xs.drop 6).take n = [] ∧ (xs.drop 6).drop (n + 1) = []) := fun z => c45 (by rw [hx, z.1, z.2]; rfl)
    rw [if_neg hne] at hP
    rw [hd, sq_ap, h4]
    refine A4_ok ?_
    simp (implicitDefEqProofs := false) only
    rw [sq_ap, h5]
    refine P5_ok (by rw [List.length_take, List.length_drop, List.length_drop]; omega) ?_
    unfold spanR at k
    rw [hP] at k
    by_cases co : (okp ((xs.drop 6).take n) && okp ((xs.drop 6).drop (n + 1))) = true
    · rw [if_pos co] at k ⊢
      simp (implicitDefEqProofs := false) only
      rw [h6]
      refine lspT_ok ?_
      simp (implicitDefEqProofs := false) only
      rw [leave_same (Nat.le_refl _)]
      exact k
    · rw [if_neg co] at k ⊢
      simp (implicitDefEqProofs := false) only
      rw [leave_same (Nat.le_refl _)]
      exact k
theorem lspan_ok {S : Sto} {q : W → Sto → Prop} {xs : List Int} {size : Int} (hl : xs.length ≤ 100) (k : q (.d (spanR xs size)) S) : post (m__law_span [.d (T xs), .d (.int size)] S) q := by
  have e : m__law_span = fnB 2 11 (sq lspA1 (sq lspA2 (sq lspA3 (sq lspA4 (sq lspP5 lspT))))) := rfl
  rw [e]
  exact lspan_gen hl k rfl rfl rfl rfl rfl rfl
end MP.Q0

namespace MP.Q0
open PySem L2 PySem.Spec PyProof.Rows
abbrev cupO (a b : Int) : O := .lst [.d (.int a), .d (.int b)]
/-! ### draws -/
theorem lc_draw {turn : D → M (Option D)} {P : D → Prop} {q : List D → Sto → Prop} : ∀ (items : List D) (c0 c1 : Int), 0 ≤ c0 →
    (∀ x ∈ items, ∀ (c0 c1 : Int) (q : Option D → Sto → Prop), 0 ≤ c0 → (∀ y c0' c1', P y → 0 ≤ c0' → q (some y) [cupO c0' c1']) → post (turn x [cupO c0 c1]) q) →
    (∀ (ys : List D) (c0' c1' : Int), ys.length = items.length → (∀ y ∈ ys, P y) → 0 ≤ c0' → q ys [cupO c0' c1']) → post (lcM turn items [cupO c0 c1]) q
  | [], c0, c1, h0, _, k => by
    rw [show lcM turn [] = ret [] from rfl, post_ret]
    exact k [] c0 c1 rfl (fun y m => by cases m) h0
  | x :: r, c0, c1, h0, h, k => by
    unfold lcM
    rw [post_bnd]
    refine h x List.mem_cons_self c0 c1 _ h0 fun y c0' c1' hy h0' => ?_
    rw [post_bnd]
    refine lc_draw r c0' c1' h0' (fun z m => h z (List.mem_cons_of_mem _ m)) fun ys d0 d1 hl hP hd => ?_
    rw [post_ret]
    refine k (y :: ys) d0 d1 (by rw [List.length_cons, List.length_cons, hl]) (fun z m => ?_) hd
    rcases List.mem_cons.mp m with e | m
    · rw [e]; exact hy
    · exact hP z m
def isOct : D → Prop := fun d => ∃ o : Int, d = .int o ∧ 0 ≤ o ∧ o < 256
theorem octs_of : ∀ ys : List D, (∀ y ∈ ys, isOct y) → ∃ os : List Int, ys = os.map .int ∧ oct os
  | [], _ => ⟨[], rfl, fun o m => by cases m⟩
  | y :: r, h => by
    obtain ⟨o, rfl, h1, h2⟩ := h y List.mem_cons_self
    obtain ⟨os, rfl, ho⟩ := octs_of r fun z m => h z (List.mem_cons_of_mem _ m)
    refine ⟨o :: os, rfl, fun z m => ?_⟩
    rcases List.mem_cons.mp m with e | m
    · rw [e]; exact ⟨h1, h2⟩
    · exact ho z m
/-- a text of few plain signs -/
def okText (m n : Nat) (z : Str) : Prop := oct (cpsI z) ∧ m ≤ (cpsI z).length ∧ (cpsI z).length ≤ n
def okTextB (m n : Nat) (z : Str) : Bool := ((cpsI z).all fun o => decide (0 ≤ o) && decide (o < 256)) && (decide (m ≤ (cpsI z).length) && decide ((cpsI z).length ≤ n))
theorem okText_of {m n : Nat} {z : Str} (h : okTextB m n z = true) : okText m n z := by
  unfold okTextB at h
  rw [Bool.and_eq_true, Bool.and_eq_true] at h
  refine ⟨fun o hm => ?_, of_decide_eq_true h.2.1, of_decide_eq_true h.2.2⟩
  have := List.all_eq_true.mp h.1 o hm
  rw [Bool.and_eq_true] at this
  exact ⟨of_decide_eq_true this.1, of_decide_eq_true this.2⟩
theorem okTexts {m n : Nat} {ts : List String} (h : (ts.all fun (t : String) => okTextB m n (t : Str)) = true) : ∀ t ∈ ts, okText m n (t : Str) := fun t ht => okText_of (List.all_eq_true.mp h t ht)
theorem text_in {m n : Nat} {ts : List String} (h : ∀ t ∈ ts, okText m n (t : Str)) {x : D} (hm : x ∈ ts.map fun (t : String) => (PyData.str (t : Str) : D)) : ∃ z : Str, x = .str z ∧ okText m n z := by
  obtain ⟨t, ht, rfl⟩ := List.mem_map.mp hm
  exact ⟨_, rfl, h t ht⟩
theorem some_txt {c0 c1 : Int} {q : W → Sto → Prop} {m n : Nat} {ts : List String} {xs : List D} (hx : xs = ts.map fun (t : String) => (PyData.str (t : Str) : D)) (hn : ts ≠ []) (hl : ts.length < 100) (ht : (ts.all fun (t : String) => okTextB m n (t : Str)) = true) (h0 : 0 ≤ c0)
    (k : ∀ (z : Str) c0' c1', okText m n z → 0 ≤ c0' → q (.d (.str z)) [cupO c0' c1']) : post (m__law_some [.r 0, .d (.list xs)] [cupO c0 c1]) q := by
  subst hx
  refine some_ok (.inl rfl) h0 (by simpa using hn) (by rw [List.length_map]; omega) fun x a b hm ha => ?_
  obtain ⟨z, rfl, hz⟩ := text_in (okTexts ht) hm
  exact k z a b hz ha
theorem some_num {c0 c1 : Int} {q : W → Sto → Prop} {ns : List Int} {xs : List D} (hx : xs = ns.map .int) (hn : ns ≠ []) (hl : ns.length < 100) (h0 : 0 ≤ c0)
    (k : ∀ (n : Int) c0' c1', n ∈ ns → 0 ≤ c0' → q (.d (.int n)) [cupO c0' c1']) : post (m__law_some [.r 0, .d (.list xs)] [cupO c0 c1]) q := by
  subst hx
  refine some_ok (.inl rfl) h0 (by simpa using hn) (by rw [List.length_map]; omega) fun x a b m ha => ?_
  obtain ⟨z, hz, rfl⟩ := List.mem_map.mp m
  exact k z a b hz ha
theorem some_tup {c0 c1 : Int} {q : W → Sto → Prop} {ts : List (List Int)} {xs : List D} (hx : xs = ts.map fun t => (T t : D)) (hn : ts ≠ []) (hl : ts.length < 100) (h0 : 0 ≤ c0)
    (k : ∀ (t : List Int) c0' c1', t ∈ ts → 0 ≤ c0' → q (.d (T t)) [cupO c0' c1']) : post (m__law_some [.r 0, .d (.list xs)] [cupO c0 c1]) q := by
  subst hx
  refine some_ok (.inl rfl) h0 (by simpa using hn) (by rw [List.length_map]; omega) fun x a b m ha => ?_
  obtain ⟨z, hz, rfl⟩ := List.mem_map.mp m
  exact k z a b hz ha
theorem oct_app {xs ys : List Int} (h : oct xs) (h' : oct ys) : oct (xs ++ ys) := fun o m => (List.mem_append.mp m).elim (h o) (h' o)
theorem cps_len {z : Str} : z.cps.toList.length = (cpsI z).length := by unfold cpsI; rw [List.length_map]
theorem odT_ok {c0 c1 : Int} {q : W → Sto → Prop} (h0 : 0 ≤ c0) (k : ∀ (xs : List Int) c0' c1', oct xs → xs.length ≤ 40 → 0 ≤ c0' → q (.d (T xs)) [cupO c0' c1']) : post (m__law_odd_target [.r 0] [cupO c0 c1]) q := by
  refine post_fn rfl ?_
  unfold b__law_odd_target
  rw [sq_ap]
  simp (implicitDefEqProofs := false) only [a_asg, a_call, a_cons', a_nil', a_lst, a_v, a_k, getV_cons0, getV_cons, List.map_cons, List.map_nil, List.cons_append, List.nil_append, List.replicate_succ, List.replicate_zero, List.set_cons_zero, List.set_cons_succ, post_ret, dataOf, Option.map_some, Option.some.injEq, exists_eq_left', List.length_cons, List.length_nil]
  refine ⟨by decide, ?_⟩
  refine some_txt (m := 1) (n := 7) (ts := ["abz019.", "az.", "a/.", "a*/A", "a{~"]) rfl (by simp) (by simp) (by decide +kernel) h0 fun z c0 c1 hz h0 => ?_
  obtain ⟨hz1, hz2, hz3⟩ := hz
  refine ltext_ok (by rw [cps_len]; omega) ?_
  generalize cpsI z = sg at *
  rw [sq_ap]
  simp (implicitDefEqProofs := false) only [a_asg, a_bi, a_lc, a_rng1, a_call, a_cons', a_nil', a_lst, a_v, a_k, getV_cons0, getV_cons, List.set_cons_zero, List.set_cons_succ, post_ret, dataOf, Option.map_some, Option.some.injEq, exists_eq_left', List.length_cons, List.length_nil]
  refine ⟨by decide, ?_⟩
  refine some_num (ns := [0, 1, 2, 11, 12, 13, 39]) rfl (by simp) (by simp) h0 fun v c0 c1 hv h0 => ?_
  have hv2 : 0 ≤ v ∧ v ≤ 39 := by
    simp (implicitDefEqProofs := false) only [List.mem_cons, List.not_mem_nil, or_false] at hv
    omega
  refine ⟨_, items_rng (by omega), ?_⟩
  refine lc_draw (P := isOct) _ c0 c1 h0 ?_ ?_
  · intro x hx c0 c1 q h0 k
    unfold lcT
    obtain ⟨i, _, rfl⟩ := List.mem_map.mp hx
    have eb : bindP (.nm 3) (.d (.int (i : Int))) (wipeW [some (.r 0), some (.d (T sg)), none, none] [3]) = some [some (.r 0), some (.d (T sg)), none, some (.d (.int (i : Int)))] := rfl
    rw [eb]
    simp (implicitDefEqProofs := false) only [opt_some, bnd_ret, yesM, if_true, post_bnd, a_call, a_cons', a_nil', a_v, getV_cons0, getV_cons, post_ret]
    refine some_ok (.inr rfl) h0 (fun z => ?_) (by rw [List.length_map]; omega) fun x a b hm ha => ?_
    · have := congrArg List.length z
      rw [List.length_map, List.length_nil] at this
      omega
    · obtain ⟨o, ho, rfl⟩ := List.mem_map.mp hm
      simp (implicitDefEqProofs := false) only [asD, post_ret]
      exact k _ a b ⟨o, rfl, hz1 o ho⟩ ha
  · intro ys c0 c1 hl hP h0
    obtain ⟨os, rfl, hos⟩ := octs_of ys hP
    rw [List.length_map, List.length_map, List.length_range] at hl
    have hl2 : os.length ≤ 39 := by omega
    refine ⟨by rw [List.length_map]; show _ ≤ 16777216; omega, ?_⟩
    simp (implicitDefEqProofs := false) only [v_tupL, List.set_cons_zero, List.set_cons_succ]
    simp (implicitDefEqProofs := false) only [a_ret, a_ite, a_cmp, a_bin, a_tup, a_bi, a_call, a_cons', a_nil', a_lst, a_v, a_k, getV_cons0, getV_cons, post_ret, dataOf, Option.map_some, Option.some.injEq, exists_eq_left', List.length_cons, List.length_nil, v_lenT, List.length_map, v_lt, v_trB]
    by_cases c : (os.length : Int) < 39
    · rw [if_pos (decide_eq_true c)]
      refine ⟨by decide, by decide, by decide, by decide, by decide, by decide, ?_⟩
      refine some_tup (ts := [[47], [47], [47], [42], []]) rfl (by simp) (by simp) h0 fun t a b ht ha => ?_
      have ht2 : oct t ∧ t.length ≤ 1 := by
        simp (implicitDefEqProofs := false) only [List.mem_cons, List.not_mem_nil, or_false] at ht
        rcases ht with rfl | rfl | rfl | rfl | rfl
        all_goals exact ⟨fun o m => by first | (simp at m; omega) | (simp at m), by simp⟩
      rw [v_catT (by omega), leave_same (by simp)]
      refine k _ a b (oct_app ht2.1 hos) ?_ ha
      rw [List.length_append]; omega
    · rw [if_neg (by simpa using c)]
      refine ⟨by decide, ?_⟩
      have e47 : (PyData.tuple [.int 47] : D) = T [47] := rfl
      rw [e47, v_catT (by simp (implicitDefEqProofs := false) only [List.length_cons, List.length_nil]; omega), leave_same (by simp)]
      refine k _ c0 c1 (oct_app (fun o m => by simp at m; omega) hos) ?_ h0
      simp (implicitDefEqProofs := false) only [List.length_append, List.length_cons, List.length_nil]; omega
theorem odR_ok {c0 c1 : Int} {q : W → Sto → Prop} (h0 : 0 ≤ c0) (k : ∀ (xs : List Int) c0' c1', oct xs → xs.length ≤ 100 → 0 ≤ c0' → q (.d (T xs)) [cupO c0' c1']) : post (m__law_odd_range [.r 0] [cupO c0 c1]) q := by
  refine post_fn rfl ?_
  unfold b__law_odd_range
  rw [sq_ap]
  simp (implicitDefEqProofs := false) only [a_asg, a_call, a_cons', a_nil', a_lst, a_v, a_k, getV_cons0, getV_cons, List.map_cons, List.map_nil, List.cons_append, List.nil_append, List.replicate_succ, List.replicate_zero, List.set_cons_zero, List.set_cons_succ, post_ret, dataOf, Option.map_some, Option.some.injEq, exists_eq_left', List.length_cons, List.length_nil]
  refine ⟨by decide, ?_⟩
  refine some_txt (m := 0) (n := 7) (ts := ["bytes=", "bytes=", "bytes=", "bytes", "bytes= ", "Bytes=", "byte=", ""]) rfl (by simp) (by simp) (by decide +kernel) h0 fun z c0 c1 hz h0 => ?_
  obtain ⟨hz1, hz2, hz3⟩ := hz
  refine ltext_ok (by rw [cps_len]; omega) ?_
  generalize cpsI z = sg at *
  rw [sq_ap]
  simp (implicitDefEqProofs := false) only [a_for, a_rng1, a_call, a_cons', a_nil', a_lst, a_v, a_k, getV_cons0, getV_cons, List.set_cons_zero, List.set_cons_succ, post_ret, dataOf, Option.map_some, Option.some.injEq, exists_eq_left', List.length_cons, List.length_nil]
  refine ⟨by decide, ?_⟩
  refine some_num (ns := [1, 2, 3, 3, 3, 4]) rfl (by simp) (by simp) h0 fun v c0 c1 hv h0 => ?_
  have hv2 : 1 ≤ v ∧ v ≤ 4 := by
    simp (implicitDefEqProofs := false) only [List.mem_cons, List.not_mem_nil, or_false] at hv
    omega
  refine ⟨_, items_rng (by omega), ?_⟩
  refine for_inv (I := fun i ρ S => ∃ c0 c1 xs x2, 0 ≤ c0 ∧ ρ = [some (.r 0), some (.d (T xs)), x2] ∧ S = [cupO c0 c1] ∧ oct xs ∧ xs.length ≤ 7 + 7 * i) _ 0 ?_ ?_ _ _ ⟨c0, c1, sg, _, h0, rfl, rfl, hz1, by omega⟩
  · intro i x ρ S hi hI
    obtain ⟨c0, c1, xs, x2, h0, rfl, rfl, hx, hl⟩ := hI
    have hi2 : i < v.toNat := by
      have := (List.getElem?_eq_some_iff.mp hi).1
      rw [List.length_map, List.length_range] at this
      exact this
    refine ⟨_, rfl, ?_⟩
    simp (implicitDefEqProofs := false) only [List.set_cons_zero, List.set_cons_succ]
    simp (implicitDefEqProofs := false) only [a_asg, a_bin, a_call, a_cons', a_nil', a_lst, a_v, a_k, getV_cons0, getV_cons, post_ret, dataOf, Option.map_some, Option.some.injEq, exists_eq_left', List.length_cons, List.length_nil]
    refine ⟨by decide, ?_⟩
    refine some_txt (m := 0) (n := 7) (ts := ["0", "1", "4", "5", "10", "299", "300", "999999", "000000", "1000000", "-", "-", "-", "a"]) rfl (by simp) (by simp) (by decide +kernel) h0 fun z c0 c1 hz h0 => ?_
    obtain ⟨hz1, hz2, hz3⟩ := hz
    refine ltext_ok (by rw [cps_len]; omega) ?_
    rw [v_catT (by omega)]
    simp (implicitDefEqProofs := false) only [List.set_cons_zero, List.set_cons_succ]
    exact ⟨c0, c1, _, _, h0, rfl, rfl, oct_app hx hz1, by rw [List.length_append]; omega⟩
  · intro ρ S hI
    obtain ⟨c0, c1, xs, x2, h0, rfl, rfl, hx, hl⟩ := hI
    rw [List.length_map, List.length_range] at hl
    simp (implicitDefEqProofs := false) only [a_ret, a_v, getV_cons0, getV_cons, post_ret]
    rw [leave_same (by simp)]
    exact k xs c0 c1 hx (by omega) h0
end MP.Q0

namespace MP.Q0
open PySem L2 PySem.Spec PyProof.Rows
def lw0 : SM := asgM (.nm 1) (callM m__law_cup (consM (vM 0) (nilM)))
def lw1b0 : SM := asgM (.nm 3) (callM m__law_odd_target (consM (vM 1) (nilM)))
def lw1b1 : SM := ifM (andM (cmpM .ne (vM 3) (tupM (nilM))) (cmpM .ne (biM .repr (consM (callM m_target_of (consM (vM 3) (nilM))) (nilM))) (biM .repr (consM (callM m__law_target (consM (vM 3) (nilM))) (nilM))))) (retM (kM (.bool false))) (skM)
def lw1b2 : SM := asgM (.nm 4) (callM m__law_some (consM (vM 1) (consM (lstM (consM (kM .none) (consM (kM (.int 1)) (consM (kM (.int 2)) (consM (kM (.int 10)) (consM (kM (.int 99)) (consM (binM .pow (kM (.int 10)) (kM (.int 15))) (consM (binM .add (kM (.int 1)) (callM m__law_roll (consM (vM 1) (consM (kM (.int 1000)) (nilM))))) (nilM))))))))) (nilM))))
def lw1b3 : SM := asgM (.nm 5) (callM m__law_tag (consM (iteM (cmpM .isn (vM 4) (kM .none)) (kM (.int 7)) (vM 4)) (nilM)))
def lw1b4 : SM := asgM (.nm 6) (lstM (consM (vM 5) (consM (vM 5) (consM (tupM (consM (kM (.int 42)) (nilM))) (consM (tupM (nilM)) (consM (tupM (consM (kM (.int 42)) (consM (kM (.int 42)) (nilM)))) (consM (slcM (vM 5) (noM) (soM (negM (kM (.int 1))))) (consM (slcM (vM 5) (soM (kM (.int 1))) (noM)) (consM (binM .add (vM 5) (tupM (consM (kM (.int 32)) (nilM)))) (consM (binM .add (binM .add (slcM (vM 5) (noM) (soM (kM (.int 2)))) (tupM (consM (kM (.int 48)) (nilM)))) (slcM (vM 5) (soM (kM (.int 2))) (noM))) (consM (binM .add (tupM (consM (kM (.int 87)) (consM (kM (.int 47)) (nilM)))) (vM 5)) (consM (binM .add (tupM (consM (kM (.int 34)) (consM (kM (.int 86)) (nilM)))) (slcM (vM 5) (soM (kM (.int 2))) (noM))) (nilM)))))))))))))
def lw1b5 : SM := asgM (.nm 6) (binM .add (vM 6) (lstM (consM (binM .add (binM .add (vM 5) (tupM (consM (kM (.int 44)) (nilM)))) (vM 5)) (consM (binM .add (vM 5) (tupM (consM (kM (.int 44)) (consM (kM (.int 32)) (consM (kM (.int 42)) (nilM)))))) (consM (binM .add (tupM (consM (kM (.int 42)) (consM (kM (.int 44)) (nilM)))) (vM 5)) (nilM))))))
def lw1b6 : SM := asgM (.nm 7) (callM m__law_some (consM (vM 1) (consM (binM .add (vM 6) (lstM (consM (callM m__law_tag (consM (binM .add (kM (.int 1)) (callM m__law_roll (consM (vM 1) (consM (kM (.int 20)) (nilM))))) (nilM))) (nilM)))) (nilM))))
def lw1b7 : SM := ifM (cmpM .ne (biM .repr (consM (callM m_fits_tag (consM (vM 7) (consM (vM 4) (nilM)))) (nilM))) (biM .repr (consM (callM m__law_fits (consM (vM 7) (consM (vM 4) (nilM)))) (nilM)))) (retM (kM (.bool false))) (skM)
def lw1b8 : SM := par2M 8 7 (consM (callM m__law_some (consM (vM 1) (consM (lstM (consM (kM (.int 0)) (consM (kM (.int 1)) (consM (kM (.int 5)) (consM (kM (.int 300)) (consM (callM m__law_roll (consM (vM 1) (consM (kM (.int 301)) (nilM)))) (nilM))))))) (nilM)))) (consM (callM m__law_odd_range (consM (vM 1) (nilM))) (nilM)))
def lw1b9 : SM := ifM (cmpM .ne (biM .repr (consM (callM m_span_in (consM (vM 7) (consM (vM 8) (nilM)))) (nilM))) (biM .repr (consM (callM m__law_span (consM (vM 7) (consM (vM 8) (nilM)))) (nilM)))) (retM (kM (.bool false))) (skM)
def lw1b : SM := sq lw1b0 (sq lw1b1 (sq lw1b2 (sq lw1b3 (sq lw1b4 (sq lw1b5 (sq lw1b6 (sq lw1b7 (sq lw1b8 (lw1b9)))))))))
def lw1 : SM := foM (.nm 2) (rng1I (consM (kM (.int 12)) (nilM))) lw1b
def lw2b0b0 : SM := ifM (cmpM .ne (biM .repr (consM (callM m_target_of (consM (vM 3) (nilM))) (nilM))) (biM .repr (consM (callM m__law_target (consM (vM 3) (nilM))) (nilM)))) (retM (kM (.bool false))) (skM)
def lw2b0b : SM := lw2b0b0
def lw2b0 : SM := foM (.nm 3) (seqI (tupM (consM (tupM (consM (vM 9) (nilM))) (consM (tupM (consM (kM (.int 47)) (consM (vM 9) (nilM)))) (consM (tupM (consM (kM (.int 47)) (consM (kM (.int 97)) (consM (vM 9) (nilM))))) (nilM)))))) lw2b0b
def lw2b : SM := lw2b0
def lw2 : SM := foM (.nm 9) (rng2I (consM (kM (.int 33)) (consM (kM (.int 127)) (nilM)))) lw2b
def lw3 : SM := asgM (.nm 10) (callM m__law_tag (consM (binM .add (kM (.int 1)) (callM m__law_roll (consM (vM 1) (consM (kM (.int 9)) (nilM))))) (nilM)))
def lw4 : SM := asgM (.nm 11) (tupM (consM (binM .add (binM .add (vM 10) (tupM (consM (kM (.int 44)) (nilM)))) (callM m__law_tag (consM (kM (.int 2)) (nilM)))) (consM (binM .add (binM .add (callM m__law_tag (consM (kM (.int 2)) (nilM))) (tupM (consM (kM (.int 44)) (consM (kM (.int 32)) (nilM))))) (vM 10)) (consM (callM m__law_tag (consM (kM (.int 2)) (nilM))) (nilM)))))
def lw5 : SM := ifM (cmpM .ne (biM .repr (consM (lcE (seqI (vM 11)) (.nm 17) [17] (yesM) (callM m_fits_tag (consM (vM 17) (consM (kM (.int 2)) (nilM))))) (nilM))) (kM (.str "[False, False, True]"))) (retM (kM (.bool false))) (skM)
def lw6 : SM := asgM (.nm 12) (lstM (consM (kM (.str "0-0")) (consM (kM (.str "0-")) (consM (kM (.str "-1")) (consM (kM (.str "-0")) (consM (kM (.str "1-3")) (consM (kM (.str "4-9")) (consM (kM (.str "5-")) (consM (kM (.str "3-1")) (consM (kM (.str "-999999")) (consM (kM (.str "999999-")) (consM (kM (.str "000000-000004")) (nilM)))))))))))))
def lw7b0b0 : SM := asgM (.nm 7) (callM m__law_text (consM (binM .add (kM (.str "bytes=")) (vM 13)) (nilM)))
def lw7b0b1 : SM := ifM (cmpM .ne (biM .repr (consM (callM m_span_in (consM (vM 7) (consM (vM 8) (nilM)))) (nilM))) (biM .repr (consM (callM m__law_span (consM (vM 7) (consM (vM 8) (nilM)))) (nilM)))) (retM (kM (.bool false))) (skM)
def lw7b0b : SM := sq lw7b0b0 (lw7b0b1)
def lw7b0 : SM := foM (.nm 8) (seqI (tupM (consM (kM (.int 0)) (consM (kM (.int 1)) (consM (kM (.int 5)) (consM (kM (.int 300)) (nilM))))))) lw7b0b
def lw7b : SM := lw7b0
def lw7 : SM := foM (.nm 13) (seqI (binM .add (vM 12) (lstM (consM (kM (.str "299-300")) (consM (kM (.str "300-")) (consM (kM (.str "0-299")) (consM (kM (.str "-5")) (consM (kM (.str "4-")) (consM (kM (.str "0-1,3-4")) (nilM)))))))))) lw7b
def lw8 : SM := par2M 14 8 (consM (callM m__law_roll (consM (vM 1) (consM (kM (.int 300)) (nilM)))) (consM (binM .add (kM (.int 1)) (callM m__law_roll (consM (vM 1) (consM (kM (.int 300)) (nilM))))) (nilM)))
def lw9 : SM := asgM (.nm 15) (binM .add (vM 14) (callM m__law_roll (consM (vM 1) (consM (kM (.int 301)) (nilM)))))
def lw10 : SM := asgM (.nm 16) (iteM (cmpM .lt (vM 14) (vM 8)) (tupM (consM (vM 14) (consM (biM .min (consM (vM 15) (consM (binM .sub (vM 8) (kM (.int 1))) (nilM)))) (nilM)))) (tupM (nilM)))
def lw11 : SM := retM (cmpM .eq (biM .repr (consM (callM m_span_in (consM (callM m__law_text (consM (binM .add (binM .add (binM .add (kM (.str "bytes=")) (biM .str (consM (vM 14) (nilM)))) (kM (.str "-"))) (biM .str (consM (vM 15) (nilM)))) (nilM))) (consM (vM 8) (nilM)))) (nilM))) (biM .repr (consM (vM 16) (nilM))))
def lw : SM := sq lw0 (sq lw1 (sq lw2 (sq lw3 (sq lw4 (sq lw5 (sq lw6 (sq lw7 (sq lw8 (sq lw9 (sq lw10 (lw11)))))))))))

abbrev CUP (a b : Int) : Sto := [cupO a b]
theorem lc_cons {turn : D → M (Option D)} {x : D} {r : List D} {S : Sto} {q : List D → Sto → Prop} : post (lcM turn (x :: r) S) q = post (turn x S) fun y S1 => post (lcM turn r S1) fun ys S2 => q (match y with
    | some z => z :: ys
    | none => ys) S2 := by
  conv => lhs; unfold lcM
  rw [post_bnd]; congr 1; funext y S1; rw [post_bnd]; simp (implicitDefEqProofs := false) only [post_ret]; all_goals (cases y <;> rfl)
theorem lc_nil {turn : D → M (Option D)} {S : Sto} {q : List D → Sto → Prop} : post (lcM turn [] S) q = q [] S := post_ret _ _ _
theorem cut_len (xs : List Int) (lo hi : Option Int) : (cut xs lo hi).length ≤ xs.length := by
  unfold cut
  rw [List.length_take, List.length_drop]; omega
theorem cut_oct {xs : List Int} {lo hi : Option Int} (h : oct xs) : oct (cut xs lo hi) := fun o m => h o (List.mem_of_mem_drop (List.mem_of_mem_take m))
theorem dg_bound : ∀ (xs : List Int) (f : Int), xs.all dg = true → 0 ≤ f → 0 ≤ digI f xs ∧ digI f xs < (f + 1) * 10 ^ xs.length
  | [], f, _, h => ⟨h, by show f < (f + 1) * 10 ^ 0; omega⟩
  | o :: r, f, hd, h => by
    rw [List.all_cons, Bool.and_eq_true] at hd
    have ho : 48 ≤ o ∧ o ≤ 57 := by
      have := hd.1
      unfold dg at this
      rw [Bool.and_eq_true] at this
      exact ⟨of_decide_eq_true this.1, of_decide_eq_true this.2⟩
    obtain ⟨h1, h2⟩ := dg_bound r (f * 10 + o - 48) hd.2 (by omega)
    refine ⟨h1, Int.lt_of_lt_of_le h2 ?_⟩
    have e : (f + 1) * 10 ^ (o :: r).length = ((f + 1) * 10) * 10 ^ r.length := by
      rw [List.length_cons, Int.pow_succ, Int.mul_comm (10 ^ r.length) 10, ← Int.mul_assoc]
    rw [e]
    exact Int.mul_le_mul_of_nonneg_right (by omega) (Int.pow_nonneg (by omega))
theorem okp_bound {o : List Int} (h : okp o = true) : 0 ≤ digI 0 o ∧ digI 0 o < 1000000 := by
  rw [okp_iff, Bool.and_eq_true] at h
  have hl := of_decide_eq_true h.1
  obtain ⟨h1, h2⟩ := dg_bound o 0 h.2 (Int.le_refl _)
  refine ⟨h1, Int.lt_of_lt_of_le h2 ?_⟩
  have : ∀ n : Nat, n ≤ 6 → (0 + 1) * (10 : Int) ^ n ≤ 1000000 := by decide
  exact this _ hl
theorem log_ok {v : Int} (h0 : -1000 ≤ v) (h : v < 1000000) : v.natAbs.log2 < 1920 := by
  by_cases z : v.natAbs = 0
  · rw [z]; decide
  · have := (Nat.log2_lt z (k := 60)).mpr (by omega)
    omega
theorem repr_span {xs : List Int} {size : Int} (hs : 0 ≤ size ∧ size ≤ 300) : ∃ z, reprD (spanR xs size) = some z := by
  unfold spanR
  cases hp : partsR xs with
  | none => exact show ∃ z, reprD PyData.none = some z from ⟨_, if_pos (by decide +kernel)⟩
  | some ab =>
    obtain ⟨a, b⟩ := ab
    obtain ⟨_, oa, ob, _, _⟩ := partsR_some hp
    have ba := okp_bound oa
    have bb := okp_bound ob
    have r0 : ∃ z, reprD (T []) = some z := show ∃ z, reprD (PyData.tuple []) = some z from ⟨_, if_pos (by decide +kernel)⟩
    show ∃ z, reprD (spanOf a b size) = some z
    unfold spanOf
    split
    · split
      · have hm : 0 ≤ mn size (digI 0 b) ∧ mn size (digI 0 b) ≤ 300 := by
          unfold mn; split <;> omega
        refine repr_two ?_ ?_
        · exact log_ok (by omega) (by omega)
        · exact log_ok (by omega) (by omega)
      · exact r0
    · generalize hlast : (if b = [] then size - 1 else digI 0 b) = last
      have hb : -1 ≤ last ∧ last < 1000000 := by
        rw [← hlast]
        split <;> omega
      split
      · refine repr_two ?_ ?_
        · exact log_ok (by omega) (by omega)
        · refine log_ok ?_ ?_
          · unfold mn; split <;> omega
          · unfold mn; split <;> omega
      · exact r0

end MP.Q0

namespace MP.Q0
open PySem L2 PySem.Spec PyProof.Rows
/-! ### the first loop -/
theorem b0_ok {c0 c1 : Int} {x0 x2 x3 x4 x5 x6 x7 x8 x9 x10 x11 x12 x13 x14 x15 x16 x17 : Option W} {Q : Fl → Sto → Prop} (h0 : 0 ≤ c0) (k : ∀ (xs : List Int) a b, oct xs → xs.length ≤ 40 → 0 ≤ a → Q (.nx [x0, some (.r 0), x2, some (.d (T xs)), x4, x5, x6, x7, x8, x9, x10, x11, x12, x13, x14, x15, x16, x17]) (CUP a b)) : post (lw1b0 [x0, some (.r 0), x2, x3, x4, x5, x6, x7, x8, x9, x10, x11, x12, x13, x14, x15, x16, x17] (CUP c0 c1)) Q := by
  unfold lw1b0
  simp (implicitDefEqProofs := false) only [a_asg, a_call, a_cons', a_nil', a_v, getV_cons0, getV_cons, post_ret]
  refine odT_ok h0 fun xs a b hx hl ha => ?_
  simp (implicitDefEqProofs := false) only [List.set_cons_zero, List.set_cons_succ]
  exact k xs a b hx hl ha
theorem tst_ok {c0 c1 : Int} {x0 x2 x4 x5 x6 x7 x8 x9 x10 x11 x12 x13 x14 x15 x16 x17 : Option W} {Q : Fl → Sto → Prop} {xs : List Int} (hx : oct xs) (hn : xs ≠ []) (hl : xs.length ≤ 40) (k : Q (.nx [x0, some (.r 0), x2, some (.d (T xs)), x4, x5, x6, x7, x8, x9, x10, x11, x12, x13, x14, x15, x16, x17]) (CUP c0 c1)) : post (lw2b0b0 [x0, some (.r 0), x2, some (.d (T xs)), x4, x5, x6, x7, x8, x9, x10, x11, x12, x13, x14, x15, x16, x17] (CUP c0 c1)) Q := by
  unfold lw2b0b0
  simp (implicitDefEqProofs := false) only [a_if, a_cmp, a_bi, a_call, a_cons', a_nil', a_v, getV_cons0, getV_cons, post_ret]
  obtain ⟨z, hz⟩ := repr_tgt hx (by omega)
  refine tgt_ok hx hn hl ?_
  rw [v_repr hz]
  refine ltgt_ok hn hl ?_
  rw [v_repr hz]
  simp (implicitDefEqProofs := false) only [v_neS, beq_self_eq_true, Bool.not_true, v_trB, Bool.false_eq_true, if_false, a_sk]
  exact k
theorem b1_ok {c0 c1 : Int} {x0 x2 x4 x5 x6 x7 x8 x9 x10 x11 x12 x13 x14 x15 x16 x17 : Option W} {Q : Fl → Sto → Prop} {xs : List Int} (hx : oct xs) (hl : xs.length ≤ 40) (k : Q (.nx [x0, some (.r 0), x2, some (.d (T xs)), x4, x5, x6, x7, x8, x9, x10, x11, x12, x13, x14, x15, x16, x17]) (CUP c0 c1)) : post (lw1b1 [x0, some (.r 0), x2, some (.d (T xs)), x4, x5, x6, x7, x8, x9, x10, x11, x12, x13, x14, x15, x16, x17] (CUP c0 c1)) Q := by
  unfold lw1b1
  simp (implicitDefEqProofs := false) only [a_if, a_and, a_cmp, a_tup, a_nil', a_v, getV_cons0, getV_cons, post_ret, dataOf, Option.some.injEq, exists_eq_left', List.length_nil]
  refine ⟨by decide, ?_⟩
  rw [v_neT0]
  try simp (implicitDefEqProofs := false) only [v_trB]
  by_cases c : xs = []
  · subst c
    simp (implicitDefEqProofs := false) only [decide_true, Bool.not_true, Bool.false_eq_true, if_false, v_trB, a_sk]
    exact k
  · simp (implicitDefEqProofs := false) only [decide_eq_false c, Bool.not_false, if_true, a_cmp, a_bi, a_call, a_cons', a_nil', a_v, getV_cons0, getV_cons, post_ret]
    obtain ⟨z, hz⟩ := repr_tgt hx (by omega)
    refine tgt_ok hx c hl ?_
    rw [v_repr hz]
    refine ltgt_ok c hl ?_
    rw [v_repr hz]
    simp (implicitDefEqProofs := false) only [v_neS, beq_self_eq_true, Bool.not_true, v_trB, Bool.false_eq_true, if_false, a_sk]
    exact k
theorem b2_ok {c0 c1 : Int} {x0 x2 x3 x4 x5 x6 x7 x8 x9 x10 x11 x12 x13 x14 x15 x16 x17 : Option W} {Q : Fl → Sto → Prop} (h0 : 0 ≤ c0) (k : ∀ (ver : Option Int) a b, (∀ u, ver = some u → 1 ≤ u ∧ u ≤ 1000000000000000) → 0 ≤ a → Q (.nx [x0, some (.r 0), x2, x3, some (verW ver), x5, x6, x7, x8, x9, x10, x11, x12, x13, x14, x15, x16, x17]) (CUP a b)) : post (lw1b2 [x0, some (.r 0), x2, x3, x4, x5, x6, x7, x8, x9, x10, x11, x12, x13, x14, x15, x16, x17] (CUP c0 c1)) Q := by
  unfold lw1b2
  have e15 : (10 : Int) ^ (15 : Int).toNat = 1000000000000000 := by decide
  simp (implicitDefEqProofs := false) only [a_asg, a_call, a_cons', a_nil', a_lst, a_bin, a_v, a_k, getV_cons0, getV_cons, post_ret]
  rw [v_pow ⟨by omega, by omega, by decide⟩]
  simp (implicitDefEqProofs := false) only [e15, a_bin, a_call, a_cons', a_nil', a_v, a_k, getV_cons0, getV_cons, post_ret]
  refine roll_ok h0 (by omega) fun v a b hv0 hv1 ha => ?_
  simp (implicitDefEqProofs := false) only [v_add, dataOf, Option.map_some, Option.some.injEq, exists_eq_left', List.length_cons, List.length_nil]
  refine ⟨by decide, ?_⟩
  refine some_ok (.inl rfl) ha (by simp) (by simp) fun x a b hm ha => ?_
  have hv : ∃ ver : Option Int, W.d x = verW ver ∧ ∀ u, ver = some u → 1 ≤ u ∧ u ≤ 1000000000000000 := by
    simp (implicitDefEqProofs := false) only [List.mem_cons, List.not_mem_nil, or_false] at hm
    rcases hm with rfl | rfl | rfl | rfl | rfl | rfl | rfl
    · exact ⟨none, rfl, fun u h => by cases h⟩
    all_goals exact ⟨some _, rfl, fun u h => by cases h; omega⟩
  obtain ⟨ver, e, hv⟩ := hv
  simp (implicitDefEqProofs := false) only [List.set_cons_zero, List.set_cons_succ, e]
  exact k ver a b hv ha
theorem b3_ok {c0 c1 : Int} {x0 x2 x3 x5 x6 x7 x8 x9 x10 x11 x12 x13 x14 x15 x16 x17 : Option W} {Q : Fl → Sto → Prop} {ver : Option Int} (hv : ∀ u, ver = some u → 1 ≤ u ∧ u ≤ 1000000000000000) (k : ∀ u, 0 ≤ u ∧ u ≤ 1000000000000000 → Q (.nx [x0, some (.r 0), x2, x3, some (verW ver), some (.d (T (tagI u))), x6, x7, x8, x9, x10, x11, x12, x13, x14, x15, x16, x17]) (CUP c0 c1)) : post (lw1b3 [x0, some (.r 0), x2, x3, some (verW ver), x5, x6, x7, x8, x9, x10, x11, x12, x13, x14, x15, x16, x17] (CUP c0 c1)) Q := by
  unfold lw1b3
  simp (implicitDefEqProofs := false) only [a_asg, a_call, a_cons', a_nil', a_ite, a_cmp, a_v, a_k, getV_cons0, getV_cons, post_ret, v_isn, v_trB]
  cases ver with
  | none =>
    simp (implicitDefEqProofs := false) only [verW, isNone, if_true, a_k]
    refine ltag_ok (by omega) (by omega) ?_
    simp (implicitDefEqProofs := false) only [List.set_cons_zero, List.set_cons_succ]
    exact k 7 (by omega)
  | some u =>
    obtain ⟨u1, u2⟩ := hv u rfl
    simp (implicitDefEqProofs := false) only [verW, isNone, Bool.false_eq_true, if_false, a_v, getV_cons0, getV_cons, post_ret]
    refine ltag_ok (by omega) (by omega) ?_
    simp (implicitDefEqProofs := false) only [List.set_cons_zero, List.set_cons_succ]
    exact k u (by omega)
def vs1 (t : List Int) : List (List Int) := [t, t, [42], [], [42, 42], cut t none (some (-1)), cut t (some 1) none, t ++ [32], (cut t none (some 2) ++ [48]) ++ cut t (some 2) none, [87, 47] ++ t, [34, 86] ++ cut t (some 2) none]
def vs2 (t : List Int) : List (List Int) := vs1 t ++ [(t ++ [44]) ++ t, t ++ [44, 32, 42], [42, 44] ++ t]
def okV (t : List Int) : Prop := oct t ∧ t.length ≤ 100
theorem okV_app {a b : List Int} (ha : oct a) (hb : oct b) (h : a.length + b.length ≤ 100) : okV (a ++ b) := ⟨oct_app ha hb, by rw [List.length_append]; exact h⟩
theorem oct_lit {a : List Int} (h : (a.all fun o => decide (0 ≤ o) && decide (o < 256)) = true) : oct a := fun o m => by
  have := List.all_eq_true.mp h o m
  rw [Bool.and_eq_true] at this
  exact ⟨of_decide_eq_true this.1, of_decide_eq_true this.2⟩
theorem vs2_ok {t v : List Int} (ht : oct t) (hl : t.length ≤ 19) (m : v ∈ vs2 t) : okV v := by
  have c1 := cut_len t none (some (-1))
  have c2 := cut_len t (some 1) none
  have c3 := cut_len t none (some 2)
  have c4 := cut_len t (some 2) none
  unfold vs2 vs1 at m
  simp (implicitDefEqProofs := false) only [List.mem_cons, List.mem_append, List.not_mem_nil, or_false] at m
  rcases m with (rfl | rfl | rfl | rfl | rfl | rfl | rfl | rfl | rfl | rfl | rfl) | rfl | rfl | rfl
  · exact ⟨ht, by omega⟩
  · exact ⟨ht, by omega⟩
  · exact ⟨oct_lit rfl, by decide⟩
  · exact ⟨oct_lit rfl, by decide⟩
  · exact ⟨oct_lit rfl, by decide⟩
  · exact ⟨cut_oct ht, by omega⟩
  · exact ⟨cut_oct ht, by omega⟩
  · exact okV_app ht (oct_lit rfl) (by simp (implicitDefEqProofs := false) only [List.length_cons, List.length_nil]; omega)
  · exact okV_app (oct_app (cut_oct ht) (oct_lit rfl)) (cut_oct ht) (by simp (implicitDefEqProofs := false) only [List.length_append, List.length_cons, List.length_nil]; omega)
  · exact okV_app (oct_lit rfl) ht (by simp (implicitDefEqProofs := false) only [List.length_cons, List.length_nil]; omega)
  · exact okV_app (oct_lit rfl) (cut_oct ht) (by simp (implicitDefEqProofs := false) only [List.length_cons, List.length_nil]; omega)
  · exact okV_app (oct_app ht (oct_lit rfl)) ht (by simp (implicitDefEqProofs := false) only [List.length_append, List.length_cons, List.length_nil]; omega)
  · exact okV_app ht (oct_lit rfl) (by simp (implicitDefEqProofs := false) only [List.length_cons, List.length_nil]; omega)
  · exact okV_app (oct_lit rfl) ht (by simp (implicitDefEqProofs := false) only [List.length_cons, List.length_nil]; omega)
theorem v_neg1 {S : Sto} {q : W → Sto → Prop} : post (negW (.d (.int 1)) S) q = q (.d (.int (-1))) S := v_neg 1
theorem b4_ok {c0 c1 : Int} {x0 x2 x3 x4 x6 x7 x8 x9 x10 x11 x12 x13 x14 x15 x16 x17 : Option W} {Q : Fl → Sto → Prop} {t : List Int} (hl : t.length ≤ 19) (k : Q (.nx [x0, some (.r 0), x2, x3, x4, some (.d (T t)), some (.d (.list ((vs1 t).map fun t => (T t : D)))), x7, x8, x9, x10, x11, x12, x13, x14, x15, x16, x17]) (CUP c0 c1)) : post (lw1b4 [x0, some (.r 0), x2, x3, x4, some (.d (T t)), x6, x7, x8, x9, x10, x11, x12, x13, x14, x15, x16, x17] (CUP c0 c1)) Q := by
  have c1' := cut_len t none (some (-1))
  have c2 := cut_len t (some 1) none
  have c3 := cut_len t none (some 2)
  have c4 := cut_len t (some 2) none
  have e32 : (PyData.tuple [.int 32] : D) = T [32] := rfl
  have e48 : (PyData.tuple [.int 48] : D) = T [48] := rfl
  have e87 : (PyData.tuple [.int 87, .int 47] : D) = T [87, 47] := rfl
  have e34 : (PyData.tuple [.int 34, .int 86] : D) = T [34, 86] := rfl
  unfold lw1b4
  simp (implicitDefEqProofs := false) only [a_asg, a_cons', a_nil', a_lst, a_tup, a_slc, a_so, a_no, a_neg, a_bin, a_v, a_k, getV_cons0, getV_cons, post_ret, v_neg1, asOI, v_slT, dataOf, Option.map_some, Option.some.injEq, exists_eq_left', List.length_cons, List.length_nil]
  refine ⟨by decide, by decide, by decide, by decide, ?_⟩
  rw [e32, v_catT (by simp (implicitDefEqProofs := false) only [List.length_cons, List.length_nil]; omega)]
  refine ⟨by decide, ?_⟩
  rw [e48, v_catT (by simp (implicitDefEqProofs := false) only [List.length_cons, List.length_nil]; omega), v_catT (by simp (implicitDefEqProofs := false) only [List.length_append, List.length_cons, List.length_nil]; omega)]
  refine ⟨by decide, ?_⟩
  rw [e87, v_catT (by simp (implicitDefEqProofs := false) only [List.length_cons, List.length_nil]; omega)]
  refine ⟨by decide, ?_⟩
  rw [e34, v_catT (by simp (implicitDefEqProofs := false) only [List.length_cons, List.length_nil]; omega)]
  simp (implicitDefEqProofs := false) only [dataOf, Option.map_some, Option.some.injEq, exists_eq_left', List.length_cons, List.length_nil]
  refine ⟨by decide, ?_⟩
  simp (implicitDefEqProofs := false) only [List.set_cons_zero, List.set_cons_succ]
  exact k
theorem b5_ok {c0 c1 : Int} {x0 x2 x3 x4 x7 x8 x9 x10 x11 x12 x13 x14 x15 x16 x17 : Option W} {Q : Fl → Sto → Prop} {t : List Int} (hl : t.length ≤ 19) (k : Q (.nx [x0, some (.r 0), x2, x3, x4, some (.d (T t)), some (.d (.list ((vs2 t).map fun t => (T t : D)))), x7, x8, x9, x10, x11, x12, x13, x14, x15, x16, x17]) (CUP c0 c1)) : post (lw1b5 [x0, some (.r 0), x2, x3, x4, some (.d (T t)), some (.d (.list ((vs1 t).map fun t => (T t : D)))), x7, x8, x9, x10, x11, x12, x13, x14, x15, x16, x17] (CUP c0 c1)) Q := by
  have e44 : (PyData.tuple [.int 44] : D) = T [44] := rfl
  have e3 : (PyData.tuple [.int 44, .int 32, .int 42] : D) = T [44, 32, 42] := rfl
  have e2 : (PyData.tuple [.int 42, .int 44] : D) = T [42, 44] := rfl
  unfold lw1b5
  simp (implicitDefEqProofs := false) only [a_asg, a_cons', a_nil', a_lst, a_tup, a_bin, a_v, a_k, getV_cons0, getV_cons, post_ret, dataOf, Option.map_some, Option.some.injEq, exists_eq_left', List.length_cons, List.length_nil]
  refine ⟨by decide, ?_⟩
  rw [e44, v_catT (by simp (implicitDefEqProofs := false) only [List.length_cons, List.length_nil]; omega), v_catT (by simp (implicitDefEqProofs := false) only [List.length_append, List.length_cons, List.length_nil]; omega)]
  refine ⟨by decide, ?_⟩
  rw [e3, v_catT (by simp (implicitDefEqProofs := false) only [List.length_cons, List.length_nil]; omega)]
  refine ⟨by decide, ?_⟩
  rw [e2, v_catT (by simp (implicitDefEqProofs := false) only [List.length_cons, List.length_nil]; omega)]
  simp (implicitDefEqProofs := false) only [dataOf, Option.map_some, Option.some.injEq, exists_eq_left', List.length_cons, List.length_nil]
  refine ⟨by decide, ?_⟩
  rw [v_catL (by rw [List.length_map]; show 11 + 3 ≤ 16777216; omega)]
  simp (implicitDefEqProofs := false) only [List.set_cons_zero, List.set_cons_succ]
  have e : (vs1 t).map (fun t => (T t : D)) ++ [T ((t ++ [44]) ++ t), T (t ++ [44, 32, 42]), T ([42, 44] ++ t)] = (vs2 t).map fun t => (T t : D) := by
    unfold vs2
    rw [List.map_append]
    rfl
  rw [e]
  exact k
theorem b6_ok {c0 c1 : Int} {x0 x2 x3 x4 x5 x7 x8 x9 x10 x11 x12 x13 x14 x15 x16 x17 : Option W} {Q : Fl → Sto → Prop} {t : List Int} (h0 : 0 ≤ c0) (ht : oct t) (hl : t.length ≤ 19) (k : ∀ v a b, okV v → 0 ≤ a → Q (.nx [x0, some (.r 0), x2, x3, x4, x5, some (.d (.list ((vs2 t).map fun t => (T t : D)))), some (.d (T v)), x8, x9, x10, x11, x12, x13, x14, x15, x16, x17]) (CUP a b)) : post (lw1b6 [x0, some (.r 0), x2, x3, x4, x5, some (.d (.list ((vs2 t).map fun t => (T t : D)))), x7, x8, x9, x10, x11, x12, x13, x14, x15, x16, x17] (CUP c0 c1)) Q := by
  unfold lw1b6
  simp (implicitDefEqProofs := false) only [a_asg, a_call, a_cons', a_nil', a_lst, a_bin, a_v, a_k, getV_cons0, getV_cons, post_ret]
  refine roll_ok h0 (by omega) fun v a b hv0 hv1 ha => ?_
  simp (implicitDefEqProofs := false) only [v_add]
  refine ltag_ok (by omega) (by omega) ?_
  simp (implicitDefEqProofs := false) only [dataOf, Option.map_some, Option.some.injEq, exists_eq_left', List.length_cons, List.length_nil]
  refine ⟨by decide, ?_⟩
  rw [v_catL (by rw [List.length_map]; show 14 + 1 ≤ 16777216; omega)]
  have e : (vs2 t).map (fun t => (T t : D)) ++ [T (tagI (1 + v))] = (vs2 t ++ [tagI (1 + v)]).map fun t => (T t : D) := by
    rw [List.map_append]
    rfl
  refine some_tup e (by simp) (by rw [List.length_append]; show 14 + 1 < 100; omega) ha fun u a b hm ha => ?_
  simp (implicitDefEqProofs := false) only [List.set_cons_zero, List.set_cons_succ]
  refine k u a b ?_ ha
  rcases List.mem_append.mp hm with m | m
  · exact vs2_ok ht hl m
  · rw [List.mem_singleton.mp m]
    have := tag_len (v := 1 + v) (by omega) (by omega)
    exact ⟨tag_oct _, by omega⟩
theorem b7_ok {c0 c1 : Int} {x0 x2 x3 x5 x6 x8 x9 x10 x11 x12 x13 x14 x15 x16 x17 : Option W} {Q : Fl → Sto → Prop} {ver : Option Int} {v : List Int} (hv : ∀ u, ver = some u → 1 ≤ u ∧ u ≤ 1000000000000000) (ho : okV v) (k : Q (.nx [x0, some (.r 0), x2, x3, some (verW ver), x5, x6, some (.d (T v)), x8, x9, x10, x11, x12, x13, x14, x15, x16, x17]) (CUP c0 c1)) : post (lw1b7 [x0, some (.r 0), x2, x3, some (verW ver), x5, x6, some (.d (T v)), x8, x9, x10, x11, x12, x13, x14, x15, x16, x17] (CUP c0 c1)) Q := by
  unfold lw1b7
  simp (implicitDefEqProofs := false) only [a_if, a_cmp, a_bi, a_call, a_cons', a_nil', a_v, getV_cons0, getV_cons, post_ret]
  obtain ⟨z, hz⟩ := repr_bool (fitR v ver)
  refine fit_ok ho.1 ho.2 hv ?_
  rw [v_repr hz]
  refine lfit_ok hv ?_
  rw [v_repr hz]
  simp (implicitDefEqProofs := false) only [v_neS, beq_self_eq_true, Bool.not_true, v_trB, Bool.false_eq_true, if_false, a_sk]
  exact k
theorem b8_ok {c0 c1 : Int} {x0 x2 x3 x4 x5 x6 x7 x8 x9 x10 x11 x12 x13 x14 x15 x16 x17 : Option W} {Q : Fl → Sto → Prop} (h0 : 0 ≤ c0) (k : ∀ (size : Int) (v : List Int) a b, 0 ≤ size ∧ size ≤ 300 → okV v → 0 ≤ a → Q (.nx [x0, some (.r 0), x2, x3, x4, x5, x6, some (.d (T v)), some (.d (.int size)), x9, x10, x11, x12, x13, x14, x15, x16, x17]) (CUP a b)) : post (lw1b8 [x0, some (.r 0), x2, x3, x4, x5, x6, x7, x8, x9, x10, x11, x12, x13, x14, x15, x16, x17] (CUP c0 c1)) Q := by
  unfold lw1b8
  simp (implicitDefEqProofs := false) only [a_par2, a_call, a_cons', a_nil', a_lst, a_v, a_k, getV_cons0, getV_cons, post_ret]
  refine roll_ok h0 (by omega) fun v a b hv0 hv1 ha => ?_
  simp (implicitDefEqProofs := false) only [dataOf, Option.map_some, Option.some.injEq, exists_eq_left', List.length_cons, List.length_nil]
  refine ⟨by decide, ?_⟩
  refine some_num (ns := [0, 1, 5, 300, v]) rfl (by simp) (by simp) ha fun size a b hm ha => ?_
  have hs : 0 ≤ size ∧ size ≤ 300 := by
    simp (implicitDefEqProofs := false) only [List.mem_cons, List.not_mem_nil, or_false] at hm
    omega
  refine odR_ok ha fun xs a b hx hl ha => ?_
  simp (implicitDefEqProofs := false) only [List.set_cons_zero, List.set_cons_succ]
  exact k size xs a b hs ⟨hx, hl⟩ ha
theorem b9_ok {c0 c1 : Int} {x0 x2 x3 x4 x5 x6 x9 x10 x11 x12 x13 x14 x15 x16 x17 : Option W} {Q : Fl → Sto → Prop} {size : Int} {v : List Int} {m : SM} (hm : m = ifM (cmpM .ne (biM .repr (consM (callM m_span_in (consM (vM 7) (consM (vM 8) (nilM)))) (nilM))) (biM .repr (consM (callM m__law_span (consM (vM 7) (consM (vM 8) (nilM)))) (nilM)))) (retM (kM (.bool false))) (skM)) (hs : 0 ≤ size ∧ size ≤ 300) (ho : okV v) (k : Q (.nx [x0, some (.r 0), x2, x3, x4, x5, x6, some (.d (T v)), some (.d (.int size)), x9, x10, x11, x12, x13, x14, x15, x16, x17]) (CUP c0 c1)) : post (m [x0, some (.r 0), x2, x3, x4, x5, x6, some (.d (T v)), some (.d (.int size)), x9, x10, x11, x12, x13, x14, x15, x16, x17] (CUP c0 c1)) Q := by
  have e : m = ifM (cmpM .ne (biM .repr (consM (callM m_span_in (consM (vM 7) (consM (vM 8) (nilM)))) (nilM))) (biM .repr (consM (callM m__law_span (consM (vM 7) (consM (vM 8) (nilM)))) (nilM)))) (retM (kM (.bool false))) (skM) := hm
  obtain ⟨z, hz⟩ := repr_span (xs := v) hs
  have F1 : ∀ q : W → Sto → Prop, q (.d (spanR v size)) (CUP c0 c1) → post (m_span_in [.d (T v), .d (.int size)] (CUP c0 c1)) q := fun q h => span_ok ho.1 ho.2 hs h
  have F2 : ∀ q : W → Sto → Prop, q (.d (spanR v size)) (CUP c0 c1) → post (m__law_span [.d (T v), .d (.int size)] (CUP c0 c1)) q := fun q h => lspan_ok ho.2 h
  clear hm
  generalize m_span_in = F at *
  generalize m__law_span = G at *
  rw [e]
  simp (implicitDefEqProofs := false) only [a_if, a_cmp, a_bi, a_call, a_cons', a_nil', a_v, getV_cons0, getV_cons, post_ret]
  refine F1 _ ?_
  rw [v_repr hz]
  refine F2 _ ?_
  rw [v_repr hz]
  simp (implicitDefEqProofs := false) only [v_neS, beq_self_eq_true, Bool.not_true, v_trB, Bool.false_eq_true, if_false, a_sk]
  exact k
end MP.Q0

namespace MP.Q0
open PySem L2 PySem.Spec PyProof.Rows
theorem turn_ok {c0 c1 : Int} {x0 x2 x3 x4 x5 x6 x7 x8 x9 x10 x11 x12 x13 x14 x15 x16 x17 : Option W} {Q : Fl → Sto → Prop} (h0 : 0 ≤ c0) (k : ∀ y3 y4 y5 y6 y7 y8 a b, 0 ≤ a → Q (.nx [x0, some (.r 0), x2, y3, y4, y5, y6, y7, y8, x9, x10, x11, x12, x13, x14, x15, x16, x17]) (CUP a b)) : post (lw1b [x0, some (.r 0), x2, x3, x4, x5, x6, x7, x8, x9, x10, x11, x12, x13, x14, x15, x16, x17] (CUP c0 c1)) Q := by
  unfold lw1b
  rw [sq_ap]
  refine b0_ok h0 fun xs c0 c1 hx hl h0 => ?_
  simp (implicitDefEqProofs := false) only
  rw [sq_ap]
  refine b1_ok hx hl ?_
  simp (implicitDefEqProofs := false) only
  rw [sq_ap]
  refine b2_ok h0 fun ver c0 c1 hv h0 => ?_
  simp (implicitDefEqProofs := false) only
  rw [sq_ap]
  refine b3_ok hv fun u hu => ?_
  have hl := tag_len (v := u) (by omega) (by omega)
  simp (implicitDefEqProofs := false) only
  rw [sq_ap]
  refine b4_ok hl ?_
  simp (implicitDefEqProofs := false) only
  rw [sq_ap]
  refine b5_ok hl ?_
  simp (implicitDefEqProofs := false) only
  rw [sq_ap]
  refine b6_ok h0 (tag_oct u) hl fun v c0 c1 ho h0 => ?_
  simp (implicitDefEqProofs := false) only
  rw [sq_ap]
  refine b7_ok hv ho ?_
  simp (implicitDefEqProofs := false) only
  rw [sq_ap]
  refine b8_ok h0 fun size v c0 c1 hs ho h0 => ?_
  simp (implicitDefEqProofs := false) only
  refine b9_ok rfl hs ho ?_
  exact k _ _ _ _ _ _ c0 c1 h0
theorem l1_ok {c0 c1 : Int} {x0 x2 x3 x4 x5 x6 x7 x8 x9 x10 x11 x12 x13 x14 x15 x16 x17 : Option W} {Q : Fl → Sto → Prop} (h0 : 0 ≤ c0) (k : ∀ y2 y3 y4 y5 y6 y7 y8 a b, 0 ≤ a → Q (.nx [x0, some (.r 0), y2, y3, y4, y5, y6, y7, y8, x9, x10, x11, x12, x13, x14, x15, x16, x17]) (CUP a b)) : post (lw1 [x0, some (.r 0), x2, x3, x4, x5, x6, x7, x8, x9, x10, x11, x12, x13, x14, x15, x16, x17] (CUP c0 c1)) Q := by
  unfold lw1
  simp (implicitDefEqProofs := false) only [a_for, a_rng1, a_k]
  refine ⟨_, items_rng (by omega), ?_⟩
  refine for_inv (I := fun i ρ S => ∃ c0 c1 y2 y3 y4 y5 y6 y7 y8, 0 ≤ c0 ∧ ρ = [x0, some (.r 0), y2, y3, y4, y5, y6, y7, y8, x9, x10, x11, x12, x13, x14, x15, x16, x17] ∧ S = CUP c0 c1) _ 0 ?_ ?_ _ _ ⟨c0, c1, _, _, _, _, _, _, _, h0, rfl, rfl⟩
  · intro i x ρ S _ hI
    obtain ⟨c0, c1, y2, y3, y4, y5, y6, y7, y8, h0, rfl, rfl⟩ := hI
    refine ⟨_, rfl, ?_⟩
    simp (implicitDefEqProofs := false) only [List.set_cons_zero, List.set_cons_succ]
    refine turn_ok h0 fun y3 y4 y5 y6 y7 y8 a b ha => ?_
    exact ⟨a, b, _, _, _, _, _, _, _, ha, rfl, rfl⟩
  · intro ρ S hI
    obtain ⟨c0, c1, y2, y3, y4, y5, y6, y7, y8, h0, rfl, rfl⟩ := hI
    exact k _ _ _ _ _ _ _ c0 c1 h0
end MP.Q0

namespace MP.Q0
open PySem L2 PySem.Spec PyProof.Rows
/-! ### the second loop -/
theorem items_rng2 {m n : Int} (h : -(2 ^ 62) ≤ m ∧ m < 2 ^ 62 ∧ -(2 ^ 62) ≤ n ∧ n < 2 ^ 62) : itemsOf .rng [.d (.int m), .d (.int n)] = some ((List.range (n - m).toNat).map fun (i : Nat) => .int (m + (i : Int))) := if_pos h
theorem l2_in {c0 c1 ov : Int} {x0 x2 x3 x4 x5 x6 x7 x8 x10 x11 x12 x13 x14 x15 x16 x17 : Option W} {Q : Fl → Sto → Prop} (ho : 0 ≤ ov ∧ ov < 256) (k : ∀ y3, Q (.nx [x0, some (.r 0), x2, y3, x4, x5, x6, x7, x8, some (.d (.int ov)), x10, x11, x12, x13, x14, x15, x16, x17]) (CUP c0 c1)) : post (lw2b [x0, some (.r 0), x2, x3, x4, x5, x6, x7, x8, some (.d (.int ov)), x10, x11, x12, x13, x14, x15, x16, x17] (CUP c0 c1)) Q := by
  unfold lw2b lw2b0
  simp (implicitDefEqProofs := false) only [a_for, a_seq, a_tup, a_cons', a_nil', a_v, a_k, getV_cons0, getV_cons, post_ret, dataOf, Option.map_some, Option.some.injEq, exists_eq_left', List.length_cons, List.length_nil]
  refine ⟨by decide, by decide, by decide, by decide, _, rfl, ?_⟩
  have e1 : (PyData.tuple [.int ov] : D) = T [ov] := rfl
  have e2 : (PyData.tuple [.int 47, .int ov] : D) = T [47, ov] := rfl
  have e3 : (PyData.tuple [.int 47, .int 97, .int ov] : D) = T [47, 97, ov] := rfl
  rw [e1, e2, e3]
  unfold lw2b0b
  rw [for_cons]
  refine ⟨_, rfl, ?_⟩
  simp (implicitDefEqProofs := false) only [List.set_cons_zero, List.set_cons_succ]
  refine tst_ok (fun o m => by simp at m; omega) (by simp) (by simp) ?_
  simp (implicitDefEqProofs := false) only
  rw [for_cons]
  refine ⟨_, rfl, ?_⟩
  simp (implicitDefEqProofs := false) only [List.set_cons_zero, List.set_cons_succ]
  refine tst_ok (fun o m => by simp at m; omega) (by simp) (by simp) ?_
  simp (implicitDefEqProofs := false) only
  rw [for_cons]
  refine ⟨_, rfl, ?_⟩
  simp (implicitDefEqProofs := false) only [List.set_cons_zero, List.set_cons_succ]
  refine tst_ok (fun o m => by simp at m; omega) (by simp) (by simp) ?_
  simp (implicitDefEqProofs := false) only
  rw [for_nil]
  exact k _
theorem l2_ok {c0 c1 : Int} {x0 x2 x3 x4 x5 x6 x7 x8 x9 x10 x11 x12 x13 x14 x15 x16 x17 : Option W} {Q : Fl → Sto → Prop} (k : ∀ y3 y9, Q (.nx [x0, some (.r 0), x2, y3, x4, x5, x6, x7, x8, y9, x10, x11, x12, x13, x14, x15, x16, x17]) (CUP c0 c1)) : post (lw2 [x0, some (.r 0), x2, x3, x4, x5, x6, x7, x8, x9, x10, x11, x12, x13, x14, x15, x16, x17] (CUP c0 c1)) Q := by
  unfold lw2
  simp (implicitDefEqProofs := false) only [a_for, a_rng2, a_k]
  refine ⟨_, items_rng2 (by omega), ?_⟩
  refine for_inv (I := fun i ρ S => ∃ y3 y9, ρ = [x0, some (.r 0), x2, y3, x4, x5, x6, x7, x8, y9, x10, x11, x12, x13, x14, x15, x16, x17] ∧ S = CUP c0 c1) _ 0 ?_ ?_ _ _ ⟨_, _, rfl, rfl⟩
  · intro i x ρ S hi hI
    obtain ⟨y3, y9, rfl, rfl⟩ := hI
    obtain ⟨j, hj, rfl⟩ := List.mem_map.mp (List.mem_of_getElem? hi)
    have hj2 := List.mem_range.mp hj
    refine ⟨_, rfl, ?_⟩
    simp (implicitDefEqProofs := false) only [List.set_cons_zero, List.set_cons_succ]
    refine l2_in (by omega) fun y3 => ?_
    exact ⟨_, _, rfl, rfl⟩
  · intro ρ S hI
    obtain ⟨y3, y9, rfl, rfl⟩ := hI
    exact k _ _
end MP.Q0

namespace MP.Q0
open PySem L2 PySem.Spec PyProof.Rows
/-! ### the tags -/
theorem l345_ok {c0 c1 : Int} {x0 x2 x3 x4 x5 x6 x7 x8 x9 x10 x11 x12 x13 x14 x15 x16 x17 : Option W} {Q : Fl → Sto → Prop} (h0 : 0 ≤ c0) (k : ∀ y10 y11 a b, 0 ≤ a → Q (.nx [x0, some (.r 0), x2, x3, x4, x5, x6, x7, x8, x9, y10, y11, x12, x13, x14, x15, x16, x17]) (CUP a b)) : post (sq lw3 (sq lw4 lw5) [x0, some (.r 0), x2, x3, x4, x5, x6, x7, x8, x9, x10, x11, x12, x13, x14, x15, x16, x17] (CUP c0 c1)) Q := by
  have e44 : (PyData.tuple [.int 44] : D) = T [44] := rfl
  have e2 : (PyData.tuple [.int 44, .int 32] : D) = T [44, 32] := rfl
  have l2 := tag_len (v := 2) (by omega) (by omega)
  have l2' : 3 ≤ (tagI 2).length := by
    unfold tagI
    simp (implicitDefEqProofs := false) only [List.length_cons, List.length_append, List.length_nil]
    omega
  rw [sq_ap]
  unfold lw3
  simp (implicitDefEqProofs := false) only [a_asg, a_call, a_cons', a_nil', a_bin, a_v, a_k, getV_cons0, getV_cons, post_ret]
  refine roll_ok h0 (by omega) fun v a b hv0 hv1 ha => ?_
  simp (implicitDefEqProofs := false) only [v_add]
  refine ltag_ok (by omega) (by omega) ?_
  have lv := tag_len (v := 1 + v) (by omega) (by omega)
  have ov := tag_oct (1 + v)
  have lv' : 1 ≤ (tagI (1 + v)).length := by
    unfold tagI
    simp (implicitDefEqProofs := false) only [List.length_cons]
    omega
  generalize tagI (1 + v) = t at *
  simp (implicitDefEqProofs := false) only [List.set_cons_zero, List.set_cons_succ]
  rw [sq_ap]
  unfold lw4
  simp (implicitDefEqProofs := false) only [a_asg, a_call, a_cons', a_nil', a_tup, a_bin, a_v, a_k, getV_cons0, getV_cons, post_ret, dataOf, Option.map_some, Option.some.injEq, exists_eq_left', List.length_cons, List.length_nil]
  refine ⟨by decide, ?_⟩
  rw [e44, v_catT (by simp (implicitDefEqProofs := false) only [List.length_cons, List.length_nil]; omega)]
  refine ltag_ok (by omega) (by omega) ?_
  rw [v_catT (by simp (implicitDefEqProofs := false) only [List.length_append, List.length_cons, List.length_nil]; omega)]
  refine ltag_ok (by omega) (by omega) ?_
  simp (implicitDefEqProofs := false) only [dataOf, Option.map_some, Option.some.injEq, exists_eq_left', List.length_cons, List.length_nil]
  refine ⟨by decide, ?_⟩
  rw [e2, v_catT (by simp (implicitDefEqProofs := false) only [List.length_cons, List.length_nil]; omega), v_catT (by simp (implicitDefEqProofs := false) only [List.length_append, List.length_cons, List.length_nil]; omega)]
  refine ltag_ok (by omega) (by omega) ?_
  simp (implicitDefEqProofs := false) only [dataOf, Option.map_some, Option.some.injEq, exists_eq_left', List.length_cons, List.length_nil]
  refine ⟨by decide, ?_⟩
  simp (implicitDefEqProofs := false) only [List.set_cons_zero, List.set_cons_succ]
  unfold lw5
  simp (implicitDefEqProofs := false) only [a_if, a_cmp, a_bi, a_lc, a_seq, a_cons', a_nil', a_v, a_k, getV_cons0, getV_cons, post_ret]
  refine ⟨_, rfl, ?_⟩
  have turn : ∀ (xs : List Int) (q : Option D → Sto → Prop), oct xs → xs.length ≤ 100 → q (some (.bool (fitR xs (some 2)))) (CUP a b) → post (lcT (.nm 17) [17] yesM (callM m_fits_tag (consM (vM 17) (consM (kM (.int 2)) nilM))) [x0, some (.r 0), x2, x3, x4, x5, x6, x7, x8, x9, some (.d (T t)), some (.d (.tuple [T (t ++ [44] ++ tagI 2), T (tagI 2 ++ [44, 32] ++ t), T (tagI 2)])), x12, x13, x14, x15, x16, x17] (T xs) (CUP a b)) q := by
    intro xs q hx hl h
    unfold lcT
    have eb : bindP (.nm 17) (.d (T xs)) (wipeW [x0, some (.r 0), x2, x3, x4, x5, x6, x7, x8, x9, some (.d (T t)), some (.d (.tuple [T (t ++ [44] ++ tagI 2), T (tagI 2 ++ [44, 32] ++ t), T (tagI 2)])), x12, x13, x14, x15, x16, x17] [17]) = some [x0, some (.r 0), x2, x3, x4, x5, x6, x7, x8, x9, some (.d (T t)), some (.d (.tuple [T (t ++ [44] ++ tagI 2), T (tagI 2 ++ [44, 32] ++ t), T (tagI 2)])), x12, x13, x14, x15, x16, some (.d (T xs))] := rfl
    rw [eb]
    simp (implicitDefEqProofs := false) only [opt_some, bnd_ret, yesM, if_true, post_bnd, a_call, a_cons', a_nil', a_v, a_k, getV_cons0, getV_cons, post_ret]
    refine fit_ok (ver := some 2) hx hl (fun u h => by cases h; omega) ?_
    simp (implicitDefEqProofs := false) only [asD, post_ret]
    exact h
  have o2 := tag_oct 2
  have f1 : fitR (t ++ [44] ++ tagI 2) (some 2) = false := by
    unfold fitR
    rw [Bool.or_eq_false_iff]
    constructor
    · refine decide_eq_false fun z => ?_
      have := congrArg List.length z
      simp (implicitDefEqProofs := false) only [List.length_append, List.length_cons, List.length_nil] at this
      omega
    · refine decide_eq_false fun z => ?_
      have := congrArg List.length z
      simp (implicitDefEqProofs := false) only [List.length_append, List.length_cons, List.length_nil] at this
      omega
  have f2 : fitR (tagI 2 ++ [44, 32] ++ t) (some 2) = false := by
    unfold fitR
    rw [Bool.or_eq_false_iff]
    constructor
    · refine decide_eq_false fun z => ?_
      have := congrArg List.length z
      simp (implicitDefEqProofs := false) only [List.length_append, List.length_cons, List.length_nil] at this
      omega
    · refine decide_eq_false fun z => ?_
      have := congrArg List.length z
      simp (implicitDefEqProofs := false) only [List.length_append, List.length_cons, List.length_nil] at this
      omega
  have f3 : fitR (tagI 2) (some 2) = true := by
    unfold fitR
    rw [Bool.or_eq_true]
    exact .inr (decide_eq_true rfl)
  rw [lc_cons]
  refine turn _ _ (oct_app (oct_app ov (oct_lit rfl)) o2) (by simp (implicitDefEqProofs := false) only [List.length_append, List.length_cons, List.length_nil]; omega) ?_
  rw [lc_cons]
  refine turn _ _ (oct_app (oct_app o2 (oct_lit rfl)) ov) (by simp (implicitDefEqProofs := false) only [List.length_append, List.length_cons, List.length_nil]; omega) ?_
  rw [lc_cons]
  refine turn _ _ o2 (by omega) ?_
  rw [lc_nil]
  simp (implicitDefEqProofs := false) only [f1, f2, f3]
  refine ⟨by decide, ?_⟩
  have hz : reprD (.list [.bool false, .bool false, .bool true]) = some (("[False, False, True]" : String) : Str) := by decide +kernel
  rw [v_repr hz]
  simp (implicitDefEqProofs := false) only [v_neS, beq_self_eq_true, Bool.not_true, v_trB, Bool.false_eq_true, if_false, a_sk]
  exact k _ _ a b ha
end MP.Q0

namespace MP.Q0
open PySem L2 PySem.Spec PyProof.Rows
/-! ### written ranges -/
theorem l7_in {c0 c1 : Int} {x0 x2 x3 x4 x5 x6 x7 x8 x9 x10 x11 x12 x14 x15 x16 x17 : Option W} {Q : Fl → Sto → Prop} {z : Str} (hz : okText 0 20 z) (k : ∀ y7 y8, Q (.nx [x0, some (.r 0), x2, x3, x4, x5, x6, y7, y8, x9, x10, x11, x12, some (.d (.str z)), x14, x15, x16, x17]) (CUP c0 c1)) : post (lw7b [x0, some (.r 0), x2, x3, x4, x5, x6, x7, x8, x9, x10, x11, x12, some (.d (.str z)), x14, x15, x16, x17] (CUP c0 c1)) Q := by
  obtain ⟨h1, h2, h3⟩ := hz
  unfold lw7b lw7b0
  simp (implicitDefEqProofs := false) only [a_for, a_seq, a_tup, a_cons', a_nil', a_v, a_k, getV_cons0, getV_cons, post_ret, dataOf, Option.map_some, Option.some.injEq, exists_eq_left', List.length_cons, List.length_nil]
  refine ⟨by decide, _, rfl, ?_⟩
  refine for_inv (I := fun i ρ S => ∃ y7 y8, ρ = [x0, some (.r 0), x2, x3, x4, x5, x6, y7, y8, x9, x10, x11, x12, some (.d (.str z)), x14, x15, x16, x17] ∧ S = CUP c0 c1) _ 0 ?_ ?_ _ _ ⟨_, _, rfl, rfl⟩
  · intro i x ρ S hi hI
    obtain ⟨y7, y8, rfl, rfl⟩ := hI
    have hm := List.mem_of_getElem? hi
    obtain ⟨size, rfl, hs⟩ : ∃ size : Int, x = .int size ∧ 0 ≤ size ∧ size ≤ 300 := by
      simp (implicitDefEqProofs := false) only [List.mem_cons, List.not_mem_nil, or_false] at hm
      rcases hm with rfl | rfl | rfl | rfl
      all_goals exact ⟨_, rfl, by omega⟩
    refine ⟨_, rfl, ?_⟩
    simp (implicitDefEqProofs := false) only [List.set_cons_zero, List.set_cons_succ]
    unfold lw7b0b
    rw [sq_ap]
    unfold lw7b0b0
    simp (implicitDefEqProofs := false) only [a_asg, a_call, a_cons', a_nil', a_bin, a_v, a_k, getV_cons0, getV_cons, post_ret]
    have lb : (("bytes=" : String) : Str).length = 6 := rfl
    have lz : z.length = (cpsI z).length := (cpsI_len z).symm
    rw [v_catS (by rw [lb]; show _ ≤ 16777216; omega)]
    refine ltext_ok ?_ ?_
    · rw [cps_len, cpsI_app, cpsI_bytes, List.length_append]
      show 6 + _ ≤ _
      omega
    · rw [cpsI_app, cpsI_bytes]
      simp (implicitDefEqProofs := false) only [List.set_cons_zero, List.set_cons_succ]
      refine b9_ok rfl hs ⟨oct_app (oct_lit rfl) h1, ?_⟩ ?_
      · rw [List.length_append]
        show 6 + _ ≤ _
        omega
      · exact ⟨_, _, rfl, rfl⟩
  · intro ρ S hI
    obtain ⟨y7, y8, rfl, rfl⟩ := hI
    exact k _ _
theorem l67_ok {c0 c1 : Int} {x0 x2 x3 x4 x5 x6 x7 x8 x9 x10 x11 x12 x13 x14 x15 x16 x17 : Option W} {Q : Fl → Sto → Prop} (k : ∀ y7 y8 y12 y13, Q (.nx [x0, some (.r 0), x2, x3, x4, x5, x6, y7, y8, x9, x10, x11, y12, y13, x14, x15, x16, x17]) (CUP c0 c1)) : post (sq lw6 lw7 [x0, some (.r 0), x2, x3, x4, x5, x6, x7, x8, x9, x10, x11, x12, x13, x14, x15, x16, x17] (CUP c0 c1)) Q := by
  rw [sq_ap]
  unfold lw6
  simp (implicitDefEqProofs := false) only [a_asg, a_lst, a_cons', a_nil', a_k, dataOf, Option.map_some, Option.some.injEq, exists_eq_left', List.length_cons, List.length_nil]
  refine ⟨by decide, ?_⟩
  simp (implicitDefEqProofs := false) only [List.set_cons_zero, List.set_cons_succ]
  unfold lw7
  simp (implicitDefEqProofs := false) only [a_for, a_seq, a_bin, a_lst, a_cons', a_nil', a_v, a_k, getV_cons0, getV_cons, post_ret, dataOf, Option.map_some, Option.some.injEq, exists_eq_left', List.length_cons, List.length_nil]
  refine ⟨by decide, ?_⟩
  rw [v_catL (by decide)]
  refine ⟨_, rfl, ?_⟩
  refine for_inv (I := fun i ρ S => ∃ y7 y8 y12 y13, ρ = [x0, some (.r 0), x2, x3, x4, x5, x6, y7, y8, x9, x10, x11, y12, y13, x14, x15, x16, x17] ∧ S = CUP c0 c1) _ 0 ?_ ?_ _ _ ⟨_, _, _, _, rfl, rfl⟩
  · intro i x ρ S hi hI
    obtain ⟨y7, y8, y12, y13, rfl, rfl⟩ := hI
    have hm := List.mem_of_getElem? hi
    have hx : x ∈ (["0-0", "0-", "-1", "-0", "1-3", "4-9", "5-", "3-1", "-999999", "999999-", "000000-000004", "299-300", "300-", "0-299", "-5", "4-", "0-1,3-4"] : List String).map fun (t : String) => (PyData.str (t : Str) : D) := hm
    obtain ⟨z, rfl, hz⟩ := text_in (m := 0) (n := 20) (okTexts (by decide +kernel)) hx
    refine ⟨_, rfl, ?_⟩
    simp (implicitDefEqProofs := false) only [List.set_cons_zero, List.set_cons_succ]
    refine l7_in hz fun y7 y8 => ?_
    exact ⟨_, _, _, _, rfl, rfl⟩
  · intro ρ S hI
    obtain ⟨y7, y8, y12, y13, rfl, rfl⟩ := hI
    exact k _ _ _ _
end MP.Q0

namespace MP.Q0
open PySem L2 PySem.Spec PyProof.Rows
/-! ### the end -/
def goodN (n : Nat) : Bool := ((cpsI (txt (n : Int))).all dg && (decide (1 ≤ (cpsI (txt (n : Int))).length) && decide ((cpsI (txt (n : Int))).length ≤ 6))) && decide (digI 0 (cpsI (txt (n : Int))) = (n : Int))
theorem good_all : (List.range 601).all goodN = true := by decide +kernel
theorem good_of {v : Int} (h : 0 ≤ v ∧ v ≤ 600) : (cpsI (txt v)).all dg = true ∧ 1 ≤ (cpsI (txt v)).length ∧ (cpsI (txt v)).length ≤ 6 ∧ digI 0 (cpsI (txt v)) = v := by
  have h1 := List.all_eq_true.mp good_all v.toNat (List.mem_range.mpr (by omega))
  unfold goodN at h1
  rw [Int.toNat_of_nonneg h.1, Bool.and_eq_true, Bool.and_eq_true, Bool.and_eq_true] at h1
  exact ⟨h1.1.1, of_decide_eq_true h1.1.2.1, of_decide_eq_true h1.1.2.2, of_decide_eq_true h1.2⟩
theorem no45 {xs : List Int} (h : xs.all dg = true) : 45 ∉ xs := fun m => by
  have := List.all_eq_true.mp h 45 m
  exact absurd this (by decide)
theorem dashes_app : ∀ (a : List Int) (b : List Int) (k : Nat), 45 ∉ a → dashes k (a ++ 45 :: b) = ((k + a.length : Nat) : Int) :: dashes (k + a.length + 1) b
  | [], b, k, _ => by
    show (if (45 : Int) = 45 then (k : Int) :: dashes (k + 1) b else dashes (k + 1) b) = (k : Int) :: dashes (k + 1) b
    rw [if_pos rfl]
  | o :: r, b, k, h => by
    show dashes k (o :: (r ++ 45 :: b)) = _
    conv => lhs; unfold dashes
    rw [if_neg (fun z => h (by rw [z]; exact List.mem_cons_self)), dashes_app r b (k + 1) fun m => h (List.mem_cons_of_mem _ m), List.length_cons]
    have e : k + 1 + r.length = k + (r.length + 1) := by omega
    rw [e]
theorem span_two {a b : List Int} {size : Int} (ha : a.all dg = true) (hb : b.all dg = true) (la : 1 ≤ a.length ∧ a.length ≤ 6) (lb : 1 ≤ b.length ∧ b.length ≤ 6) : spanR (AH ++ (a ++ 45 :: b)) size = spanOf a b size := by
  have t6 : (AH ++ (a ++ 45 :: b)).take 6 = AH := rfl
  have d6 : (AH ++ (a ++ 45 :: b)).drop 6 = a ++ 45 :: b := rfl
  have hd : dashes 0 ((AH ++ (a ++ 45 :: b)).drop 6) = (a.length : Int) :: dashes (0 + a.length + 1) b := by
    rw [d6, dashes_app a b 0 (no45 ha), Nat.zero_add]
  have hp := partsR_dash t6 hd
  have ea : (a ++ 45 :: b).take a.length = a := by rw [List.take_left' rfl]
  have eb : (a ++ 45 :: b).drop (a.length + 1) = b := by
    rw [show a ++ 45 :: b = (a ++ [45]) ++ b by simp, List.drop_left' (by simp)]
  rw [d6, ea, eb] at hp
  have an : a ≠ [] := fun z => by rw [z] at la; exact absurd la.1 (by simp)
  rw [if_neg (fun z => an z.1), if_pos (by rw [okp_iff, okp_iff, ha, hb, decide_eq_true la.2, decide_eq_true lb.2]; rfl)] at hp
  unfold spanR
  rw [hp]
theorem l8_ok {c0 c1 : Int} {x0 x2 x3 x4 x5 x6 x7 x8 x9 x10 x11 x12 x13 x14 x15 x16 x17 : Option W} {q : W → Sto → Prop} (h0 : 0 ≤ c0) (k : ∀ S, q (.d (.bool true)) S) : post (sq lw8 (sq lw9 (sq lw10 lw11)) [x0, some (.r 0), x2, x3, x4, x5, x6, x7, x8, x9, x10, x11, x12, x13, x14, x15, x16, x17] (CUP c0 c1)) (fun f S' => match f with
    | .rt w => q w S'
    | _ => False) := by
  rw [sq_ap]
  unfold lw8
  simp (implicitDefEqProofs := false) only [a_par2, a_call, a_cons', a_nil', a_bin, a_v, a_k, getV_cons0, getV_cons, post_ret]
  refine roll_ok h0 (by omega) fun fi a b hf0 hf1 ha => ?_
  refine roll_ok ha (by omega) fun s1 a b hs0 hs1 ha => ?_
  simp (implicitDefEqProofs := false) only [v_add, List.set_cons_zero, List.set_cons_succ]
  rw [sq_ap]
  unfold lw9
  simp (implicitDefEqProofs := false) only [a_asg, a_call, a_cons', a_nil', a_bin, a_v, a_k, getV_cons0, getV_cons, post_ret]
  refine roll_ok ha (by omega) fun r a b hr0 hr1 ha => ?_
  simp (implicitDefEqProofs := false) only [v_add, List.set_cons_zero, List.set_cons_succ]
  rw [sq_ap]
  unfold lw10
  have hdue : ∃ due : D, due = (if fi < 1 + s1 then T [fi, mn (fi + r) (1 + s1 - 1)] else T []) := ⟨_, rfl⟩
  obtain ⟨due, hdue⟩ := hdue
  have hrep : ∃ z, reprD due = some z := by
    rw [hdue]
    split
    · refine repr_two (log_ok (by omega) (by omega)) (log_ok ?_ ?_)
      · unfold mn; split <;> omega
      · unfold mn; split <;> omega
    · exact show ∃ z, reprD (PyData.tuple []) = some z from ⟨_, if_pos (by decide +kernel)⟩
  obtain ⟨zd, hzd⟩ := hrep
  have hspan : ∀ {ca cb : List Int}, cpsI (txt fi) = ca → cpsI (txt (fi + r)) = cb → spanR (AH ++ (ca ++ 45 :: cb)) (1 + s1) = due := by
    rintro ca cb rfl rfl
    obtain ⟨g1, g2, g3, g4⟩ := good_of (v := fi) (by omega)
    obtain ⟨k1, k2, k3, k4⟩ := good_of (v := fi + r) (by omega)
    rw [span_two g1 k1 ⟨g2, g3⟩ ⟨k2, k3⟩]
    unfold spanOf
    have an : cpsI (txt fi) ≠ [] := fun z => by rw [z] at g2; exact absurd g2 (by simp)
    have bn : cpsI (txt (fi + r)) ≠ [] := fun z => by rw [z] at k2; exact absurd k2 (by simp)
    rw [if_neg an, if_neg bn, g4, k4, hdue]
    by_cases c : fi < 1 + s1
    · rw [if_pos c, if_pos ⟨c, by omega⟩]
    · rw [if_neg c, if_neg fun z => c z.1]
  have fin : post (lw11 [x0, some (.r 0), x2, x3, x4, x5, x6, x7, some (.d (.int (1 + s1))), x9, x10, x11, x12, x13, some (.d (.int fi)), some (.d (.int (fi + r))), some (.d due), x17] (CUP a b)) (fun f S' => match f with
    | .rt w => q w S'
    | _ => False) := by
    unfold lw11
    have tl1 := txt_len (v := fi) (by omega) (by omega)
    have tl2 := txt_len (v := fi + r) (by omega) (by omega)
    have lb : (("bytes=" : String) : Str).length = 6 := rfl
    have ld : (("-" : String) : Str).length = 1 := rfl
    have tl1' : ((toString fi : String) : Str).length ≤ 16 := tl1
    have tl2' : ((toString (fi + r) : String) : Str).length ≤ 16 := tl2
    simp (implicitDefEqProofs := false) only [a_ret, a_cmp, a_bi, a_call, a_cons', a_nil', a_bin, a_v, a_k, getV_cons0, getV_cons, post_ret]
    rw [v_str (log_ok (by omega) (by omega)), v_catS (by rw [lb]; show _ ≤ 16777216; omega), v_catS (by rw [Str.length_append, lb, ld]; show _ ≤ 16777216; omega)]
    rw [v_str (log_ok (by omega) (by omega)), v_catS (by rw [Str.length_append, Str.length_append, lb, ld]; show _ ≤ 16777216; omega)]
    refine ltext_ok ?_ ?_
    · rw [cps_len, cpsI_len, Str.length_append, Str.length_append, Str.length_append, lb, ld]; omega
    · have ec : cpsI (((("bytes=" : String) : Str) ++ ((toString fi : String) : Str)) ++ (("-" : String) : Str) ++ ((toString (fi + r) : String) : Str)) = AH ++ (cpsI (txt fi) ++ 45 :: cpsI (txt (fi + r))) := by
        rw [cpsI_app, cpsI_app, cpsI_app, cpsI_bytes]
        have e45 : cpsI (("-" : String) : Str) = [45] := by decide
        rw [e45, List.append_assoc, List.append_assoc]
        rfl
      rw [ec]
      refine span_ok ?_ ?_ (by omega) ?_
      · refine oct_app (oct_lit rfl) (oct_app (txt_oct _) fun o m => ?_)
        rcases List.mem_cons.mp m with e | m
        · omega
        · exact txt_oct _ o m
      · rw [List.length_append, List.length_append, List.length_cons, cpsI_len, cpsI_len]
        show 6 + _ ≤ _
        omega
      · rw [hspan rfl rfl, v_repr hzd, v_repr hzd]
        simp (implicitDefEqProofs := false) only [v_eqS, beq_self_eq_true]
        exact k _
  simp (implicitDefEqProofs := false) only [a_asg, a_ite, a_cmp, a_v, a_k, getV_cons0, getV_cons, post_ret, v_lt, v_trB]
  by_cases c : fi < 1 + s1
  · rw [if_pos c] at hdue
    rw [if_pos (decide_eq_true c)]
    simp (implicitDefEqProofs := false) only [a_tup, a_bi, a_bin, a_cons', a_nil', a_v, a_k, getV_cons0, getV_cons, post_ret, v_sub, v_min, dataOf, Option.map_some, Option.some.injEq, exists_eq_left', List.length_cons, List.length_nil]
    refine ⟨by decide, ?_⟩
    simp (implicitDefEqProofs := false) only [List.set_cons_zero, List.set_cons_succ]
    rw [hdue] at fin
    exact fin
  · rw [if_neg c] at hdue
    rw [if_neg (by simpa using c)]
    simp (implicitDefEqProofs := false) only [a_tup, a_nil', dataOf, Option.map_some, Option.some.injEq, exists_eq_left', List.length_cons, List.length_nil]
    refine ⟨by decide, ?_⟩
    simp (implicitDefEqProofs := false) only [List.set_cons_zero, List.set_cons_succ]
    rw [hdue] at fin
    exact fin
end MP.Q0

namespace MP.Q0
open PySem L2 PySem.Spec PyProof.Rows
theorem law_gen {A B C : SM} {ns : List Int} (hl : ns.length ≤ 63) {q : W → Sto → Prop} (k : ∀ S, q (.d (.bool true)) S) : post (fnB 1 18 (sq lw0 (sq lw1 (sq lw2 (sq lw3 (sq lw4 (sq lw5 (sq lw6 (sq lw7 (sq lw8 (sq lw9 (sq lw10 lw11))))))))))) [.d (.list (ns.map .int))] []) q := by
  have assoc3 : ∀ (a b c d : SM) (ρ : Sl) (S : Sto) (Q : Fl → Sto → Prop), post (sq (sq a (sq b c)) d ρ S) Q → post (sq a (sq b (sq c d)) ρ S) Q := by
    intro a b c d ρ S Q h
    rw [sq_ap, sq_ap] at h
    rw [sq_ap]
    refine h.imp fun f S1 z => ?_
    cases f with
    | nx ρ1 =>
      simp (implicitDefEqProofs := false) only at z ⊢
      rw [sq_ap] at z ⊢
      refine z.imp fun f S2 z => ?_
      cases f with
      | nx ρ2 =>
        simp (implicitDefEqProofs := false) only at z ⊢
        rw [sq_ap]
        exact z
      | rt w => exact z
      | bk _ => exact z
      | ct _ => exact z
    | rt w => exact z
    | bk _ => exact z
    | ct _ => exact z
  have assoc2 : ∀ (a b c : SM) (ρ : Sl) (S : Sto) (Q : Fl → Sto → Prop), post (sq (sq a b) c ρ S) Q → post (sq a (sq b c) ρ S) Q := by
    intro a b c ρ S Q h
    rw [sq_ap, sq_ap] at h
    rw [sq_ap]
    refine h.imp fun f S1 z => ?_
    cases f with
    | nx ρ1 =>
      simp (implicitDefEqProofs := false) only at z ⊢
      rw [sq_ap]
      exact z
    | rt w => exact z
    | bk _ => exact z
    | ct _ => exact z
  refine post_fn rfl ?_
  rw [sq_ap]
  unfold lw0
  simp (implicitDefEqProofs := false) only [a_asg, a_call, a_cons', a_v, a_nil', List.map_cons, List.map_nil, List.replicate_succ, List.replicate_zero, List.cons_append, List.nil_append, getV_cons0, getV_cons, post_ret]
  refine cup_ok hl fun c0 c1 h0 => ?_
  simp (implicitDefEqProofs := false) only [List.set_cons_zero, List.set_cons_succ]
  rw [sq_ap]
  refine l1_ok h0 fun y2 y3 y4 y5 y6 y7 y8 c0 c1 h0 => ?_
  simp (implicitDefEqProofs := false) only
  rw [sq_ap]
  refine l2_ok fun y3 y9 => ?_
  simp (implicitDefEqProofs := false) only
  refine assoc3 _ _ _ _ _ _ _ ?_
  rw [sq_ap]
  refine l345_ok h0 fun y10 y11 c0 c1 h0 => ?_
  simp (implicitDefEqProofs := false) only
  refine assoc2 _ _ _ _ _ _ ?_
  rw [sq_ap]
  refine l67_ok fun y7 y8 y12 y13 => ?_
  simp (implicitDefEqProofs := false) only
  refine (l8_ok (q := fun w S' => q w (leave 0 w S')) h0 fun S => ?_).imp fun f S' z => ?_
  · exact k _
  · cases f with
    | rt w => exact z
    | nx _ => exact z.elim
    | bk _ => exact z.elim
    | ct _ => exact z.elim
theorem law_true (ns : List Int) (hl : ns.length ≤ 63) : ∃ S, m_law [.d (.list (ns.map .int))] [] = some (.ok (.d (.bool true)) S) := by
  have e : m_law = fnB 1 18 (sq lw0 (sq lw1 (sq lw2 (sq lw3 (sq lw4 (sq lw5 (sq lw6 (sq lw7 (sq lw8 (sq lw9 (sq lw10 lw11))))))))))) := rfl
  rw [e]
  have h := law_gen (A := skM) (B := skM) (C := skM) hl (q := fun w _ => w = .d (.bool true)) fun _ => rfl
  obtain ⟨w, S, e, hw⟩ := post_ok h
  exact ⟨S, by rw [e, hw]⟩
end MP.Q0

open PySem PySem.W PyProof.Rows
set_option maxHeartbeats 0 in
theorem PySem.Challenge.cw_lanternserver_k63_targets_conditions_ran_holds : PySem.Challenge.rw_lanternserver_k63_targets_conditions_ran.Holds := by
  w_on; o_law; k_head; (case hw => w_witness2)
  k_fill
  refine MP.end_of (l := PySem.Challenge.rw_lanternserver_k63_targets_conditions_ran) (n := 63) (k := 5) (ca := fun _ => 0) (x := "script") (m := MP.m_law) rfl (by decide) rfl ⟨rfl, by decide, by decide⟩ (fun w h Y => PySem.W.kIn_of Y) ?F MP.Q0.law_true
  case F =>
    intro w mg fa h KX G hmg
    refine' MP.all_mk KX G hmg ?a_is_whole ?l_is_whole ?e_is_whole ?k_is_whole ?a_is_tuple_of ?l_is_tuple_of ?e_is_tuple_of ?k_is_tuple_of ?a_text_octets ?l_text_octets ?e_text_octets ?k_text_octets ?a_fits_sign ?l_fits_sign ?e_fits_sign ?k_fits_sign ?a_digits_told ?l_digits_told ?e_digits_told ?k_digits_told ?a__law_cup ?l__law_cup ?e__law_cup ?k__law_cup ?a__law_roll ?l__law_roll ?e__law_roll ?k__law_roll ?a__law_text ?l__law_text ?e__law_text ?k__law_text ?a__law_digits ?l__law_digits ?e__law_digits ?k__law_digits ?a__law_target ?l__law_target ?e__law_target ?k__law_target ?a_need_whole ?l_need_whole ?e_need_whole ?k_need_whole ?a_are_octets ?l_are_octets ?e_are_octets ?k_are_octets ?a_parts_in ?l_parts_in ?e_parts_in ?k_parts_in ?a__law_some ?l__law_some ?e__law_some ?k__law_some ?a__law_tag ?l__law_tag ?e__law_tag ?k__law_tag ?a__law_span ?l__law_span ?e__law_span ?k__law_span ?a_need_octets ?l_need_octets ?e_need_octets ?k_need_octets ?a_is_file_name ?l_is_file_name ?e_is_file_name ?k_is_file_name ?a_tag_of ?l_tag_of ?e_tag_of ?k_tag_of ?a__law_fits ?l__law_fits ?e__law_fits ?k__law_fits ?a__law_odd_target ?l__law_odd_target ?e__law_odd_target ?k__law_odd_target ?a__law_odd_range ?l__law_odd_range ?e__law_odd_range ?k__law_odd_range ?a_target_of ?l_target_of ?e_target_of ?k_target_of ?a_fits_tag ?l_fits_tag ?e_fits_tag ?k_fits_tag ?a_span_in ?l_span_in ?e_span_in ?k_span_in ?a_law ?l_law ?e_law ?k_law ?z_abs ?z_all ?z_bool ?z_enumerate ?z_int ?z_isinstance ?z_len ?z_list ?z_min ?z_ord ?z_range ?z_repr ?z_str ?z_tuple ?c_AHEAD ?u_AHEAD ?w_AHEAD ?v_AHEAD ?c_DASH ?c_DIGITS ?c_DOT ?c_LATEST ?c_LONGEST ?c_SIZE ?c_SLASH ?c_STAR ?u_STAR ?w_STAR ?v_STAR ?c_TARGET ?c_VALUE
    (case a_is_whole => k_is)
    (case l_is_whole => k_is)
    (case e_is_whole => k_is)
    (case k_is_whole => k_is)
    (case a_is_tuple_of => k_is)
    (case l_is_tuple_of => k_is)
    (case e_is_tuple_of => k_is)
    (case k_is_tuple_of => k_is)
    (case a_text_octets => k_is)
    (case l_text_octets => k_is)
    (case e_text_octets => k_is)
    (case k_text_octets => k_is)
    (case a_fits_sign => k_is)
    (case l_fits_sign => k_is)
    (case e_fits_sign => k_is)
    (case k_fits_sign => k_is)
    (case a_digits_told => k_is)
    (case l_digits_told => k_is)
    (case e_digits_told => k_is)
    (case k_digits_told => k_is)
    (case a__law_cup => k_is)
    (case l__law_cup => k_is)
    (case e__law_cup => k_is)
    (case k__law_cup => k_is)
    (case a__law_roll => k_is)
    (case l__law_roll => k_is)
    (case e__law_roll => k_is)
    (case k__law_roll => k_is)
    (case a__law_text => k_is)
    (case l__law_text => k_is)
    (case e__law_text => k_is)
    (case k__law_text => k_is)
    (case a__law_digits => k_is)
    (case l__law_digits => k_is)
    (case e__law_digits => k_is)
    (case k__law_digits => k_is)
    (case a__law_target => k_is)
    (case l__law_target => k_is)
    (case e__law_target => k_is)
    (case k__law_target => k_is)
    (case a_need_whole => k_is)
    (case l_need_whole => k_is)
    (case e_need_whole => k_is)
    (case k_need_whole => k_is)
    (case a_are_octets => k_is)
    (case l_are_octets => k_is)
    (case e_are_octets => k_is)
    (case k_are_octets => k_is)
    (case a_parts_in => k_is)
    (case l_parts_in => k_is)
    (case e_parts_in => k_is)
    (case k_parts_in => k_is)
    (case a__law_some => k_is)
    (case l__law_some => k_is)
    (case e__law_some => k_is)
    (case k__law_some => k_is)
    (case a__law_tag => k_is)
    (case l__law_tag => k_is)
    (case e__law_tag => k_is)
    (case k__law_tag => k_is)
    (case a__law_span => k_is)
    (case l__law_span => k_is)
    (case e__law_span => k_is)
    (case k__law_span => k_is)
    (case a_need_octets => k_is)
    (case l_need_octets => k_is)
    (case e_need_octets => k_is)
    (case k_need_octets => k_is)
    (case a_is_file_name => k_is)
    (case l_is_file_name => k_is)
    (case e_is_file_name => k_is)
    (case k_is_file_name => k_is)
    (case a_tag_of => k_is)
    (case l_tag_of => k_is)
    (case e_tag_of => k_is)
    (case k_tag_of => k_is)
    (case a__law_fits => k_is)
    (case l__law_fits => k_is)
    (case e__law_fits => k_is)
    (case k__law_fits => k_is)
    (case a__law_odd_target => k_is)
    (case l__law_odd_target => k_is)
    (case e__law_odd_target => k_is)
    (case k__law_odd_target => k_is)
    (case a__law_odd_range => k_is)
    (case l__law_odd_range => k_is)
    (case e__law_odd_range => k_is)
    (case k__law_odd_range => k_is)
    (case a_target_of => k_is)
    (case l_target_of => k_is)
    (case e_target_of => k_is)
    (case k_target_of => k_is)
    (case a_fits_tag => k_is)
    (case l_fits_tag => k_is)
    (case e_fits_tag => k_is)
    (case k_fits_tag => k_is)
    (case a_span_in => k_is)
    (case l_span_in => k_is)
    (case e_span_in => k_is)
    (case k_span_in => k_is)
    (case a_law => k_is)
    (case l_law => k_is)
    (case e_law => k_is)
    (case k_law => k_is)
    (case z_abs => k_is)
    (case z_all => k_is)
    (case z_bool => k_is)
    (case z_enumerate => k_is)
    (case z_int => k_is)
    (case z_isinstance => k_is)
    (case z_len => k_is)
    (case z_list => k_is)
    (case z_min => k_is)
    (case z_ord => k_is)
    (case z_range => k_is)
    (case z_repr => k_is)
    (case z_str => k_is)
    (case z_tuple => k_is)
    (case c_AHEAD => k_is)
    (case u_AHEAD => k_is)
    (case w_AHEAD => decide +kernel)
    (case v_AHEAD => exact .cons ⟨_, rfl⟩ (.cons ⟨_, rfl⟩ (.cons ⟨_, rfl⟩ (.cons ⟨_, rfl⟩ (.cons ⟨_, rfl⟩ (.cons ⟨_, rfl⟩ (.nil)))))))
    (case c_DASH => k_is)
    (case c_DIGITS => k_is)
    (case c_DOT => k_is)
    (case c_LATEST => k_is)
    (case c_LONGEST => k_is)
    (case c_SIZE => k_is)
    (case c_SLASH => k_is)
    (case c_STAR => k_is)
    (case u_STAR => k_is)
    (case w_STAR => decide +kernel)
    (case v_STAR => exact .cons ⟨_, rfl⟩ (.nil))
    (case c_TARGET => k_is)
    (case c_VALUE => k_is)
