import PyProof.Rows.All
import PySem.Challenge.RW_lanternserver_k57_whole_chunks
import Wide.All
import OpenK.AllK
import Wide.FinOn
import HandS.ForMost
import HandS.ForExc
import HandS.TupAny
import HandS.TupMul
import HandS.IsInst
import HandS.Deep
import HandS.DeepEq
import HandS.Flow
import HandS.FStr
import HandS.RaiseMore
import HandS.SetKeys
import HandS.Zip
import HandS.Style
import HandS.Wide
import KE.GoesEnum
import HandS.SortInts
import HandS.ListItems
import HandS.Replace
import HandS.Strs
import HandS.Text
set_option Elab.async false
set_option linter.all false
set_option maxRecDepth 100000
set_option maxHeartbeats 4000000
/-! Core language, evaluator. -/
namespace MP
open PySem L2

abbrev D := PyData

/-- a value: data, or an object of the store -/
inductive W where
  | d (x : D) | r (i : Nat)
/-- an object of the store -/
inductive O where
  | lst (xs : List W)
  | dk (kvs : List (Key × W))
  | dt (kvs : List (List Key × W))
  | ins (c : Nat) (fs : List (Str × W))
abbrev Sto := List O
abbrev Sl := List (Option W)
structure Ex where
  cls : Nat
  fs : List (Str × D)
inductive Out (α : Type) where
  | ok (a : α) (S : Sto)
  | ex (e : Ex) (S : Sto)
abbrev M (α : Type) := Sto → Option (Out α)

@[inline] def ret {α : Type} (a : α) : M α := fun S => some (.ok a S)
def bad {α : Type} : M α := fun _ => none
def bnd {α β : Type} (x : M α) (f : α → M β) : M β := fun S =>
  match x S with
  | none => none
  | some (.ok a S') => f a S'
  | some (.ex e S') => some (.ex e S')
/-- a pure partial step -/
def opt {α : Type} : Option α → M α
  | some a => ret a
  | none => bad

inductive B2 where
  | add | sub | mul | fdiv | mod | pow | band | bor
  deriving DecidableEq
inductive C2 where
  | eq | ne | lt | le | gt | ge | isn | isnn | inn | nin
  deriving DecidableEq
inductive B1 where
  | len | tuple | list | int | abs | str | fmt | repr | ord | all | any | sum | min | max | sorted | range
  | isI (T : String)
  deriving DecidableEq
inductive Me where
  | append | setdefault | get | pop | items | index | join | split | startswith | upper
  deriving DecidableEq
inductive IK where
  | seq | rng | enum | zip
  deriving DecidableEq
/-- a target -/
inductive P where
  | nm (i : Nat)
  | tup (is : List Nat)
inductive E where
  | k (x : D)
  | v (i : Nat)
  | tup (es : List E)
  | lst (es : List E)
  | nl (es : List E)
  | ndk | ndt
  | bin (op : B2) (a b : E)
  | neg (a : E)
  | cmp (op : C2) (a b : E)
  | chain (o1 o2 : C2) (a b c : E)
  | and2 (a b : E)
  | or2 (a b : E)
  | not1 (a : E)
  | ite (c a b : E)
  | sub (a i : E)
  | slc (a : E) (lo hi : Option E)
  | rev (a : E)
  | call (f : Nat) (es : List E)
  | bi (f : B1) (es : List E)
  | me (m : Me) (o : E) (es : List E)
  | lc (elt : E) (p : P) (ik : IK) (src : List E) (cond : List E) (own : List Nat)
  | lc2 (elt : E) (p : P) (ik : IK) (src : List E) (cond : List E) (p1 : P) (ik1 : IK) (src1 : List E) (cond1 : List E) (own own1 : List Nat)
  | fs (es : List E)
  | attr (o : E) (f : Str)
  | mcall (o : E) (m : Str) (es : List E)
  | new (c : Nat) (es : List E)
inductive Sm where
  | ex (e : E)
  | asg (p : P) (e : E)
  | par (is : List Nat) (es : List E)
  | aug (i : Nat) (op : B2) (e : E)
  | setI (o i : E) (e : E)
  | setA (o : E) (f : Str) (e : E)
  | ite (c : E) (a b : List Sm)
  | whl (c : E) (b : List Sm)
  | for (p : P) (ik : IK) (src : List E) (b : List Sm)
  | rt (e : E)
  | rtN
  | brk | cont | pass
  | bad

/-! ### values -/
/-- the type of a datum -/
def tyName : D → String
  | .none => "NoneType" | .bool _ => "bool" | .int _ => "int" | .str _ => "str" | .list _ => "list" | .tuple _ => "tuple" | .dict _ => "dict"
def isI (T : String) (d : D) : Option Bool := L2.kitB (tyName d) T
/-- the line of sizes -/
abbrev SZ : Nat := 16777216
def truD : D → Option Bool
  | .none => some false
  | .bool b => some b
  | .int i => some (i != 0)
  | .str x => if x.length ≤ SZ then some ((x.length : Int) != 0) else none
  | .list xs => some (!xs.isEmpty)
  | .tuple xs => some (!xs.isEmpty)
  | .dict _ => none
def truW (w : W) : M Bool := fun S =>
  match w with
  | .d x => (truD x).map fun b => .ok b S
  | .r i => match S[i]? with
    | some (.lst xs) => some (.ok (!xs.isEmpty) S)
    | some (.dk kvs) => some (.ok (!kvs.isEmpty) S)
    | _ => none
def binD : B2 → D → D → Option D
  | .add, .int i, .int j => some (.int (i + j))
  | .add, .str x, .str y => if x.length + y.length ≤ SZ then some (.str (x ++ y)) else none
  | .add, .tuple xs, .tuple ys => if xs.length + ys.length ≤ SZ then some (.tuple (xs ++ ys)) else none
  | .add, .list xs, .list ys => if xs.length + ys.length ≤ SZ then some (.list (xs ++ ys)) else none
  | .sub, .int i, .int j => some (.int (i - j))
  | .mul, .int i, .int j => if (-(2 ^ 64) < i ∧ i < 2 ^ 64) ∨ (-(2 ^ 64) < j ∧ j < 2 ^ 64) then some (.int (i * j)) else none
  | .mul, .tuple xs, .int k => if xs ≠ [] ∧ 2 ≤ k ∧ (xs.length : Int) * k ≤ 1000000 then some (.tuple (List.replicate k.toNat xs).flatten) else none
  | .fdiv, .int i, .int j => if 0 < j ∧ j < 18446744073709551616 then some (.int (i / j)) else none
  | .mod, .int i, .int j => if 0 < j then some (.int (i % j)) else none
  | .pow, .int i, .int j => if 0 ≤ j ∧ j ≤ 1000000 ∧ i.natAbs < 2 ^ 64 then some (.int (i ^ j.toNat)) else none
  | .band, .int i, .int j => some (.int (Builtin.bitAnd i j))
  | .bor, .int i, .int j => some (.int (Builtin.bitOr i j))
  | _, _, _ => none
def negW : W → M W
  | .d (.int i) => ret (.d (.int (-i)))
  | _ => bad
def binW (op : B2) : W → W → M W
  | .d x, .d y => bnd (opt (binD op x y)) fun z => ret (.d z)
  | _, _ => bad
def eqD : D → D → Option Bool
  | .str x, .str y => some (x == y)
  | .int x, .int y => some (x == y)
  | x, y => if SeqAt.shaped x = true ∧ SeqAt.shaped y = true then some (PyData.eqv x y) else none
def intsOf : List D → Option (List Int)
  | [] => some []
  | .int i :: r => (intsOf r).map (i :: ·)
  | _ :: _ => none
def ltD : D → D → Option Bool
  | .int i, .int j => some (decide (i < j))
  | .tuple xs, .tuple ys => match intsOf xs, intsOf ys with
    | some a, some b => some (HT.lexLt a b)
    | _, _ => none
  | _, _ => none
def leD : D → D → Option Bool
  | .int i, .int j => some (decide (i ≤ j))
  | _, _ => none
def isNone : W → Bool
  | .d .none => true
  | _ => false
def keyD : D → Option Key
  | .int i => some (.inl i)
  | .str x => some (.inr x)
  | _ => none
def keysD : List D → Option (List Key)
  | [] => some []
  | x :: r => match keyD x, keysD r with
    | some k, some ks => some (k :: ks)
    | _, _ => none
def look {κ β : Type} [DecidableEq κ] (k : κ) : List (κ × β) → Option β
  | [] => none
  | (j, x) :: r => if j = k then some x else look k r
def put {κ β : Type} [DecidableEq κ] (kvs : List (κ × β)) (k : κ) (x : β) : List (κ × β) :=
  if kvs.any (fun kv => decide (kv.1 = k)) then kvs.map fun kv => if kv.1 = k then (kv.1, x) else kv else kvs ++ [(k, x)]
/-- a text of one sign -/
def sign1 (z : Str) : Option Nat := match z.cps.toList with
  | [c] => some c
  | _ => none
theorem sign1_eq {z : Str} {c : Nat} (h : sign1 z = some c) : z = ⟨#[c]⟩ := by
  obtain ⟨⟨l⟩⟩ := z
  unfold sign1 at h
  split at h
  · rename_i c' e
    cases h
    have e : l = [c] := e
    rw [e]
  · cases h
def inD (x : D) : D → Option Bool
  | .list ys => if SeqAt.shaped x = true ∧ SeqAt.shaped (.list ys) = true then some (ys.any fun z => PyData.eqv z x) else none
  | .tuple ys => if SeqAt.shaped x = true ∧ SeqAt.shaped (.tuple ys) = true then some (ys.any fun z => PyData.eqv z x) else none
  | .str z => match x with
    | .str y => (sign1 y).map fun c => decide (c ∈ z.cps.toList)
    | _ => none
  | _ => none
def cmpW (op : C2) (x y : W) : M Bool := fun S =>
  match op, x, y with
  | .eq, .d x, .d y => (eqD x y).map fun b => .ok b S
  | .ne, .d x, .d y => (eqD x y).map fun b => .ok (!b) S
  | .lt, .d x, .d y => (ltD x y).map fun b => .ok b S
  | .gt, .d (.int x), .d (.int y) => some (.ok (decide (y < x)) S)
  | .le, .d x, .d y => (leD x y).map fun b => .ok b S
  | .ge, .d (.int x), .d (.int y) => some (.ok (decide (y ≤ x)) S)
  | .isn, x, .d .none => some (.ok (isNone x) S)
  | .isnn, x, .d .none => some (.ok (!isNone x) S)
  | .inn, .d x, .d y => (inD x y).map fun b => .ok b S
  | .nin, .d x, .d y => (inD x y).map fun b => .ok (!b) S
  | .inn, .d x, .r i => match S[i]? with
    | some (.dk kvs) => match keyD x with
      | some k => some (.ok (look k kvs).isSome S)
      | none => none
    | _ => none
  | .nin, .d x, .r i => match S[i]? with
    | some (.dk kvs) => match keyD x with
      | some k => some (.ok (!(look k kvs).isSome) S)
      | none => none
    | _ => none
  | _, _, _ => none
def cmpV (op : C2) (x y : W) : M W := bnd (cmpW op x y) fun c => ret (.d (.bool c))
def subW (o i : W) : M W := fun S =>
  match o, i with
  | .d (.list xs), .d (.int k) => (L2.atI xs k).map fun x => .ok (.d x) S
  | .d (.tuple xs), .d (.int k) => (L2.atI xs k).map fun x => .ok (.d x) S
  | .d (.str z), .d (.int k) => if z.length ≤ SZ then (L2.atI z.cps.toList k).map fun c => .ok (.d (.str ⟨#[c]⟩)) S else none
  | .r i, .d k => match S[i]? with
    | some (.lst xs) => match k with
      | .int k => (L2.atI xs k).map fun x => .ok x S
      | _ => none
    | some (.dk kvs) => match keyD k with
      | some k => (look k kvs).map fun x => .ok x S
      | none => none
    | _ => none
  | _, _ => none
def cut {α : Type} (xs : List α) (lo hi : Option Int) : List α := (xs.drop (HT.sIx xs.length 0 lo)).take (HT.sIx xs.length xs.length hi - HT.sIx xs.length 0 lo)
def slcW (o : W) (lo hi : Option Int) : M W := fun S =>
  match o with
  | .d (.list xs) => some (.ok (.d (.list (cut xs lo hi))) S)
  | .d (.tuple xs) => some (.ok (.d (.tuple (cut xs lo hi))) S)
  | .d (.str z) => if z.length ≤ SZ then some (.ok (.d (.str (cutS z lo hi))) S) else none
  | _ => none
def dataOf : List W → Option (List D)
  | [] => some []
  | .d x :: r => (dataOf r).map (x :: ·)
  | .r _ :: _ => none
def bools : List D → Option (List Bool)
  | [] => some []
  | .bool b :: r => (bools r).map (b :: ·)
  | _ :: _ => none
/-- repr's own conditions -/
def reprD (x : D) : Option Str :=
  if x.showable = true ∧ x.hasDict = false ∧ x.depth ≤ 60 ∧ x.shown.length ≤ SZ then some x.shown else none
def strD : D → Option Str
  | .str x => some x
  | .int i => if i.natAbs.log2 < 1920 then some (toString i) else none
  | _ => none
def fmtD : D → Option Str
  | .str x => if x.length ≤ SZ then some x else none
  | .int i => if i.natAbs.log2 < 1920 then some (toString i) else none
  | _ => none
/-- the texts of an f-string, one behind the other -/
def joinD : List D → Str → Option Str
  | [], acc => some acc
  | .str y :: r, acc => if (acc ++ y).length ≤ SZ then joinD r (acc ++ y) else none
  | _ :: _, _ => none
def minL : List Int → Option Int
  | [] => none
  | x :: r => some (r.foldl (fun a b => if b < a then b else a) x)
def maxL : List Int → Option Int
  | [] => none
  | x :: r => some (r.foldl (fun a b => if b > a then b else a) x)
def b1D : B1 → List D → Option D
  | .len, [.str z] => if z.length ≤ SZ then some (.int z.length) else none
  | .len, [.list xs] => some (.int xs.length)
  | .len, [.tuple xs] => some (.int xs.length)
  | .tuple, [.list xs] => some (.tuple xs)
  | .tuple, [.tuple xs] => some (.tuple xs)
  | .list, [.list xs] => some (.list xs)
  | .list, [.tuple xs] => some (.list xs)
  | .int, [.int i] => some (.int i)
  | .int, [.bool b] => some (.int (if b then 1 else 0))
  | .abs, [.int i] => some (.int (if i < 0 then -i else i))
  | .str, [x] => (strD x).map .str
  | .fmt, [x] => (fmtD x).map .str
  | .repr, [x] => (reprD x).map .str
  | .ord, [.str z] => (sign1 z).map fun c => .int (c : Nat)
  | .all, [.list xs] => (bools xs).map fun bs => .bool (bs.all id)
  | .any, [.list xs] => (bools xs).map fun bs => .bool (bs.any id)
  | .sum, [.list xs] => (intsOf xs).map fun ns => .int ns.sum
  | .min, [.int i, .int j] => some (.int (if j < i then j else i))
  | .max, [.int i, .int j] => some (.int (if j > i then j else i))
  | .isI T, [x] => (isI T x).map .bool
  | _, _ => none
def b1W (f : B1) (ws : List W) : M W := fun S =>
  match f, ws with
  | .len, [.r i] => match S[i]? with
    | some (.lst xs) => some (.ok (.d (.int xs.length)) S)
    | some (.dk kvs) => some (.ok (.d (.int kvs.length)) S)
    | _ => none
  | .tuple, [.r i] => match S[i]? with
    | some (.lst xs) => (dataOf xs).map fun ys => .ok (.d (.tuple ys)) S
    | _ => none
  | f, ws => match dataOf ws with
    | some xs => (b1D f xs).map fun y => .ok (.d y) S
    | none => none
def meW (m : Me) (o : W) (ws : List W) : M W := fun S =>
  match m, o, ws with
  | .append, .r i, [w] => match S[i]? with
    | some (.lst xs) => if xs.length < SZ then some (.ok (.d .none) (S.set i (.lst (xs ++ [w])))) else none
    | _ => none
  | .setdefault, .r i, [.d k, w] => match S[i]?, keyD k with
    | some (.dk kvs), some k => if kvs.length < SZ then
        match look k kvs with
        | some x => some (.ok x S)
        | none => some (.ok w (S.set i (.dk (kvs ++ [(k, w)]))))
      else none
    | _, _ => none
  | _, _, _ => none
def setW (o i w : W) : M Unit := fun S =>
  match o, i with
  | .r n, .d k => match S[n]? with
    | some (.lst xs) => match k with
      | .int k => match ixN xs.length k with
        | some j => some (.ok () (S.set n (.lst (xs.set j w))))
        | none => none
      | _ => none
    | some (.dk kvs) => match keyD k with
      | some k => if kvs.length < SZ then some (.ok () (S.set n (.dk (put kvs k w)))) else none
      | none => none
    | _ => none
  | _, _ => none
def alloc (o : O) : M W := fun S => some (.ok (.r S.length) (S ++ [o]))

/-! ### targets, sources -/
def bindL : List Nat → List D → Sl → Option Sl
  | [], [], ρ => some ρ
  | i :: is, x :: xs, ρ => bindL is xs (ρ.set i (some (.d x)))
  | _, _, _ => none
def bindP : P → W → Sl → Option Sl
  | .nm i, w, ρ => some (ρ.set i (some w))
  | .tup is, .d (.tuple xs), ρ => bindL is xs ρ
  | .tup _, _, _ => none
def P.slots : P → List Nat
  | .nm i => [i]
  | .tup is => is
def enumD : Nat → List D → List D
  | _, [] => []
  | n, x :: r => .tuple [.int (n : Nat), x] :: enumD (n + 1) r
def zipD : List D → List D → List D
  | x :: xs, y :: ys => .tuple [x, y] :: zipD xs ys
  | _, _ => []
def itemsOf : IK → List W → Option (List D)
  | .seq, [.d (.list xs)] => some xs
  | .seq, [.d (.tuple xs)] => some xs
  | .seq, [.d (.str z)] => some (z.cps.toList.map fun c => .str ⟨#[c]⟩)
  | .rng, [.d (.int n)] => if -(2 ^ 62) ≤ n ∧ n < 2 ^ 62 then some ((List.range n.toNat).map fun (i : Nat) => .int (i : Int)) else none
  | .rng, [.d (.int a), .d (.int b)] => if -(2 ^ 62) ≤ a ∧ a < 2 ^ 62 ∧ -(2 ^ 62) ≤ b ∧ b < 2 ^ 62 then some ((List.range (b - a).toNat).map fun (i : Nat) => .int (a + (i : Int))) else none
  | .enum, [.d (.list xs)] => some (enumD 0 xs)
  | .enum, [.d (.tuple xs)] => some (enumD 0 xs)
  | .zip, [.d (.list xs), .d (.list ys)] => some (zipD xs ys)
  | .zip, [.d (.tuple xs), .d (.tuple ys)] => some (zipD xs ys)
  | _, _ => none
def wipeW (ρ : Sl) : List Nat → Sl
  | [] => ρ
  | v :: vs => (wipeW ρ vs).set v none

/-! ### the evaluator -/
def srcM (ik : IK) (m : M (List W)) : M (List D) := bnd m fun ws => opt (itemsOf ik ws)
/-- what the defs do -/
abbrev FT := Nat → List W → M W
/-- the comprehension's loop: turn hands back the element, or that it is left out -/
def lcM (turn : D → M (Option D)) : List D → M (List D)
  | [] => ret []
  | x :: r => bnd (turn x) fun y => bnd (lcM turn r) fun ys => ret (match y with
    | some z => z :: ys
    | none => ys)
def lcM2 (turn : D → M (List D)) : List D → M (List D)
  | [] => ret []
  | x :: r => bnd (turn x) fun y => bnd (lcM2 turn r) fun ys => ret (y ++ ys)
def sizeOk (xs : List D) : M W := if xs.length ≤ SZ then ret (.d (.list xs)) else bad
def getV (ρ : Sl) (i : Nat) : M W := match ρ[i]? with
  | some (some w) => ret w
  | _ => bad
def asD : W → M D
  | .d x => ret x
  | .r _ => bad
def asOI : Option W → Option (Option Int)
  | none => some none
  | some (.d (.int i)) => some (some i)
  | _ => none
section
variable (F : FT)
mutual
def ev : E → Sl → M W
  | .k x, _ => ret (.d x)
  | .v i, ρ => getV ρ i
  | .tup es, ρ => bnd (evs es ρ) fun ws => match dataOf ws with
    | some xs => if xs.length ≤ SZ then ret (.d (.tuple xs)) else bad
    | none => bad
  | .lst es, ρ => bnd (evs es ρ) fun ws => match dataOf ws with
    | some xs => if xs.length ≤ SZ then ret (.d (.list xs)) else bad
    | none => bad
  | .nl es, ρ => bnd (evs es ρ) fun ws => if ws.length ≤ SZ then alloc (.lst ws) else bad
  | .ndk, _ => alloc (.dk [])
  | .ndt, _ => alloc (.dt [])
  | .bin op a b, ρ => bnd (ev a ρ) fun x => bnd (ev b ρ) fun y => binW op x y
  | .neg a, ρ => bnd (ev a ρ) fun x => negW x
  | .cmp op a b, ρ => bnd (ev a ρ) fun x => bnd (ev b ρ) fun y => cmpV op x y
  | .chain o1 o2 a b c, ρ => bnd (ev a ρ) fun x => bnd (ev b ρ) fun y => bnd (cmpW o1 x y) fun t =>
      if t = true then bnd (ev c ρ) fun z => cmpV o2 y z else ret (.d (.bool false))
  | .and2 a b, ρ => bnd (ev a ρ) fun x => bnd (truW x) fun t => if t = true then ev b ρ else ret x
  | .or2 a b, ρ => bnd (ev a ρ) fun x => bnd (truW x) fun t => if t = true then ret x else ev b ρ
  | .not1 a, ρ => bnd (ev a ρ) fun x => bnd (truW x) fun t => ret (.d (.bool (!t)))
  | .ite c a b, ρ => bnd (ev c ρ) fun x => bnd (truW x) fun t => if t = true then ev a ρ else ev b ρ
  | .sub a i, ρ => bnd (ev a ρ) fun x => bnd (ev i ρ) fun y => subW x y
  | .slc a lo hi, ρ => bnd (ev a ρ) fun x => bnd (evo lo ρ) fun l => bnd (evo hi ρ) fun h => match asOI l, asOI h with
    | some l, some h => slcW x l h
    | _, _ => bad
  | .rev a, ρ => bnd (ev a ρ) fun x => match x with
    | .d (.list xs) => ret (.d (.list xs.reverse))
    | .d (.tuple xs) => ret (.d (.tuple xs.reverse))
    | _ => bad
  | .call f es, ρ => bnd (evs es ρ) fun ws => F f ws
  | .bi f es, ρ => bnd (evs es ρ) fun ws => b1W f ws
  | .me m o es, ρ => bnd (ev o ρ) fun x => bnd (evs es ρ) fun ws => meW m x ws
  | .lc elt p ik src cond own, ρ => bnd (srcM ik (evs src ρ)) fun items => bnd (lcM (fun x => bnd (opt (bindP p (.d x) (wipeW ρ own))) fun ρ' =>
        bnd (evc cond ρ') fun t => if t = true then bnd (ev elt ρ') fun y => bnd (asD y) fun z => ret (some z) else ret none) items) sizeOk
  | .lc2 elt p ik src cond p1 ik1 src1 cond1 own own1, ρ => bnd (srcM ik (evs src ρ)) fun items => bnd (lcM2 (fun x => bnd (opt (bindP p (.d x) (wipeW ρ own))) fun ρ' =>
        bnd (evc cond ρ') fun t => if t = true then
            bnd (srcM ik1 (evs src1 ρ')) fun items1 => lcM (fun x1 => bnd (opt (bindP p1 (.d x1) (wipeW ρ' own1))) fun ρ2 =>
                bnd (evc cond1 ρ2) fun t1 => if t1 = true then bnd (ev elt ρ2) fun y => bnd (asD y) fun z => ret (some z) else ret none) items1
          else ret []) items) sizeOk
  | .fs es, ρ => bnd (evs es ρ) fun ws => match dataOf ws with
    | none => bad
    | some xs => match joinD xs Str.empty with
      | none => bad
      | some z => ret (.d (.str z))
  | .attr o f, ρ => bnd (ev o ρ) fun x => fun S => match x with
    | .r i => match S[i]? with
      | some (.ins _ fs) => (fs.lookup f).map fun w => .ok w S
      | _ => none
    | _ => none
  | .mcall _ _ _, _ => bad
  | .new _ _, _ => bad
def evs : List E → Sl → M (List W)
  | [], _ => ret []
  | e :: es, ρ => bnd (ev e ρ) fun w => bnd (evs es ρ) fun ws => ret (w :: ws)
def evo : Option E → Sl → M (Option W)
  | none, _ => ret none
  | some e, ρ => bnd (ev e ρ) fun w => ret (some w)
def evc : List E → Sl → M Bool
  | [], _ => ret true
  | [c], ρ => bnd (ev c ρ) truW
  | _, _ => bad
end
end

inductive Fl where
  | nx (ρ : Sl) | rt (w : W) | bk (ρ : Sl) | ct (ρ : Sl)
/-- turns of a while -/
def whileM (c : Sl → M Bool) (b : Sl → M Fl) : Nat → Sl → M Fl
  | 0, _ => bad
  | n + 1, ρ => bnd (c ρ) fun t => if t = true then bnd (b ρ) fun f => match f with
      | .nx ρ' => whileM c b n ρ'
      | .ct ρ' => whileM c b n ρ'
      | .bk ρ' => ret (.nx ρ')
      | .rt w => ret (.rt w)
    else ret (.nx ρ)
def forM (p : P) (b : Sl → M Fl) : List D → Sl → M Fl
  | [], ρ => ret (.nx ρ)
  | x :: r, ρ => bnd (opt (bindP p (.d x) ρ)) fun ρ' => bnd (b ρ') fun f => match f with
      | .nx ρ2 => forM p b r ρ2
      | .ct ρ2 => forM p b r ρ2
      | .bk ρ2 => ret (.nx ρ2)
      | .rt w => ret (.rt w)
/-- more turns than any while of ours takes -/
def WF : Nat := 1000000
section
variable (F : FT)
mutual
def ex : Sm → Sl → M Fl
  | .ex e, ρ => bnd (ev F e ρ) fun _ => ret (.nx ρ)
  | .asg p e, ρ => bnd (ev F e ρ) fun w => bnd (opt (bindP p w ρ)) fun ρ' => ret (.nx ρ')
  | .par is es, ρ => bnd (evs F es ρ) fun ws => if ws.length = is.length then ret (.nx ((is.zip ws).foldl (fun r z => r.set z.1 (some z.2)) ρ)) else bad
  | .aug i op e, ρ => bnd (getV ρ i) fun x => bnd (ev F e ρ) fun y => bnd (binW op x y) fun z => ret (.nx (ρ.set i (some z)))
  | .setI o i e, ρ => bnd (ev F e ρ) fun w => bnd (ev F o ρ) fun x => bnd (ev F i ρ) fun y => bnd (setW x y w) fun _ => ret (.nx ρ)
  | .setA _ _ _, _ => bad
  | .ite c a b, ρ => bnd (ev F c ρ) fun x => bnd (truW x) fun t => if t = true then exs a ρ else exs b ρ
  | .whl c b, ρ => whileM (fun ρ => bnd (ev F c ρ) truW) (fun ρ => exs b ρ) WF ρ
  | .for p ik src b, ρ => bnd (srcM ik (evs F src ρ)) fun items => forM p (fun ρ => exs b ρ) items ρ
  | .rt e, ρ => bnd (ev F e ρ) fun w => ret (.rt w)
  | .rtN, _ => ret (.rt (.d .none))
  | .brk, ρ => ret (.bk ρ)
  | .cont, ρ => ret (.ct ρ)
  | .pass, ρ => ret (.nx ρ)
  | .bad, _ => bad
def exs : List Sm → Sl → M Fl
  | [], ρ => ret (.nx ρ)
  | s :: r, ρ => bnd (ex s ρ) fun f => match f with
    | .nx ρ' => exs r ρ'
    | f => ret f
end
end

structure Fd where
  np : Nat
  nsl : Nat
  body : List Sm
def W.below (n : Nat) : W → Bool
  | .d _ => true
  | .r i => decide (i < n)
def O.below (n : Nat) : O → Bool
  | .lst xs => xs.all (W.below n)
  | .dk kvs => kvs.all fun p => p.2.below n
  | .dt kvs => kvs.all fun p => p.2.below n
  | .ins _ fs => fs.all fun p => p.2.below n
/-- what a call leaves of the store -/
def leave (n : Nat) (w : W) (S : Sto) : Sto :=
  if S.length ≤ n then S else match w with
    | .d _ => if (S.take n).all (O.below n) = true then S.take n else S
    | .r _ => S
def finB (n : Nat) (w : W) : M W := fun S => some (.ok w (leave n w S))
def runB (F : FT) (fd : Fd) (ws : List W) : M W := fun S =>
  if ws.length = fd.np then
    bnd (exs F fd.body (ws.map some ++ List.replicate (fd.nsl - ws.length) none)) (fun f => match f with
      | .nx _ => finB S.length (.d .none)
      | .rt w => finB S.length w
      | _ => bad) S
  else none
def callT (Γ : Nat → Option Fd) : Nat → FT
  | 0, _, _ => bad
  | d + 1, f, ws => match Γ f with
    | some fd => runB (callT Γ d) fd ws
    | none => bad
end MP

/-! What the evaluator's values and store say of the abstract heap. -/
namespace MP
open PySem L2 PySem.Spec PyProof.Rows
abbrev Sg := L2.St

/-! ### outcomes -/
def post {α : Type} (r : Option (Out α)) (q : α → Sto → Prop) : Prop :=
  match r with
  | some (.ok a S) => q a S
  | _ => False
theorem post_bnd {α β : Type} (x : M α) (f : α → M β) (S : Sto) (q : β → Sto → Prop) : post (bnd x f S) q = post (x S) (fun a S' => post (f a S') q) := by
  unfold bnd
  cases x S with
  | none => rfl
  | some o => cases o <;> rfl
theorem post.imp {α : Type} {r : Option (Out α)} {q q' : α → Sto → Prop} (h : post r q) (k : ∀ a S, q a S → q' a S) : post r q' := by
  cases r with
  | none => exact h
  | some o => cases o with
    | ok a S => exact k a S h
    | ex e S => exact h
theorem post_ret {α : Type} (a : α) (S : Sto) (q : α → Sto → Prop) : post (ret a S) q = q a S := rfl
theorem post_bad {α : Type} (S : Sto) (q : α → Sto → Prop) : post (bad S) q = False := rfl

/-- the store's addresses; lists that are being made -/
structure Zs where
  l : List Addr
  t : List Addr
def Zs.fr (z : Zs) (a : Addr) : Prop := a ∉ z.l ∧ a ∉ z.t
/-! ### data -/
def LstAt (K : PySem.W.Frag) (η : Zs) (H : Hp) (a : Addr) (xs : List V) : Prop := (Rd H a (.lst xs) ∧ η.fr a) ∨ SqL K (fun _ => none) a xs
def TupAt (K : PySem.W.Frag) (η : Zs) (H : Hp) (a : Addr) (xs : List V) : Prop := (H a = some (.tup xs) ∧ η.fr a) ∨ SqT K (fun _ => none) a xs
mutual
inductive Rp (K : PySem.W.Frag) (η : Zs) (H : Hp) : V → D → Prop
  | non : Rp K η H .non .none
  | bl (b : Bool) : Rp K η H (.bl b) (.bool b)
  | int (i : Int) : Rp K η H (.int i) (.int i)
  | str (x : Str) : Rp K η H (.str x) (.str x)
  | lst {a : Addr} {xs : List V} {ds : List D} : LstAt K η H a xs → RpAll K η H xs ds → Rp K η H (.ref a) (.list ds)
  | tup {a : Addr} {xs : List V} {ds : List D} : TupAt K η H a xs → RpAll K η H xs ds → Rp K η H (.ref a) (.tuple ds)
inductive RpAll (K : PySem.W.Frag) (η : Zs) (H : Hp) : List V → List D → Prop
  | nil : RpAll K η H [] []
  | cons {v : V} {vs : List V} {d : D} {ds : List D} : Rp K η H v d → RpAll K η H vs ds → RpAll K η H (v :: vs) (d :: ds)
end
structure Grow (η : Zs) (H : Hp) (η' : Zs) (H' : Hp) : Prop where
  pre : ∃ more, η'.l = η.l ++ more
  keep : ∀ a o, H a = some o → a ∉ η.l → H' a = some o ∧ a ∉ η'.l
  tm : ∀ a o, H a = some o → a ∉ η.l → a ∉ η.t → a ∉ η'.t
  tk : ∀ a, a ∈ η.t → a ∈ η'.t
theorem Grow.refl (η : Zs) (H : Hp) : Grow η H η H := ⟨⟨[], by simp⟩, fun a o h n => ⟨h, n⟩, fun _ _ _ _ n => n, fun _ n => n⟩
theorem Grow.trans {η η1 η2 : Zs} {H H1 H2 : Hp} (g : Grow η H η1 H1) (h : Grow η1 H1 η2 H2) : Grow η H η2 H2 := by
  obtain ⟨⟨m1, e1⟩, k1, t1, u1⟩ := g
  obtain ⟨⟨m2, e2⟩, k2, t2, u2⟩ := h
  refine ⟨⟨m1 ++ m2, by rw [e2, e1, List.append_assoc]⟩, fun a o q n => ?_, fun a o q n n2 => ?_, fun a m => u2 a (u1 a m)⟩
  · obtain ⟨q1, n1⟩ := k1 a o q n
    exact k2 a o q1 n1
  · obtain ⟨q1, n1⟩ := k1 a o q n
    exact t2 a o q1 n1 (t1 a o q n n2)
theorem Grow.at {η η' : Zs} {H H' : Hp} (g : Grow η H η' H') {i : Nat} {a : Addr} (h : η.l[i]? = some a) : η'.l[i]? = some a := by
  obtain ⟨⟨m, e⟩, _⟩ := g
  rw [e]
  obtain ⟨hi, _⟩ := List.getElem?_eq_some_iff.mp h
  rw [List.getElem?_append_left hi]
  exact h
section
variable {K : PySem.W.Frag} {η η' : Zs} {H H' : Hp}
theorem LstAt.grow {a : Addr} {xs : List V} (g : Grow η H η' H') (h : LstAt K η H a xs) : LstAt K η' H' a xs := by
  rcases h with ⟨r | ⟨o, r⟩, n, n2⟩ | h
  · obtain ⟨q, m⟩ := g.keep a _ r n
    exact .inl ⟨.inl q, m, g.tm a _ r n n2⟩
  · obtain ⟨q, m⟩ := g.keep a _ r n
    exact .inl ⟨.inr ⟨o, q⟩, m, g.tm a _ r n n2⟩
  · exact .inr h
theorem TupAt.grow {a : Addr} {xs : List V} (g : Grow η H η' H') (h : TupAt K η H a xs) : TupAt K η' H' a xs := by
  rcases h with ⟨r, n, n2⟩ | r
  · obtain ⟨q, m⟩ := g.keep a _ r n
    exact .inl ⟨q, m, g.tm a _ r n n2⟩
  · exact .inr r
mutual
theorem Rp.grow (g : Grow η H η' H') : ∀ (d : D) (v : V), Rp K η H v d → Rp K η' H' v d
  | .none, _, h => by cases h; exact .non
  | .bool b, _, h => by cases h; exact .bl b
  | .int i, _, h => by cases h; exact .int i
  | .str x, _, h => by cases h; exact .str x
  | .list ds, _, h => by
    cases h with
    | lst a b => exact .lst (a.grow g) (RpAll.grow g ds _ b)
  | .tuple ds, _, h => by
    cases h with
    | tup a b => exact .tup (a.grow g) (RpAll.grow g ds _ b)
  | .dict _, _, h => by cases h
theorem RpAll.grow (g : Grow η H η' H') : ∀ (ds : List D) (vs : List V), RpAll K η H vs ds → RpAll K η' H' vs ds
  | [], _, h => by cases h; exact .nil
  | d :: ds, _, h => by
    cases h with
    | cons a b => exact .cons (Rp.grow g d _ a) (RpAll.grow g ds _ b)
end
/-- as Grow, but the lists that are being made may change -/
structure Gro (η : Zs) (H : Hp) (η' : Zs) (H' : Hp) : Prop where
  pre : ∃ more, η'.l = η.l ++ more
  keep : ∀ a o, H a = some o → η.fr a → H' a = some o ∧ η'.fr a
theorem Grow.gro (g : Grow η H η' H') : Gro η H η' H' := ⟨g.pre, fun a o e n => ⟨(g.keep a o e n.1).1, (g.keep a o e n.1).2, g.tm a o e n.1 n.2⟩⟩
theorem Gro.trans {η2 : Zs} {H2 : Hp} (g : Gro η H η' H') (h : Gro η' H' η2 H2) : Gro η H η2 H2 := by
  obtain ⟨⟨m1, e1⟩, k1⟩ := g
  obtain ⟨⟨m2, e2⟩, k2⟩ := h
  refine ⟨⟨m1 ++ m2, by rw [e2, e1, List.append_assoc]⟩, fun a o q n => ?_⟩
  obtain ⟨q1, n1⟩ := k1 a o q n
  exact k2 a o q1 n1
theorem LstAt.gro {a : Addr} {xs : List V} (g : Gro η H η' H') (h : LstAt K η H a xs) : LstAt K η' H' a xs := by
  rcases h with ⟨r | ⟨o, r⟩, n⟩ | h
  · obtain ⟨q, m⟩ := g.keep a _ r n
    exact .inl ⟨.inl q, m⟩
  · obtain ⟨q, m⟩ := g.keep a _ r n
    exact .inl ⟨.inr ⟨o, q⟩, m⟩
  · exact .inr h
theorem TupAt.gro {a : Addr} {xs : List V} (g : Gro η H η' H') (h : TupAt K η H a xs) : TupAt K η' H' a xs := by
  rcases h with ⟨r, n⟩ | r
  · obtain ⟨q, m⟩ := g.keep a _ r n
    exact .inl ⟨q, m⟩
  · exact .inr r
mutual
theorem Rp.gro (g : Gro η H η' H') : ∀ (d : D) (v : V), Rp K η H v d → Rp K η' H' v d
  | .none, _, h => by cases h; exact .non
  | .bool b, _, h => by cases h; exact .bl b
  | .int i, _, h => by cases h; exact .int i
  | .str x, _, h => by cases h; exact .str x
  | .list ds, _, h => by
    cases h with
    | lst a b => exact .lst (a.gro g) (RpAll.gro g ds _ b)
  | .tuple ds, _, h => by
    cases h with
    | tup a b => exact .tup (a.gro g) (RpAll.gro g ds _ b)
  | .dict _, _, h => by cases h
theorem RpAll.gro (g : Gro η H η' H') : ∀ (ds : List D) (vs : List V), RpAll K η H vs ds → RpAll K η' H' vs ds
  | [], _, h => by cases h; exact .nil
  | d :: ds, _, h => by
    cases h with
    | cons a b => exact .cons (Rp.gro g d _ a) (RpAll.gro g ds _ b)
end
theorem LstAt.sq {a : Addr} {xs : List V} (h : LstAt K η H a xs) : SqL K H a xs := by
  rcases h with ⟨r, _⟩ | r
  · exact .inl r
  · rcases r with (r | ⟨_, r⟩) | r
    · cases r
    · cases r
    · exact .inr r
theorem TupAt.sq {a : Addr} {xs : List V} (h : TupAt K η H a xs) : SqT K H a xs := by
  rcases h with ⟨r, _⟩ | r
  · exact .inl (.inl r)
  · rcases r with (r | ⟨_, r⟩) | r
    · cases r
    · cases r
    · exact .inr r
mutual
theorem Rp.dp : ∀ (d : D) (v : V), Rp K η H v d → Dp K H v d
  | .none, _, h => by cases h; exact .non
  | .bool b, _, h => by cases h; exact .bl b
  | .int i, _, h => by cases h; exact .int i
  | .str x, _, h => by cases h; exact .str x
  | .list ds, _, h => by
    cases h with
    | lst a b => exact .lst a.sq (RpAll.dp ds _ b)
  | .tuple ds, _, h => by
    cases h with
    | tup a b => exact .tup a.sq (RpAll.dp ds _ b)
  | .dict _, _, h => by cases h
theorem RpAll.dp : ∀ (ds : List D) (vs : List V), RpAll K η H vs ds → DpAll K H vs ds
  | [], _, h => by cases h; exact .nil
  | d :: ds, _, h => by
    cases h with
    | cons a b => exact .cons (Rp.dp d _ a) (RpAll.dp ds _ b)
end
theorem RpAll.length : ∀ {vs : List V} {ds : List D}, RpAll K η H vs ds → vs.length = ds.length
  | _, _, .nil => rfl
  | _, _, .cons _ t => by rw [List.length_cons, List.length_cons, RpAll.length t]
theorem RpAll.append : ∀ {vs ws : List V} {ds es : List D}, RpAll K η H vs ds → RpAll K η H ws es → RpAll K η H (vs ++ ws) (ds ++ es)
  | _, _, _, _, .nil, s => s
  | _, _, _, _, .cons r t, s => .cons r (RpAll.append t s)
theorem RpAll.get : ∀ {vs : List V} {ds : List D} {i : Nat} {d : D}, RpAll K η H vs ds → ds[i]? = some d → ∃ v, vs[i]? = some v ∧ Rp K η H v d
  | _, _, _, _, .nil, e => by simp at e
  | _, _, 0, _, .cons r _, e => by simp at e; subst e; exact ⟨_, rfl, r⟩
  | _, _, i + 1, d, .cons _ t, e => by
    obtain ⟨v, h1, h2⟩ := RpAll.get (i := i) (d := d) t (by simpa using e)
    exact ⟨v, by simpa using h1, h2⟩
theorem RpAll.getV : ∀ {vs : List V} {ds : List D} {i : Nat} {v : V}, RpAll K η H vs ds → vs[i]? = some v → ∃ d, ds[i]? = some d ∧ Rp K η H v d
  | _, _, _, _, .nil, e => by simp at e
  | _, _, 0, _, .cons r _, e => by simp at e; subst e; exact ⟨_, rfl, r⟩
  | _, _, i + 1, d, .cons _ t, e => by
    obtain ⟨v, h1, h2⟩ := RpAll.getV (i := i) (v := d) t (by simpa using e)
    exact ⟨v, by simpa using h1, h2⟩
theorem RpAll.take : ∀ {vs : List V} {ds : List D} (n : Nat), RpAll K η H vs ds → RpAll K η H (vs.take n) (ds.take n)
  | _, _, 0, _ => .nil
  | _, _, _ + 1, .nil => .nil
  | _, _, n + 1, .cons r t => .cons r (RpAll.take n t)
theorem RpAll.drop : ∀ {vs : List V} {ds : List D} (n : Nat), RpAll K η H vs ds → RpAll K η H (vs.drop n) (ds.drop n)
  | _, _, 0, r => r
  | _, _, _ + 1, .nil => .nil
  | _, _, n + 1, .cons _ t => RpAll.drop n t
theorem RpAll.rep {vs : List V} {ds : List D} (h : RpAll K η H vs ds) : ∀ k : Nat, RpAll K η H (List.replicate k vs).flatten (List.replicate k ds).flatten
  | 0 => .nil
  | k + 1 => by
    rw [List.replicate_succ, List.replicate_succ, List.flatten_cons, List.flatten_cons]
    exact h.append (RpAll.rep h k)
theorem RpAll.rev {vs : List V} {ds : List D} (h : RpAll K η H vs ds) : RpAll K η H vs.reverse ds.reverse := by
  suffices ∀ {vs : List V} {ds : List D}, RpAll K η H vs ds → ∀ {ws : List V} {es : List D}, RpAll K η H ws es → RpAll K η H (vs.reverse ++ ws) (ds.reverse ++ es) by
    have q := this h .nil
    simpa using q
  intro vs ds h
  induction vs generalizing ds with
  | nil => cases h; intro ws es h; simpa using h
  | cons v vs ih =>
    cases h with
    | cons r t =>
      intro ws es h
      have q := ih t (RpAll.cons r h)
      simpa using q
theorem RpAll.cut {vs : List V} {ds : List D} (h : RpAll K η H vs ds) (lo hi : Option Int) : RpAll K η H (cutV vs lo hi) (MP.cut ds lo hi) := by
  unfold cutV MP.cut
  rw [h.length]
  exact (h.drop _).take _
theorem RpAll.atI {vs : List V} {ds : List D} {i : Int} {d : D} (h : RpAll K η H vs ds) (e : L2.atI ds i = some d) : ∃ v, L2.atI vs i = some v ∧ Rp K η H v d := by
  unfold L2.atI at e ⊢
  rw [h.length]
  cases q : ixN ds.length i with
  | none => rw [q] at e; cases e
  | some j =>
    rw [q] at e
    exact h.get e
theorem RpAll.ints : ∀ {vs : List V} {ds : List D} {ns : List Int}, RpAll K η H vs ds → intsOf ds = some ns → vs = ns.map V.int
  | _, _, ns, .nil, e => by cases e; rfl
  | _, _, ns, .cons (d := d) r t, e => by
    cases r with
    | int i =>
      unfold intsOf at e
      obtain ⟨m, e1, e2⟩ := Option.map_eq_some_iff.mp e
      subst e2
      rw [RpAll.ints t e1]; rfl
    | _ => cases e
theorem RpAll.bools : ∀ {vs : List V} {ds : List D} {ns : List Bool}, RpAll K η H vs ds → MP.bools ds = some ns → vs = ns.map V.bl
  | _, _, ns, .nil, e => by cases e; rfl
  | _, _, ns, .cons (d := d) r t, e => by
    cases r with
    | bl i =>
      unfold MP.bools at e
      obtain ⟨m, e1, e2⟩ := Option.map_eq_some_iff.mp e
      subst e2
      rw [RpAll.bools t e1]; rfl
    | _ => cases e
end

/-! ### values, store, slots -/
inductive RW (K : PySem.W.Frag) (η : Zs) (H : Hp) : V → W → Prop
  | d {v : V} {x : D} : Rp K η H v x → RW K η H v (.d x)
  | r {i : Nat} {a : Addr} : η.l[i]? = some a → RW K η H (.ref a) (.r i)
inductive RWs (K : PySem.W.Frag) (η : Zs) (H : Hp) : List V → List W → Prop
  | nil : RWs K η H [] []
  | cons {v : V} {vs : List V} {w : W} {ws : List W} : RW K η H v w → RWs K η H vs ws → RWs K η H (v :: vs) (w :: ws)
inductive KR (K : PySem.W.Frag) (η : Zs) (H : Hp) {κ : Type} : List (κ × V) → List (κ × W) → Prop
  | nil : KR K η H [] []
  | cons {k : κ} {v : V} {vs : List (κ × V)} {w : W} {ws : List (κ × W)} : RW K η H v w → KR K η H vs ws → KR K η H ((k, v) :: vs) ((k, w) :: ws)
section
variable {K : PySem.W.Frag} {η η' : Zs} {H H' : Hp}
theorem RW.grow (g : Grow η H η' H') {v : V} {w : W} (h : RW K η H v w) : RW K η' H' v w := by
  cases h with
  | d r => exact .d (Rp.grow g _ _ r)
  | r e => exact .r (g.at e)
theorem RWs.grow (g : Grow η H η' H') : ∀ {vs : List V} {ws : List W}, RWs K η H vs ws → RWs K η' H' vs ws
  | _, _, .nil => .nil
  | _, _, .cons r t => .cons (r.grow g) (RWs.grow g t)
theorem KR.grow {κ : Type} (g : Grow η H η' H') : ∀ {vs : List (κ × V)} {ws : List (κ × W)}, KR K η H vs ws → KR K η' H' vs ws
  | _, _, .nil => .nil
  | _, _, .cons r t => .cons (r.grow g) (KR.grow g t)
theorem RWs.length : ∀ {vs : List V} {ws : List W}, RWs K η H vs ws → vs.length = ws.length
  | _, _, .nil => rfl
  | _, _, .cons _ t => by rw [List.length_cons, List.length_cons, RWs.length t]
theorem RWs.data : ∀ {vs : List V} {ws : List W} {ds : List D}, RWs K η H vs ws → dataOf ws = some ds → RpAll K η H vs ds
  | _, _, _, .nil, e => by cases e; exact .nil
  | _, _, _, .cons r t, e => by
    cases r with
    | d q =>
      unfold dataOf at e
      obtain ⟨m, e1, e2⟩ := Option.map_eq_some_iff.mp e
      subst e2
      exact .cons q (RWs.data t e1)
    | r _ => cases e
theorem RWs.get : ∀ {vs : List V} {ws : List W} {i : Nat} {w : W}, RWs K η H vs ws → ws[i]? = some w → ∃ v, vs[i]? = some v ∧ RW K η H v w
  | _, _, _, _, .nil, e => by simp at e
  | _, _, 0, _, .cons r _, e => by simp at e; subst e; exact ⟨_, rfl, r⟩
  | _, _, i + 1, d, .cons _ t, e => by
    obtain ⟨v, h1, h2⟩ := RWs.get (i := i) (w := d) t (by simpa using e)
    exact ⟨v, by simpa using h1, h2⟩
theorem RWs.atI {vs : List V} {ws : List W} {i : Int} {d : W} (h : RWs K η H vs ws) (e : L2.atI ws i = some d) : ∃ v, L2.atI vs i = some v ∧ RW K η H v d := by
  unfold L2.atI at e ⊢
  rw [h.length]
  cases q : ixN ws.length i with
  | none => rw [q] at e; cases e
  | some j =>
    rw [q] at e
    exact h.get e
theorem RWs.append : ∀ {vs us : List V} {ws ys : List W}, RWs K η H vs ws → RWs K η H us ys → RWs K η H (vs ++ us) (ws ++ ys)
  | _, _, _, _, .nil, s => s
  | _, _, _, _, .cons r t, s => .cons r (RWs.append t s)
theorem RWs.set {v : V} {w : W} (r : RW K η H v w) : ∀ {vs : List V} {ws : List W} (i : Nat), RWs K η H vs ws → RWs K η H (vs.set i v) (ws.set i w)
  | _, _, _, .nil => .nil
  | _, _, 0, .cons _ t => .cons r t
  | _, _, i + 1, .cons q t => .cons q (RWs.set r i t)
theorem KR.look {κ : Type} [DecidableEq κ] {k : κ} : ∀ {vs : List (κ × V)} {ws : List (κ × W)}, KR K η H vs ws → (∀ w, MP.look k ws = some w → ∃ v, valV vs k = some v ∧ RW K η H v w) ∧ (MP.look k ws = none → valV vs k = none)
  | _, _, .nil => ⟨fun w e => (by unfold MP.look at e; cases e), fun _ => rfl⟩
  | _, _, .cons (k := j) (v := v) (vs := vs) (w := w) (ws := ws) r t => by
    obtain ⟨i1, i2⟩ := KR.look (k := k) t
    by_cases e : j = k
    · rw [valV_pos e]
      unfold MP.look
      rw [if_pos e]
      exact ⟨fun w' q => by cases q; exact ⟨v, rfl, r⟩, fun q => by cases q⟩
    · rw [valV_neg e]
      unfold MP.look
      rw [if_neg e]
      exact ⟨i1, i2⟩
theorem KR.any {κ : Type} [DecidableEq κ] {k : κ} : ∀ {vs : List (κ × V)} {ws : List (κ × W)}, KR K η H vs ws → (vs.any fun kv => decide (kv.1 = k)) = ws.any fun kv => decide (kv.1 = k)
  | _, _, .nil => rfl
  | _, _, .cons r t => by rw [List.any_cons, List.any_cons, KR.any t]
theorem KR.repl {κ : Type} [DecidableEq κ] {k : κ} {v : V} {w : W} (r : RW K η H v w) : ∀ {vs : List (κ × V)} {ws : List (κ × W)}, KR K η H vs ws →
    KR K η H (vs.map fun kv => if kv.1 = k then (kv.1, v) else kv) (ws.map fun kv => if kv.1 = k then (kv.1, w) else kv)
  | _, _, .nil => .nil
  | _, _, .cons (k := j) q t => by
    rw [List.map_cons, List.map_cons]
    by_cases e : j = k
    · rw [if_pos e, if_pos e]; exact .cons r (KR.repl r t)
    · rw [if_neg e, if_neg e]; exact .cons q (KR.repl r t)
theorem KR.snoc {κ : Type} {k : κ} {v : V} {w : W} (r : RW K η H v w) : ∀ {vs : List (κ × V)} {ws : List (κ × W)}, KR K η H vs ws → KR K η H (vs ++ [(k, v)]) (ws ++ [(k, w)])
  | _, _, .nil => .cons r .nil
  | _, _, .cons q t => .cons q (KR.snoc r t)
theorem KR.put {κ : Type} [DecidableEq κ] {k : κ} {v : V} {w : W} (r : RW K η H v w) {vs : List (κ × V)} {ws : List (κ × W)} (h : KR K η H vs ws) : KR K η H (putK vs k v) (MP.put ws k w) := by
  unfold putK MP.put
  rw [h.any]
  split
  · exact h.repl r
  · exact h.snoc r
theorem KR.length {κ : Type} : ∀ {vs : List (κ × V)} {ws : List (κ × W)}, KR K η H vs ws → vs.length = ws.length
  | _, _, .nil => rfl
  | _, _, .cons _ t => by rw [List.length_cons, List.length_cons, KR.length t]
end
/-- an object of the store, as it stands -/
def OR (K : PySem.W.Frag) (ca : Nat → Addr) (η : Zs) (H : Hp) (a : Addr) : O → Prop
  | .lst ws => ∃ vs, H a = some (.lst vs) ∧ RWs K η H vs ws
  | .dk kvs => ∃ vs, H a = some (.dK vs) ∧ KR K η H vs kvs
  | .dt kvs => ∃ vs, H a = some (.dT vs) ∧ KR K η H vs kvs
  | .ins c fs => ∃ dx vs, H a = some (.ins (ca c) dx vs) ∧ KR K η H vs fs
structure SR (K : PySem.W.Frag) (ca : Nat → Addr) (η : Zs) (H : Hp) (S : Sto) : Prop where
  len : η.l.length = S.length
  nd : η.l.Nodup
  tmp : ∀ a ∈ η.t, a ∉ η.l ∧ ∃ u, H a = some u
  obj : ∀ (i : Nat) (a : Addr) (o : O), η.l[i]? = some a → S[i]? = some o → OR K ca η H a o
def ER (K : PySem.W.Frag) (η : Zs) (H : Hp) (σ : Sg) (ρ : Sl) : Prop := σ.length = ρ.length ∧ ∀ (i : Nat) (w : W), ρ[i]? = some (some w) → ∃ v, σ[i]? = some (some v) ∧ RW K η H v w
section
variable {K : PySem.W.Frag} {ca : Nat → Addr} {η η' : Zs} {H H' : Hp} {S : Sto}
theorem ER.grow (g : Grow η H η' H') {σ : Sg} {ρ : Sl} (h : ER K η H σ ρ) : ER K η' H' σ ρ := ⟨h.1, fun i w e => let ⟨v, e1, r⟩ := h.2 i w e; ⟨v, e1, r.grow g⟩⟩
theorem ER.set {σ : Sg} {ρ : Sl} (h : ER K η H σ ρ) {v : V} {w : W} (r : RW K η H v w) (i : Nat) : ER K η H (σ.set i (some v)) (ρ.set i (some w)) := by
  refine ⟨by rw [List.length_set, List.length_set]; exact h.1, fun j w' e => ?_⟩
  by_cases hj : i = j
  · subst hj
    by_cases hl : i < ρ.length
    · rw [List.getElem?_set_self hl] at e
      cases e
      rw [List.getElem?_set_self (by rw [h.1]; exact hl)]
      exact ⟨v, rfl, r⟩
    · rw [List.getElem?_eq_none (by simpa using hl)] at e
      cases e
  · rw [List.getElem?_set_ne hj] at e ⊢
    exact h.2 j w' e
theorem ER.wipe {σ : Sg} {ρ : Sl} (h : ER K η H σ ρ) : ∀ vs : List Nat, ER K η H (wipe σ vs) (wipeW ρ vs)
  | [] => h
  | u :: us => by
    have ih := ER.wipe h us
    unfold L2.wipe wipeW
    refine ⟨by rw [List.length_set, List.length_set]; exact ih.1, fun j w' e => ?_⟩
    by_cases hj : u = j
    · subst hj
      by_cases hl : u < (wipeW ρ us).length
      · rw [List.getElem?_set_self hl] at e; cases e
      · rw [List.getElem?_eq_none (by simpa using hl)] at e; cases e
    · rw [List.getElem?_set_ne hj] at e ⊢
      exact ih.2 j w' e
theorem OR.there {a : Addr} {o : O} (h : OR K ca η H a o) : ∃ u, H a = some u := by
  cases o with
  | lst _ => exact ⟨_, h.choose_spec.1⟩
  | dk _ => exact ⟨_, h.choose_spec.1⟩
  | dt _ => exact ⟨_, h.choose_spec.1⟩
  | ins _ _ => obtain ⟨dx, vs, e, _⟩ := h; exact ⟨_, e⟩
theorem SR.there (h : SR K ca η H S) {a : Addr} (m : a ∈ η.l) : ∃ u, H a = some u := by
  obtain ⟨i, hi, e⟩ := List.getElem_of_mem m
  have hs : i < S.length := by rw [← h.len]; exact hi
  exact (h.obj i a S[i] (by rw [List.getElem?_eq_getElem hi, e]) (List.getElem?_eq_getElem hs)).there
theorem SR.fresh (h : SR K ca η H S) {p : Addr} (hp : H p = none) : η.fr p := by
  refine ⟨fun m => ?_, fun m => ?_⟩
  · obtain ⟨u, e⟩ := h.there m
    rw [hp] at e; cases e
  · obtain ⟨_, u, e⟩ := h.tmp p m
    rw [hp] at e; cases e
theorem OR.grow (g : Grow η H η' H') {a : Addr} {o : O} (h : OR K ca η H a o) (e : H' a = H a) : OR K ca η' H' a o := by
  cases o with
  | lst _ => obtain ⟨vs, q, r⟩ := h; exact ⟨vs, e.trans q, r.grow g⟩
  | dk _ => obtain ⟨vs, q, r⟩ := h; exact ⟨vs, e.trans q, r.grow g⟩
  | dt _ => obtain ⟨vs, q, r⟩ := h; exact ⟨vs, e.trans q, r.grow g⟩
  | ins _ _ => obtain ⟨dx, vs, q, r⟩ := h; exact ⟨dx, vs, e.trans q, r.grow g⟩
/-- something new that is no object of the store -/
theorem grow_new (h : SR K ca η H S) {p : Addr} {o : HO} (hp : H p = none) : Grow η H η (upd H p o) := ⟨⟨[], by simp⟩, fun a u e n => ⟨by rw [upd_ne (ne_of_none e hp)]; exact e, n⟩, fun _ _ _ _ n => n, fun _ n => n⟩
theorem SR.new (h : SR K ca η H S) {p : Addr} {o : HO} (hp : H p = none) : SR K ca η (upd H p o) S := by
  refine ⟨h.len, h.nd, fun a m => ?_, fun i a u e1 e2 => ?_⟩
  · obtain ⟨n, u, e⟩ := h.tmp a m
    exact ⟨n, u, by rw [upd_ne (ne_of_none e hp)]; exact e⟩
  · have q := h.obj i a u e1 e2
    obtain ⟨z, ez⟩ := q.there
    exact q.grow (grow_new h hp) (upd_ne (ne_of_none ez hp))
def Zs.add (z : Zs) (p : Addr) : Zs := ⟨z.l ++ [p], z.t⟩
/-- a new object of the store -/
theorem grow_alloc (h : SR K ca η H S) {p : Addr} {o : HO} (hp : H p = none) : Grow η H (η.add p) (upd H p o) :=
  ⟨⟨[p], rfl⟩, fun a u e n => ⟨by rw [upd_ne (ne_of_none e hp)]; exact e, fun m => by
    rcases List.mem_append.mp m with m | m
    · exact n m
    · rw [List.mem_singleton.mp m, hp] at e; cases e⟩, fun _ _ _ _ n => n, fun _ n => n⟩
theorem SR.alloc (h : SR K ca η H S) {p : Addr} {ho : HO} {o : O} (hp : H p = none) (ho' : OR K ca (η.add p) (upd H p ho) p o) : SR K ca (η.add p) (upd H p ho) (S ++ [o]) := by
  have np := h.fresh hp
  refine ⟨by unfold Zs.add; rw [List.length_append, List.length_append, h.len]; rfl, ?_, fun a m => ?_, fun i a u e1 e2 => ?_⟩
  · unfold Zs.add
    rw [List.nodup_append]
    refine ⟨h.nd, by simp, fun a ha b hb => ?_⟩
    rw [List.mem_singleton.mp hb]
    intro e
    rw [e] at ha
    exact np.1 ha
  · obtain ⟨n, u, e⟩ := h.tmp a m
    refine ⟨fun m2 => ?_, u, by rw [upd_ne (ne_of_none e hp)]; exact e⟩
    rcases List.mem_append.mp m2 with m2 | m2
    · exact n m2
    · rw [List.mem_singleton.mp m2, hp] at e; cases e
  · unfold Zs.add at e1
    by_cases hi : i < η.l.length
    · rw [List.getElem?_append_left hi] at e1
      rw [List.getElem?_append_left (by rw [← h.len]; exact hi)] at e2
      have q := h.obj i a u e1 e2
      obtain ⟨z, ez⟩ := q.there
      exact q.grow (grow_alloc h hp) (upd_ne (ne_of_none ez hp))
    · have hi' : i = η.l.length := by
        have hb : i < (η.l ++ [p]).length := (List.getElem?_eq_some_iff.mp e1).1
        rw [List.length_append, List.length_singleton] at hb
        omega
      subst hi'
      rw [List.getElem?_append_right (Nat.le_refl _), Nat.sub_self] at e1
      rw [h.len, List.getElem?_append_right (Nat.le_refl _), Nat.sub_self] at e2
      cases e1
      cases e2
      exact ho'
theorem nodup_at {l : List Addr} (h : l.Nodup) {i j : Nat} {a : Addr} (e1 : l[i]? = some a) (e2 : l[j]? = some a) : i = j := by
  obtain ⟨h1, q1⟩ := List.getElem?_eq_some_iff.mp e1
  obtain ⟨h2, q2⟩ := List.getElem?_eq_some_iff.mp e2
  exact (List.getElem_inj h).mp (q1.trans q2.symm)
/-- an object of the store is written -/
theorem grow_set (h : SR K ca η H S) {i : Nat} {a : Addr} {o : HO} (ha : η.l[i]? = some a) : Grow η H η (upd H a o) :=
  ⟨⟨[], by simp⟩, fun b u e n => ⟨by rw [upd_ne (fun z : b = a => n (by rw [z]; exact List.mem_of_getElem? ha))]; exact e, n⟩, fun _ _ _ _ n => n, fun _ n => n⟩
theorem SR.set (h : SR K ca η H S) {i : Nat} {a : Addr} {ho : HO} {o : O} (ha : η.l[i]? = some a) (ho' : OR K ca η (upd H a ho) a o) : SR K ca η (upd H a ho) (S.set i o) := by
  refine ⟨by rw [List.length_set]; exact h.len, h.nd, fun b m => ?_, fun j b u e1 e2 => ?_⟩
  · obtain ⟨n, u, e⟩ := h.tmp b m
    exact ⟨n, u, by rw [upd_ne (fun z : b = a => n (by rw [z]; exact List.mem_of_getElem? ha))]; exact e⟩
  by_cases hj : i = j
  · subst hj
    rw [ha] at e1
    cases e1
    have hl : i < S.length := by rw [← h.len]; exact (List.getElem?_eq_some_iff.mp ha).1
    rw [List.getElem?_set_self hl] at e2
    cases e2
    exact ho'
  · rw [List.getElem?_set_ne hj] at e2
    have q := h.obj j b u e1 e2
    refine q.grow (grow_set h ha) (upd_ne fun z => hj ?_)
    subst z
    exact nodup_at h.nd ha e1
theorem SR.at (h : SR K ca η H S) {i : Nat} {a : Addr} {o : O} (ha : η.l[i]? = some a) (e : S[i]? = some o) : OR K ca η H a o := h.obj i a o ha e
/-! ### a list that is being made -/
def Zs.tmp (z : Zs) (p : Addr) : Zs := ⟨z.l, p :: z.t⟩
def Zs.drp (z : Zs) (p : Addr) : Zs := ⟨z.l, z.t.filter fun a => decide (a ≠ p)⟩
theorem grow_tmp {p : Addr} {o : HO} (hp : H p = none) : Grow η H (η.tmp p) (upd H p o) :=
  ⟨⟨[], by simp [Zs.tmp]⟩, fun a u e n => ⟨by rw [upd_ne (ne_of_none e hp)]; exact e, n⟩, fun a u e n n2 m => (List.mem_cons.mp m).elim (fun z => by rw [z, hp] at e; cases e) n2, fun a m => List.mem_cons_of_mem _ m⟩
mutual
theorem Rp.drp {p : Addr} : ∀ (d : D) (v : V), Rp K η H v d → Rp K (η.drp p) H v d
  | .none, _, h => by cases h; exact .non
  | .bool b, _, h => by cases h; exact .bl b
  | .int i, _, h => by cases h; exact .int i
  | .str x, _, h => by cases h; exact .str x
  | .list ds, _, h => by
    cases h with
    | lst a b => exact .lst (a.elim (fun a => .inl ⟨a.1, a.2.1, fun m => a.2.2 (List.mem_filter.mp m).1⟩) .inr) (RpAll.drp ds _ b)
  | .tuple ds, _, h => by
    cases h with
    | tup a b =>
      refine .tup ?_ (RpAll.drp ds _ b)
      rcases a with ⟨r, n, n2⟩ | r
      · exact .inl ⟨r, n, fun m => n2 (List.mem_filter.mp m).1⟩
      · exact .inr r
  | .dict _, _, h => by cases h
theorem RpAll.drp {p : Addr} : ∀ (ds : List D) (vs : List V), RpAll K η H vs ds → RpAll K (η.drp p) H vs ds
  | [], _, h => by cases h; exact .nil
  | d :: ds, _, h => by
    cases h with
    | cons a b => exact .cons (Rp.drp d _ a) (RpAll.drp ds _ b)
end
mutual
/-- the list itself is written -/
theorem Rp.wr {p : Addr} {o : HO} (hp : p ∈ η.t) : ∀ (d : D) (v : V), Rp K η H v d → Rp K η (upd H p o) v d
  | .none, _, h => by cases h; exact .non
  | .bool b, _, h => by cases h; exact .bl b
  | .int i, _, h => by cases h; exact .int i
  | .str x, _, h => by cases h; exact .str x
  | .list ds, _, h => by
    cases h with
    | @lst a _ _ x b =>
      refine .lst ?_ (RpAll.wr hp ds _ b)
      rcases x with ⟨r, n, n2⟩ | r
      · have ne : a ≠ p := fun z => n2 (by rw [z]; exact hp)
        rcases r with r | ⟨ob, r⟩
        · exact .inl ⟨.inl (by rw [upd_ne ne]; exact r), n, n2⟩
        · exact .inl ⟨.inr ⟨ob, by rw [upd_ne ne]; exact r⟩, n, n2⟩
      · exact .inr r
  | .tuple ds, _, h => by
    cases h with
    | @tup a _ _ x b =>
      refine .tup ?_ (RpAll.wr hp ds _ b)
      rcases x with ⟨r, n, n2⟩ | r
      · have ne : a ≠ p := fun z => n2 (by rw [z]; exact hp)
        exact .inl ⟨by rw [upd_ne ne]; exact r, n, n2⟩
      · exact .inr r
  | .dict _, _, h => by cases h
theorem RpAll.wr {p : Addr} {o : HO} (hp : p ∈ η.t) : ∀ (ds : List D) (vs : List V), RpAll K η H vs ds → RpAll K η (upd H p o) vs ds
  | [], _, h => by cases h; exact .nil
  | d :: ds, _, h => by
    cases h with
    | cons a b => exact .cons (Rp.wr hp d _ a) (RpAll.wr hp ds _ b)
end
section
variable {p : Addr} {o : HO}
theorem RW.drp {v : V} {w : W} (h : RW K η H v w) : RW K (η.drp p) H v w := by
  cases h with
  | d r => exact .d (Rp.drp _ _ r)
  | r e => exact .r e
theorem RWs.drp : ∀ {vs : List V} {ws : List W}, RWs K η H vs ws → RWs K (η.drp p) H vs ws
  | _, _, .nil => .nil
  | _, _, .cons a b => .cons a.drp (RWs.drp b)
theorem KR.drp {κ : Type} : ∀ {vs : List (κ × V)} {ws : List (κ × W)}, KR K η H vs ws → KR K (η.drp p) H vs ws
  | _, _, .nil => .nil
  | _, _, .cons a b => .cons a.drp (KR.drp b)
theorem OR.drp {a : Addr} {u : O} (h : OR K ca η H a u) : OR K ca (η.drp p) H a u := by
  cases u with
  | lst _ => obtain ⟨vs, q, r⟩ := h; exact ⟨vs, q, r.drp⟩
  | dk _ => obtain ⟨vs, q, r⟩ := h; exact ⟨vs, q, r.drp⟩
  | dt _ => obtain ⟨vs, q, r⟩ := h; exact ⟨vs, q, r.drp⟩
  | ins _ _ => obtain ⟨dx, vs, q, r⟩ := h; exact ⟨dx, vs, q, r.drp⟩
theorem SR.drp (h : SR K ca η H S) : SR K ca (η.drp p) H S :=
  ⟨h.len, h.nd, fun a m => h.tmp a (List.mem_filter.mp m).1, fun i a u e1 e2 => (h.obj i a u e1 e2).drp⟩
theorem SR.up (h : SR K ca η H S) (hp : H p = none) : SR K ca (η.tmp p) (upd H p o) S := by
  refine ⟨h.len, h.nd, fun a m => ?_, fun i a u e1 e2 => ?_⟩
  · rcases List.mem_cons.mp m with e | m
    · subst e
      exact ⟨(h.fresh hp).1, o, upd_same⟩
    · obtain ⟨n, u, e⟩ := h.tmp a m
      exact ⟨n, u, by rw [upd_ne (ne_of_none e hp)]; exact e⟩
  · have q := h.obj i a u e1 e2
    obtain ⟨z, ez⟩ := q.there
    exact q.grow (grow_tmp hp) (upd_ne (ne_of_none ez hp))
theorem RW.wr (hp : p ∈ η.t) {v : V} {w : W} (h : RW K η H v w) : RW K η (upd H p o) v w := by
  cases h with
  | d r => exact .d (Rp.wr hp _ _ r)
  | r e => exact .r e
theorem RWs.wr (hp : p ∈ η.t) : ∀ {vs : List V} {ws : List W}, RWs K η H vs ws → RWs K η (upd H p o) vs ws
  | _, _, .nil => .nil
  | _, _, .cons a b => .cons (a.wr hp) (RWs.wr hp b)
theorem KR.wr {κ : Type} (hp : p ∈ η.t) : ∀ {vs : List (κ × V)} {ws : List (κ × W)}, KR K η H vs ws → KR K η (upd H p o) vs ws
  | _, _, .nil => .nil
  | _, _, .cons a b => .cons (a.wr hp) (KR.wr hp b)
theorem OR.wr (hp : p ∈ η.t) {a : Addr} {u : O} (ne : a ≠ p) (h : OR K ca η H a u) : OR K ca η (upd H p o) a u := by
  cases u with
  | lst _ => obtain ⟨vs, q, r⟩ := h; exact ⟨vs, by rw [upd_ne ne]; exact q, r.wr hp⟩
  | dk _ => obtain ⟨vs, q, r⟩ := h; exact ⟨vs, by rw [upd_ne ne]; exact q, r.wr hp⟩
  | dt _ => obtain ⟨vs, q, r⟩ := h; exact ⟨vs, by rw [upd_ne ne]; exact q, r.wr hp⟩
  | ins _ _ => obtain ⟨dx, vs, q, r⟩ := h; exact ⟨dx, vs, by rw [upd_ne ne]; exact q, r.wr hp⟩
theorem SR.wr (h : SR K ca η H S) (hp : p ∈ η.t) : SR K ca η (upd H p o) S := by
  refine ⟨h.len, h.nd, fun a m => ?_, fun i a u e1 e2 => (h.obj i a u e1 e2).wr hp fun z => ?_⟩
  · obtain ⟨n, u, e⟩ := h.tmp a m
    by_cases z : a = p
    · subst z; exact ⟨n, o, upd_same⟩
    · exact ⟨n, u, by rw [upd_ne z]; exact e⟩
  · subst z
    exact (h.tmp _ hp).1 (List.mem_of_getElem? e1)
theorem ER.wr {σ : Sg} {ρ : Sl} (h : ER K η H σ ρ) (hp : p ∈ η.t) : ER K η (upd H p o) σ ρ := ⟨h.1, fun i w e => let ⟨v, e1, r⟩ := h.2 i w e; ⟨v, e1, r.wr hp⟩⟩
theorem grow_drp {η0 : Zs} {H0 : Hp} (g : Grow η0 H0 η H) (hp : p ∉ η0.t) : Grow η0 H0 (η.drp p) H :=
  ⟨g.pre, g.keep, fun a u e n n2 m => g.tm a u e n n2 (List.mem_filter.mp m).1, fun a m => List.mem_filter.mpr ⟨g.tk a m, decide_eq_true fun z => hp (by rw [← z]; exact m)⟩⟩
end
end
end MP

/-! Operations: what the model does at represented values. -/
namespace MP
open PySem L2 PySem.Spec PyProof.Rows
/-- what is asked of the surroundings -/
structure Ck (X : Cx) : Prop where
  calm : X.calm = true
  nd : X.N.Nodup
  hu : X.A.units + 150 < cLine
  gd : X.A.guards = some []
section
variable (K : PySem.W.Frag) (ca : Nat → Addr)
def qW (K : PySem.W.Frag) (ca : Nat → Addr) (η : Zs) (H : Hp) (Q : VK) : W → Sto → Prop := fun w S' => ∀ v H' η', Grow η H η' H' → SR K ca η' H' S' → RW K η' H' v w → Q v H'
def rW1 (m : W → M W) : V → Hp → VK → Prop := fun x H Q => ∃ η S w, SR K ca η H S ∧ RW K η H x w ∧ post (m w S) (qW K ca η H Q)
def rW2 (m : W → W → M W) : R2 := fun x y H Q => ∃ η S w1 w2, SR K ca η H S ∧ RW K η H x w1 ∧ RW K η H y w2 ∧ post (m w1 w2 S) (qW K ca η H Q)
def rWs (m : List W → M W) : List V → Hp → VK → Prop := fun xs H Q => ∃ η S ws, SR K ca η H S ∧ RWs K η H xs ws ∧ post (m ws S) (qW K ca η H Q)
end
section
variable {K : PySem.W.Frag} {ca : Nat → Addr} {η η' : Zs} {H H' : Hp} {S : Sto} {Q : VK}
/-- plain data, nothing new -/
theorem qW.same {w : W} (h : qW K ca η H Q w S) (sr : SR K ca η H S) {v : V} (r : RW K η H v w) : Q v H := h v H η (Grow.refl _ _) sr r
/-- a new tuple -/
theorem qW.tup {ds : List D} {vs : List V} {p : Addr} (h : qW K ca η H Q (.d (.tuple ds)) S) (sr : SR K ca η H S) (r : RpAll K η H vs ds) (hp : H p = none) : Q (.ref p) (upd H p (.tup vs)) :=
  h _ _ η (grow_new sr hp) (sr.new hp) (.d (.tup (.inl ⟨upd_same, sr.fresh hp⟩) (RpAll.grow (grow_new sr hp) _ _ r)))
theorem qW.lst {ds : List D} {vs : List V} {p : Addr} (h : qW K ca η H Q (.d (.list ds)) S) (sr : SR K ca η H S) (r : RpAll K η H vs ds) (hp : H p = none) : Q (.ref p) (upd H p (.lst vs)) :=
  h _ _ η (grow_new sr hp) (sr.new hp) (.d (.lst (.inl ⟨.inl upd_same, sr.fresh hp⟩) (RpAll.grow (grow_new sr hp) _ _ r)))
theorem post_opt {α β : Type} (o : Option α) (f : α → M β) (q : β → Sto → Prop) (h : post (bnd (opt o) f S) q) : ∃ a, o = some a ∧ post (f a S) q := by
  cases o with
  | none => exact h.elim
  | some a => exact ⟨a, rfl, h⟩
theorem post_map {α β : Type} (o : Option α) (f : α → β) (q : β → Sto → Prop) (h : post (o.map fun a => Out.ok (f a) S) q) : ∃ a, o = some a ∧ q (f a) S := by
  cases o with
  | none => exact h.elim
  | some a => exact ⟨a, rfl, h⟩
theorem ite_some {α : Type} {c : Prop} [Decidable c] {a b : α} (h : (if c then some a else none) = some b) : c ∧ a = b := by
  by_cases hc : c
  · rw [if_pos hc] at h; exact ⟨hc, Option.some.inj h⟩
  · rw [if_neg hc] at h; cases h
theorem szl {n : Nat} (h : n ≤ SZ) : n ≤ sizeLine := by rw [sizeLine_eq]; exact h
theorem szl' {n : Nat} (h : n < SZ) : n < sizeLine := by rw [sizeLine_eq]; exact h
end

section
variable {X : Cx} {ca : Nat → Addr}
theorem OpR.of {f : Value → Value → Sem Value} {r r' : R2} (h : OpR X f r) (k : ∀ x y H Q, r' x y H Q → r x y H Q) : OpR X f r' := fun pins s σ H x y v u Q I rx ry q => h pins s σ H x y v u Q I rx ry (k x y H Q q)
/-- list + list, whatever way they are known -/
def rCatL (K : PySem.W.Frag) : R2 := fun x y H Q => ∃ l b xs zs, x = .ref l ∧ y = .ref b ∧ SqL K H l xs ∧ SqL K H b zs ∧ xs.length + zs.length ≤ sizeLine ∧ ∀ p, H p = none → Q (.ref p) (upd H p (.lst (xs ++ zs)))
theorem op_catL : OpR X (binaryOp .Add) (rCatL X.K) := by
  intro pins s σ H x y v u Q I rx ry h
  obtain ⟨l, b, xs, zs, ex, ey, hl, hb, hz, q⟩ := h
  subst ex; subst ey
  cases rx; cases ry
  obtain ⟨us, r1, ⟨⟨c1, d1, e1, f1⟩, n1, g1, hc1, hd1, he1⟩, _⟩ := I.list hl
  obtain ⟨ws, r2, ⟨⟨c2, d2, e2, f2⟩, n2, g2, hc2, hd2, he2⟩, _⟩ := I.list hb
  have k1 := r1.length
  have k2 := r2.length
  simp only at hc1 he1 hc2 he2
  subst hc1 he1 hc2 he2
  refine concat_meets ⟨_, g1, rfl⟩ ⟨_, g2, rfl⟩ PySem.noFill_list_add PySem.seq_list_add PySem.F.slot_list_add PySem.F.entry_list_add (PySem.F.args_list_add_2 _ _) (list_addW l b us.toArray ws.toArray n1 n2 d1 d2 f1 f2 (by simp only [List.size_toArray]; omega)) ⟨g1, g2, ?_⟩
  rw [show us.toArray ++ ws.toArray = (us ++ ws).toArray from List.append_toArray us ws]
  exact ⟨.ref _, _, I.lnew (t' := s.toks) (r1.append r2) (by rw [List.length_append]; omega), rfl, q _ I.fresh⟩
theorem bin_add : OpR X (binaryOp .Add) (rW2 X.K ca (binW .add)) := by
  refine OpR.of (OpR.or op_add (OpR.or op_add_str (OpR.or op_catA op_catL))) fun x y H Q h => ?_
  obtain ⟨η, S, w1, w2, sr, r1, r2, h⟩ := h
  cases r1 with
  | r e => cases r2 <;> exact h.elim
  | d r1 => cases r2 with
    | r e => exact h.elim
    | d r2 =>
      obtain ⟨z, e, h⟩ := post_opt _ _ _ h
      have h : qW X.K ca η H Q (.d z) S := h
      cases r1 with
      | int i => cases r2 with
        | int j => cases e; exact .inl ⟨i, j, rfl, rfl, h.same sr (.d (.int _))⟩
        | _ => cases e
      | str i => cases r2 with
        | str j =>
          dsimp only [binD] at e
          split at e
          · cases e; exact .inr (.inl ⟨i, j, rfl, rfl, szl (by assumption), h.same sr (.d (.str _))⟩)
          · cases e
        | _ => cases e
      | tup a1 b1 => cases r2 with
        | tup a2 b2 =>
          dsimp only [binD] at e
          split at e
          · rename_i hz
            cases e
            refine .inr (.inr (.inl ⟨_, _, _, _, rfl, rfl, a1.sq, a2.sq, szl (by rw [b1.length, b2.length]; exact hz), fun e0 => ?_, fun _ e0 => ?_, fun _ _ p hp => ?_⟩))
            · subst e0
              cases b1
              exact h.same sr (.d (.tup a2 b2))
            · subst e0
              cases b2
              rw [List.append_nil] at h
              exact h.same sr (.d (.tup a1 b1))
            · exact h.tup sr (b1.append b2) hp
          · cases e
        | _ => cases e
      | lst a1 b1 => cases r2 with
        | lst a2 b2 =>
          dsimp only [binD] at e
          split at e
          · rename_i hz
            cases e
            exact .inr (.inr (.inr ⟨_, _, _, _, rfl, rfl, a1.sq, a2.sq, szl (by rw [b1.length, b2.length]; exact hz), fun p hp => h.lst sr (b1.append b2) hp⟩))
          · cases e
        | _ => cases e
      | _ => cases r2 <;> cases e
theorem bin_int {op : Operator} {b : B2} {C : Int → Int → Prop} {g : Int → Int → Int} (ho : OpR X (binaryOp op) (rI C fun i j => .int (g i j)))
    (hb : ∀ d e z, binD b d e = some z → ∃ i j, d = .int i ∧ e = .int j ∧ C i j ∧ z = .int (g i j)) : OpR X (binaryOp op) (rW2 X.K ca (binW b)) := by
  refine OpR.of ho fun x y H Q h => ?_
  obtain ⟨η, S, w1, w2, sr, r1, r2, h⟩ := h
  cases r1 with
  | r e => cases r2 <;> exact h.elim
  | d r1 => cases r2 with
    | r e => exact h.elim
    | d r2 =>
      obtain ⟨z, e, h⟩ := post_opt _ _ _ h
      obtain ⟨i, j, rfl, rfl, hc, rfl⟩ := hb _ _ _ e
      cases r1; cases r2
      exact ⟨i, j, rfl, rfl, hc, qW.same h sr (.d (.int _))⟩
theorem bin_int0 {op : Operator} {b : B2} {g : Int → Int → Int} (ho : OpR X (binaryOp op) (rI0 fun i j => .int (g i j)))
    (hb : ∀ d e z, binD b d e = some z → ∃ i j, d = .int i ∧ e = .int j ∧ z = .int (g i j)) : OpR X (binaryOp op) (rW2 X.K ca (binW b)) :=
  bin_int (C := fun _ _ => True) (OpR.of ho fun x y H Q h => by obtain ⟨i, j, e1, e2, _, q⟩ := h; exact ⟨i, j, e1, e2, q⟩) fun d e z h => by
    obtain ⟨i, j, e1, e2, e3⟩ := hb d e z h
    exact ⟨i, j, e1, e2, trivial, e3⟩
theorem bin_sub : OpR X (binaryOp .Sub) (rW2 X.K ca (binW .sub)) := bin_int0 op_sub fun d e z h => by
  cases d <;> cases e <;> cases h; exact ⟨_, _, rfl, rfl, rfl⟩
theorem bin_and : OpR X (binaryOp .BitAnd) (rW2 X.K ca (binW .band)) := bin_int0 op_and fun d e z h => by
  cases d <;> cases e <;> cases h; exact ⟨_, _, rfl, rfl, rfl⟩
theorem bin_or : OpR X (binaryOp .BitOr) (rW2 X.K ca (binW .bor)) := bin_int0 op_or fun d e z h => by
  cases d <;> cases e <;> cases h; exact ⟨_, _, rfl, rfl, rfl⟩
theorem bin_mod : OpR X (binaryOp .Mod) (rW2 X.K ca (binW .mod)) := bin_int op_mod fun d e z h => by
  cases d <;> cases e <;> first
    | (dsimp only [binD] at h; split at h <;> cases h; exact ⟨_, _, rfl, rfl, by assumption, rfl⟩)
    | cases h
theorem small_log {j : Int} (h0 : 0 < j) (h : j < 18446744073709551616) : j.natAbs.log2 < 9000 := by
  have h1 : j.natAbs < 2 ^ 64 := by omega
  have h2 : j.natAbs.log2 < 64 := (Nat.log2_lt (by omega)).mpr h1
  omega
theorem bin_fdiv : OpR X (binaryOp .FloorDiv) (rW2 X.K ca (binW .fdiv)) := bin_int op_fdivW fun d e z h => by
  cases d <;> cases e <;> first
    | (dsimp only [binD] at h; split at h <;> cases h; exact ⟨_, _, rfl, rfl, ⟨by omega, small_log (by omega) (by omega)⟩, rfl⟩)
    | cases h
theorem bin_pow : OpR X (binaryOp .Pow) (rW2 X.K ca (binW .pow)) := bin_int op_pow fun d e z h => by
  cases d <;> cases e <;> first
    | (dsimp only [binD] at h; split at h <;> cases h; exact ⟨_, _, rfl, rfl, by assumption, rfl⟩)
    | cases h
/-- a tuple some times over -/
def rRepN (K : PySem.W.Frag) : R2 := fun x y H Q => ∃ l k xs, x = .ref l ∧ y = .int k ∧ SqT K H l xs ∧ xs ≠ [] ∧ 2 ≤ k ∧ (xs.length : Int) * k ≤ 1000000 ∧ ∀ p, H p = none → Q (.ref p) (upd H p (.tup (List.replicate k.toNat xs).flatten))
theorem op_repN : OpR X (binaryOp .Mult) (rRepN X.K) := by
  intro pins s σ H x y v u Q I rx ry h
  obtain ⟨l, k, xs, rfl, rfl, seen, some', two, few, q⟩ := h
  cases rx
  obtain ⟨tk, rfl⟩ := ry
  obtain ⟨us, rel, ⟨⟨c, d, e, f⟩, look, hc, n, hd⟩, _⟩ := I.tuple seen
  simp only at hc hd
  subst hc hd
  have len := rel.length
  have pos : 1 ≤ us.length := by
    cases xs with
    | nil => exact absurd rfl some'
    | cons _ _ => rw [List.length_cons] at len; omega
  have notE : us.toArray.isEmpty = false := by
    cases us with
    | nil => simp at pos
    | cons _ _ => rfl
  have size : (us.toArray.size : Int) * k ≤ 1000000 := by rw [List.size_toArray, ← len]; exact few
  have kk : k ≤ 1000000 := by
    have q1 : (1 : Int) * k ≤ (us.toArray.size : Int) * k := Int.mul_le_mul_of_nonneg_right (by rw [List.size_toArray]; omega) (by omega)
    omega
  have flat : (List.replicate k.toNat us).flatten.length ≤ sizeLine := by
    rw [PyProof.Rows.lm_len_rep_flat, sizeLine_eq]
    have q1 : ((k.toNat * us.length : Nat) : Int) ≤ 1000000 := by
      rw [Int.natCast_mul, Int.toNat_of_nonneg (by omega), Int.mul_comm]
      rw [List.size_toArray] at size
      exact size
    omega
  have flatV : (List.replicate k.toNat xs).flatten.length ≤ sizeLine := by
    rw [PyProof.Rows.lm_len_rep_flat] at flat ⊢
    rw [len]; exact flat
  have d0 : (decide (k < -(2 ^ 63)) || decide (k ≥ 2 ^ 63)) = false := by
    rw [Bool.or_eq_false_iff]
    exact ⟨decide_eq_false (by omega), decide_eq_false (by omega)⟩
  have d1 : (us.toArray.isEmpty || k == 1) = false := by
    rw [notE]
    exact beq_eq_false_iff_ne.mpr (by omega)
  have d2 : (decide (k ≤ 0) || us.toArray.isEmpty) = false := by
    rw [notE, Bool.or_eq_false_iff]
    exact ⟨decide_eq_false (by omega), rfl⟩
  have d4 : Builtin.Tuple.tupleTooMany (((us.toArray.size : Nat) : Int) * k) = false := by
    unfold Builtin.Tuple.tupleTooMany
    rw [sizeLine_eq]
    exact decide_eq_false (by omega)
  have mul := tuple_mulW l us.toArray n d f k tk d0 d1 d2 (by omega) d4 (by rw [size_rep, List.size_toArray]; exact flat)
  refine wpAny_binaryOp_repeat_ref (T := "tuple") (U := "int") (by decide) ⟨_, look, rfl⟩ (fun s' => typeIs_int s' k tk) noFill_tuple_mul PySem.F.fills_int_mul PySem.F.slot_int_rmul repeat_tuple PySem.F.slot_int_index.lookup ?_
  refine call_meets PySem.F.slot_int_rmul (typeIs_int s k tk) PySem.F.entry_int_rmul (PySem.F.args_int_rmul_2 _ _) (int_rmul_tuple k tk l us.toArray n d f) ⟨look, rfl, ⟨_, look, rfl⟩, ?_⟩
  refine call_meets PySem.F.slot_tuple_mul ⟨_, look, rfl⟩ PySem.F.entry_tuple_mul (PySem.F.args_tuple_mul_2 _ _) mul ⟨look, ?_⟩
  rw [size_rep]
  refine ⟨.ref s.heap.objs.size, _, I.laid (t' := s.toks) (o := .tup (List.replicate k.toNat xs).flatten) (fun b ob z => Heap.get?_push_of_some _ z) (Nat.le_refl _) ?_, rfl, q _ (I.hok.fresh (Nat.le_refl _))⟩
  exact ⟨flatV, _, rel.rep k.toNat, IsTup.new _ _⟩
theorem bin_mul : OpR X (binaryOp .Mult) (rW2 X.K ca (binW .mul)) := by
  refine OpR.of (OpR.or op_mul op_repN) fun x y H Q h => ?_
  obtain ⟨η, S, w1, w2, sr, r1, r2, h⟩ := h
  cases r1 with
  | r e => cases r2 <;> exact h.elim
  | d r1 => cases r2 with
    | r e => exact h.elim
    | d r2 =>
      obtain ⟨z, e, h⟩ := post_opt _ _ _ h
      have h : qW X.K ca η H Q (.d z) S := h
      cases r1 with
      | int i => cases r2 with
        | int j =>
          dsimp only [binD] at e
          split at e <;> cases e
          exact .inl ⟨i, j, rfl, rfl, by assumption, h.same sr (.d (.int _))⟩
        | _ => cases e
      | tup a1 b1 => cases r2 with
        | int k =>
          dsimp only [binD] at e
          obtain ⟨hk, ez⟩ := ite_some e
          subst ez
          obtain ⟨k1, k2, k3⟩ := hk
          refine .inr ⟨_, k, _, rfl, rfl, a1.sq, fun e0 => k1 ?_, k2, by rw [b1.length]; exact k3, fun p hp => h.tup sr (b1.rep _) hp⟩
          subst e0
          cases b1
          rfl
        | _ => cases e
      | _ => cases r2 <;> cases e
/-- which operator -/
def opOf : Operator → Option B2
  | .Add => some .add | .Sub => some .sub | .Mult => some .mul | .FloorDiv => some .fdiv | .Mod => some .mod | .Pow => some .pow | .BitAnd => some .band | .BitOr => some .bor
  | _ => none
theorem bin_ok {op : Operator} {b : B2} (h : opOf op = some b) : OpR X (binaryOp op) (rW2 X.K ca (binW b)) := by
  cases op <;> cases h
  · exact bin_add
  · exact bin_sub
  · exact bin_mul
  · exact bin_mod
  · exact bin_pow
  · exact bin_or
  · exact bin_and
  · exact bin_fdiv
theorem neg_ok : UnR X (unaryOp .USub) (rW1 X.K ca negW) := by
  intro pins s σ H x v Q I rx h
  refine un_neg pins s σ H x v Q I rx ?_
  obtain ⟨η, S, w, sr, r, h⟩ := h
  cases r with
  | r e => exact h.elim
  | d r => cases r with
    | int i => exact ⟨i, rfl, qW.same h sr (.d (.int _))⟩
    | _ => exact h.elim
end
end MP

/-! Comparisons, truth, subscripts, slices, built-in calls, methods. -/
namespace MP
open PySem L2 PySem.Spec PyProof.Rows
section
variable {X : Cx} {ca : Nat → Addr}

/-! ### comparisons -/
def cmpOf : CmpOp → Option C2
  | .Eq => some .eq | .NotEq => some .ne | .Lt => some .lt | .LtE => some .le | .Gt => some .gt | .GtE => some .ge | .Is => some .isn | .IsNot => some .isnn | .In => some .inn | .NotIn => some .nin
theorem post_cmpV {op : C2} {x y : W} {S : Sto} {q : W → Sto → Prop} (h : post (cmpV op x y S) q) : post (cmpW op x y S) (fun c S' => q (.d (.bool c)) S') := by
  unfold cmpV at h
  rw [post_bnd] at h
  exact h
theorem eqD_ways {d e : D} {b : Bool} (h : eqD d e = some b) : (∃ x y, d = .str x ∧ e = .str y ∧ b = (x == y)) ∨ (∃ x y, d = .int x ∧ e = .int y ∧ b = (x == y)) ∨ (SeqAt.shaped d = true ∧ SeqAt.shaped e = true ∧ b = PyData.eqv d e) := by
  unfold eqD at h
  split at h
  · exact .inl ⟨_, _, rfl, rfl, (Option.some.inj h).symm⟩
  · exact .inr (.inl ⟨_, _, rfl, rfl, (Option.some.inj h).symm⟩)
  · obtain ⟨⟨h1, h2⟩, h3⟩ := ite_some h
    exact .inr (.inr ⟨h1, h2, h3.symm⟩)
theorem cmp_eq (ck : Ck X) : OpR X (compareOp .Eq) (rW2 X.K ca (cmpV .eq)) := by
  have hu := ck.hu
  refine OpR.of (OpR.or op_eq (op_eqD (by omega))) fun x y H Q h => ?_
  obtain ⟨η, S, w1, w2, sr, r1, r2, h⟩ := h
  have h := post_cmpV h
  cases r1 with
  | r e => cases r2 <;> exact h.elim
  | d r1 => cases r2 with
    | r e => exact h.elim
    | d r2 =>
      obtain ⟨b, e, h⟩ := post_map _ _ _ h
      have h : qW X.K ca η H Q (.d (.bool b)) S := h
      have q := h.same sr (.d (.bl b))
      rcases eqD_ways e with ⟨i, j, rfl, rfl, rfl⟩ | ⟨i, j, rfl, rfl, rfl⟩ | ⟨s1, s2, rfl⟩
      · cases r1; cases r2; exact .inl ⟨rfl, by rw [dec_str]; exact q⟩
      · cases r1; cases r2; exact .inl ⟨rfl, by rw [dec_int]; exact q⟩
      · exact .inr ⟨_, _, Rp.dp _ _ r1, Rp.dp _ _ r2, s1, s2, q⟩
theorem cmp_ne (ck : Ck X) : OpR X (compareOp .NotEq) (rW2 X.K ca (cmpV .ne)) := by
  have hu := ck.hu
  refine OpR.of (OpR.or op_ne (op_neD (by omega))) fun x y H Q h => ?_
  obtain ⟨η, S, w1, w2, sr, r1, r2, h⟩ := h
  have h := post_cmpV h
  cases r1 with
  | r e => cases r2 <;> exact h.elim
  | d r1 => cases r2 with
    | r e => exact h.elim
    | d r2 =>
      obtain ⟨b, e, h⟩ := post_map _ _ _ h
      have h : qW X.K ca η H Q (.d (.bool (!b))) S := h
      have q := h.same sr (.d (.bl (!b)))
      rcases eqD_ways e with ⟨i, j, rfl, rfl, rfl⟩ | ⟨i, j, rfl, rfl, rfl⟩ | ⟨s1, s2, rfl⟩
      · cases r1; cases r2; exact .inl ⟨rfl, by rw [dec_str]; exact q⟩
      · cases r1; cases r2; exact .inl ⟨rfl, by rw [dec_int]; exact q⟩
      · exact .inr ⟨_, _, Rp.dp _ _ r1, Rp.dp _ _ r2, s1, s2, q⟩
theorem cmp_lt (ck : Ck X) : OpR X (compareOp .Lt) (rW2 X.K ca (cmpV .lt)) := by
  have hu := ck.hu
  refine OpR.of (OpR.or op_lt (op_ltT (by omega))) fun x y H Q h => ?_
  obtain ⟨η, S, w1, w2, sr, r1, r2, h⟩ := h
  have h := post_cmpV h
  cases r1 with
  | r e => cases r2 <;> exact h.elim
  | d r1 => cases r2 with
    | r e => exact h.elim
    | d r2 =>
      obtain ⟨b, e, h⟩ := post_map _ _ _ h
      have h : qW X.K ca η H Q (.d (.bool b)) S := h
      have q := h.same sr (.d (.bl b))
      unfold ltD at e
      split at e
      · cases r1; cases r2; cases e; exact .inl ⟨_, _, rfl, rfl, q⟩
      · split at e
        · rename_i a1 a2 e1 e2
          cases e
          cases r1 with
          | tup t1 u1 => cases r2 with
            | tup t2 u2 =>
              have z1 := u1.ints e1
              have z2 := u2.ints e2
              subst z1; subst z2
              exact .inr ⟨_, _, _, _, rfl, rfl, t1.sq, t2.sq, q⟩
        · cases e
      · cases e
theorem cmp_gt : OpR X (compareOp .Gt) (rW2 X.K ca (cmpV .gt)) := by
  refine OpR.of op_gt fun x y H Q h => ?_
  obtain ⟨η, S, w1, w2, sr, r1, r2, h⟩ := h
  have h := post_cmpV h
  cases r1 with
  | r e => cases r2 <;> exact h.elim
  | d r1 => cases r2 with
    | r e => cases r1 <;> exact h.elim
    | d r2 => cases r1 with
      | int i => cases r2 with
        | int j => exact ⟨i, j, rfl, rfl, qW.same h sr (.d (.bl _))⟩
        | _ => exact h.elim
      | _ => cases r2 <;> exact h.elim
theorem cmp_ge : OpR X (compareOp .GtE) (rW2 X.K ca (cmpV .ge)) := by
  refine OpR.of op_ge fun x y H Q h => ?_
  obtain ⟨η, S, w1, w2, sr, r1, r2, h⟩ := h
  have h := post_cmpV h
  cases r1 with
  | r e => cases r2 <;> exact h.elim
  | d r1 => cases r2 with
    | r e => cases r1 <;> exact h.elim
    | d r2 => cases r1 with
      | int i => cases r2 with
        | int j => exact ⟨i, j, rfl, rfl, qW.same h sr (.d (.bl _))⟩
        | _ => exact h.elim
      | _ => cases r2 <;> exact h.elim
theorem cmp_le : OpR X (compareOp .LtE) (rW2 X.K ca (cmpV .le)) := by
  refine OpR.of op_le fun x y H Q h => ?_
  obtain ⟨η, S, w1, w2, sr, r1, r2, h⟩ := h
  have h := post_cmpV h
  cases r1 with
  | r e => cases r2 <;> exact h.elim
  | d r1 => cases r2 with
    | r e => exact h.elim
    | d r2 =>
      obtain ⟨b, e, h⟩ := post_map _ _ _ h
      unfold leD at e
      split at e
      · cases r1; cases r2; cases e; exact ⟨_, _, rfl, rfl, qW.same h sr (.d (.bl _))⟩
      · cases e
theorem none_of {K : PySem.W.Frag} {η : Zs} {H : Hp} {x : V} {w : W} (r : RW K η H x w) : isNone w = decide (x = .non) := by
  cases r with
  | r e => rfl
  | d r => cases r <;> rfl
theorem cmp_isn : OpR X (compareOp .Is) (rW2 X.K ca (cmpV .isn)) := by
  refine OpR.of op_isN fun x y H Q h => ?_
  obtain ⟨η, S, w1, w2, sr, r1, r2, h⟩ := h
  have h := post_cmpV h
  cases r2 with
  | r e => exact h.elim
  | d r2 => cases r2 with
    | non =>
      refine ⟨rfl, ?_⟩
      have h : qW X.K ca η H Q (.d (.bool (isNone w1))) S := h
      rw [← none_of r1]
      exact h.same sr (.d (.bl _))
    | _ => exact h.elim
theorem cmp_isnn : OpR X (compareOp .IsNot) (rW2 X.K ca (cmpV .isnn)) := by
  refine OpR.of op_notN fun x y H Q h => ?_
  obtain ⟨η, S, w1, w2, sr, r1, r2, h⟩ := h
  have h := post_cmpV h
  cases r2 with
  | r e => exact h.elim
  | d r2 => cases r2 with
    | non =>
      refine ⟨rfl, ?_⟩
      have h : qW X.K ca η H Q (.d (.bool (!isNone w1))) S := h
      rw [← none_of r1]
      exact h.same sr (.d (.bl _))
    | _ => exact h.elim
theorem keyD_rel {K : PySem.W.Frag} {η : Zs} {H : Hp} {x : V} {d : D} {k : Key} (r : Rp K η H x d) (e : keyD d = some k) : x = kV k := by
  cases r <;> cases e <;> rfl
theorem in_tup {pins : List (Addr × Obj)} {s : Shared} {σ : Sg} {H : Hp} {x y : V} {v u : Value} {Q : Bool → Prop} {d : D} {ds : List D} {E : Value → Shared → Prop} {G : Value → Shared → Prop} (ck : Ck X) (I : Inv X pins σ H s) (rx : RelV x v) (ry : RelV y u) (h1 : Dp X.K H x d) (h2 : Dp X.K H y (.tuple ds)) (sx : SeqAt.shaped d = true) (sy : SeqAt.shaped (.tuple ds) = true) :
    (G (.bool (ds.any fun z => PyData.eqv z d)) s → wpAny (model X.prog X.w) X.A (compareOp .In v u) G E s) ∧ (G (.bool (!ds.any fun z => PyData.eqv z d)) s → wpAny (model X.prog X.w) X.A (compareOp .NotIn v u) G E s) := by
  have hu := ck.hu
  obtain ⟨as, q1⟩ := Dp.reads I d x v h1 rx
  obtain ⟨bs, q2⟩ := Dp.reads I (.tuple ds) y u h2 ry
  have hc : PyData.canLayAll0 ds = true := SeqAt.canLay_of_shaped sy
  have hr : X.A.units + 1 + min (PyData.depthAll ds) d.depth < cLine := room_in_shaped sx (by omega)
  cases q2 with
  | tuple g1 g2 g3 g4 =>
    have he := SeqAt.items_eqAt (A := X.A) g4 q1 hc (SeqAt.canLay_of_shaped sx) hr
    refine ⟨fun k => ?_, fun k => ?_⟩
    · exact SeqAt.in_tupleAt _ ⟨_, g1, g2, _, g3⟩ he (by rw [SeqAt.any_by_data g4 hc]; exact k)
    · exact SeqAt.notIn_tupleAt _ ⟨_, g1, g2, _, g3⟩ he (by rw [SeqAt.any_by_data g4 hc]; exact k)
theorem cmp_in (ck : Ck X) : OpR X (compareOp .In) (rW2 X.K ca (cmpV .inn)) := by
  have hu := ck.hu
  intro pins s σ H x y v u Q I rx ry h
  obtain ⟨η, S, w1, w2, sr, r1, r2, h⟩ := h
  have h := post_cmpV h
  cases r1 with
  | r e => cases r2 <;> exact h.elim
  | d r1 => cases r2 with
    | d r2 =>
      obtain ⟨b, e, h⟩ := post_map _ _ _ h
      have h : qW X.K ca η H Q (.d (.bool b)) S := h
      have q := h.same sr (.d (.bl b))
      unfold inD at e
      split at e
      · obtain ⟨⟨s1, s2⟩, e⟩ := ite_some e
        subst e
        exact op_inD (by omega) pins s σ H x y v u Q I rx ry ⟨_, _, Rp.dp _ _ r1, Rp.dp _ _ r2, s1, s2, q⟩
      · obtain ⟨⟨s1, s2⟩, e⟩ := ite_some e
        subst e
        exact (in_tup ck I rx ry (Rp.dp _ _ r1) (Rp.dp _ _ r2) s1 s2 (Q := fun _ => True)).1 ⟨.bl _, H, I, rfl, q⟩
      · split at e
        · obtain ⟨c, ec, e⟩ := Option.map_eq_some_iff.mp e
          subst e
          cases r1; cases r2
          have ez := sign1_eq ec
          subst ez
          exact op_in_sign pins s σ H _ _ v u Q I rx ry ⟨_, _, rfl, rfl, q⟩
        · cases e
      · cases e
    | @r i a ea =>
      change post (match S[i]? with
        | some (.dk kvs) => match keyD _ with
          | some k => some (.ok (look k kvs).isSome S)
          | none => none
        | _ => none) _ at h
      split at h
      · rename_i kvs es
        split at h
        · rename_i k ek
          have q := qW.same (Q := Q) h sr (.d (.bl _))
          obtain ⟨vs, hv, kr⟩ := sr.at ea es
          have ex := keyD_rel r1 ek
          subst ex
          cases ry
          refine d_in (o := valV vs k) (by omega) I (DGet.k hv) rx fun s3 I3 => ⟨.bl _, H, I3, rfl, ?_⟩
          have z := kr.look (k := k)
          cases hl : MP.look k kvs with
          | none => rw [hl] at q; rw [z.2 hl]; exact q
          | some w' =>
            obtain ⟨v', e', _⟩ := z.1 w' hl
            rw [hl] at q; rw [e']; exact q
        · exact h.elim
      · exact h.elim
theorem cmp_nin (ck : Ck X) : OpR X (compareOp .NotIn) (rW2 X.K ca (cmpV .nin)) := by
  have hu := ck.hu
  intro pins s σ H x y v u Q I rx ry h
  obtain ⟨η, S, w1, w2, sr, r1, r2, h⟩ := h
  have h := post_cmpV h
  cases r1 with
  | r e => cases r2 <;> exact h.elim
  | d r1 => cases r2 with
    | d r2 =>
      obtain ⟨b, e, h⟩ := post_map _ _ _ h
      have h : qW X.K ca η H Q (.d (.bool (!b))) S := h
      have q := h.same sr (.d (.bl (!b)))
      unfold inD at e
      split at e
      · obtain ⟨⟨s1, s2⟩, e⟩ := ite_some e
        subst e
        exact op_notInD (by omega) pins s σ H x y v u Q I rx ry ⟨_, _, Rp.dp _ _ r1, Rp.dp _ _ r2, s1, s2, q⟩
      · obtain ⟨⟨s1, s2⟩, e⟩ := ite_some e
        subst e
        exact (in_tup ck I rx ry (Rp.dp _ _ r1) (Rp.dp _ _ r2) s1 s2 (Q := fun _ => True)).2 ⟨.bl _, H, I, rfl, q⟩
      · split at e
        · obtain ⟨c, ec, e⟩ := Option.map_eq_some_iff.mp e
          subst e
          cases r1; cases r2
          have ez := sign1_eq ec
          subst ez
          exact op_notIn_sign pins s σ H _ _ v u Q I rx ry ⟨_, _, rfl, rfl, q⟩
        · cases e
      · cases e
    | @r i a ea =>
      change post (match S[i]? with
        | some (.dk kvs) => match keyD _ with
          | some k => some (.ok (!(look k kvs).isSome) S)
          | none => none
        | _ => none) _ at h
      split at h
      · rename_i kvs es
        split at h
        · rename_i k ek
          have q := qW.same (Q := Q) h sr (.d (.bl _))
          obtain ⟨vs, hv, kr⟩ := sr.at ea es
          have ex := keyD_rel r1 ek
          subst ex
          cases ry
          refine d_notIn (o := valV vs k) (by omega) I (DGet.k hv) rx fun s3 I3 => ⟨.bl _, H, I3, rfl, ?_⟩
          have z := kr.look (k := k)
          cases hl : MP.look k kvs with
          | none => rw [hl] at q; rw [z.2 hl]; exact q
          | some w' =>
            obtain ⟨v', e', _⟩ := z.1 w' hl
            rw [hl] at q; rw [e']; exact q
        · exact h.elim
      · exact h.elim
theorem cmp_ok (ck : Ck X) {op : CmpOp} {c : C2} (h : cmpOf op = some c) : OpR X (compareOp op) (rW2 X.K ca (cmpV c)) := by
  cases op <;> cases h
  · exact cmp_eq ck
  · exact cmp_ne ck
  · exact cmp_lt ck
  · exact cmp_le
  · exact cmp_gt
  · exact cmp_ge
  · exact cmp_isn
  · exact cmp_isnn
  · exact cmp_in ck
  · exact cmp_nin ck

/-! ### truth -/
def qB (K : PySem.W.Frag) (ca : Nat → Addr) (η : Zs) (H : Hp) (Q : Bool → Hp → Prop) : Bool → Sto → Prop := fun b S' => ∀ H' η', Grow η H η' H' → SR K ca η' H' S' → Q b H'
def rTr (K : PySem.W.Frag) (ca : Nat → Addr) : V → Hp → (Bool → Hp → Prop) → Prop := fun x H Q => ∃ η S w, SR K ca η H S ∧ RW K η H x w ∧ post (truW w S) (qB K ca η H Q)
theorem empty_of {α β : Type} {xs : List α} {ys : List β} (h : xs.length = ys.length) : xs.isEmpty = ys.isEmpty := by
  cases xs <;> cases ys <;> simp at h ⊢
theorem tru_K {K : PySem.W.Frag} {H : Hp} {x : V} {Q : Bool → Hp → Prop} (h : rTr K ca x H Q) : ∃ k, TruV K x H k ∧ Q k H := by
  obtain ⟨η, S, w, sr, r, h⟩ := h
  cases r with
  | d r =>
    obtain ⟨b, e, h⟩ := post_map _ _ _ h
    have q : Q b H := h H η (Grow.refl _ _) sr
    refine ⟨b, ?_, q⟩
    cases r with
    | non => cases e; rfl
    | bl c => cases e; rfl
    | int i => cases e; rfl
    | str z => obtain ⟨e1, e2⟩ := ite_some e; exact ⟨szl e1, e2.symm⟩
    | lst a1 b1 => cases e; exact .inl ⟨_, a1.sq, by rw [empty_of b1.length]⟩
    | tup a1 b1 => cases e; exact .inr (.inl ⟨_, a1.sq, by rw [empty_of b1.length]⟩)
  | @r i a ea =>
    change post (match S[i]? with
      | some (.lst xs) => some (.ok (!xs.isEmpty) S)
      | some (.dk kvs) => some (.ok (!kvs.isEmpty) S)
      | _ => none) _ at h
    split at h
    · rename_i xs es
      obtain ⟨vs, hv, kr⟩ := sr.at ea es
      exact ⟨_, .inl ⟨vs, .inl (.inl hv), by rw [empty_of kr.length]⟩, h H η (Grow.refl _ _) sr⟩
    · rename_i kvs es
      obtain ⟨vs, hv, kr⟩ := sr.at ea es
      exact ⟨_, .inr (.inr ⟨vs, hv, by rw [empty_of kr.length]⟩), h H η (Grow.refl _ _) sr⟩
    · exact h.elim

/-! ### subscripts -/
theorem IxR.of {r r' : R2} (h : IxR X r) (k : ∀ x y H Q, r' x y H Q → r x y H Q) : IxR X r' := fun value slice pins s σ H x y v u Q I rx ry q hs => h value slice pins s σ H x y v u Q I rx ry (k x y H Q q) hs
def rIxD : R2 := fun x y H Q => ∃ a v, x = .ref a ∧ DGet H a y (some v) ∧ Q v H
theorem ix_dict (hu : X.A.units + 2 < cLine) : IxR X rIxD := by
  intro value slice pins s σ H x y v u Q I rx ry q hs
  obtain ⟨a, w, rfl, g, q⟩ := q
  cases rx
  exact tail_any (dict_typeIs I g) PySem.F.slot_dict_getitem.lookup (d_getItem (by omega) I g ry fun w' s3 I3 rw' => ⟨w, H, I3, rw', q⟩) hs
theorem sub_ok (ck : Ck X) : IxR X (rW2 X.K ca subW) := by
  have hu := ck.hu
  refine IxR.of (IxR.or ix_seq (ix_dict (by omega))) fun x y H Q h => ?_
  obtain ⟨η, S, w1, w2, sr, r1, r2, h⟩ := h
  cases r1 with
  | d r1 => cases r2 with
    | r e => cases r1 <;> exact h.elim
    | d r2 =>
      cases r1 with
      | lst a1 b1 => cases r2 with
        | int k =>
          obtain ⟨z, e, h⟩ := post_map _ _ _ h
          obtain ⟨v, ev, rv⟩ := b1.atI e
          exact .inl (.inl ⟨_, _, k, v, rfl, rfl, a1.sq, ev, qW.same h sr (.d rv)⟩)
        | _ => exact h.elim
      | tup a1 b1 => cases r2 with
        | int k =>
          obtain ⟨z, e, h⟩ := post_map _ _ _ h
          obtain ⟨v, ev, rv⟩ := b1.atI e
          exact .inl (.inr (.inl ⟨_, _, k, v, rfl, rfl, a1.sq, ev, qW.same h sr (.d rv)⟩))
        | _ => exact h.elim
      | str z => cases r2 with
        | int k =>
          change post (if z.length ≤ SZ then (L2.atI z.cps.toList k).map fun c => Out.ok (W.d (.str ⟨#[c]⟩)) S else none) _ at h
          split at h
          · rename_i hz
            obtain ⟨c, e, h⟩ := post_map _ _ _ h
            exact .inl (.inr (.inr ⟨z, k, c, rfl, rfl, szl hz, e, qW.same h sr (.d (.str _))⟩))
          · exact h.elim
        | _ => exact h.elim
      | _ => cases r2 <;> exact h.elim
  | @r i a ea => cases r2 with
    | r e => exact h.elim
    | @d _ k r2 =>
      change post (match S[i]? with
        | some (.lst xs) => match k with
          | .int k => (L2.atI xs k).map fun x => .ok x S
          | _ => none
        | some (.dk kvs) => match keyD k with
          | some k => (look k kvs).map fun x => .ok x S
          | none => none
        | _ => none) _ at h
      split at h
      · rename_i xs es
        obtain ⟨vs, hv, kr⟩ := sr.at ea es
        cases r2 with
        | int k =>
          obtain ⟨z, e, h⟩ := post_map _ _ _ h
          obtain ⟨v, ev, rv⟩ := kr.atI e
          exact .inl (.inl ⟨_, _, k, v, rfl, rfl, .inl (.inl hv), ev, qW.same h sr rv⟩)
        | _ => exact h.elim
      · rename_i kvs es
        obtain ⟨vs, hv, kr⟩ := sr.at ea es
        split at h
        · rename_i k ek
          obtain ⟨z, e, h⟩ := post_map _ _ _ h
          obtain ⟨v, ev, rv⟩ := (kr.look (k := k)).1 z e
          have ex := keyD_rel r2 ek
          subst ex
          refine .inr ⟨a, v, rfl, ?_, qW.same h sr rv⟩
          rw [← ev]
          exact DGet.k hv
        · exact h.elim
      · exact h.elim

/-! ### slices -/
theorem SlR.of {r r' : V → Option Int → Option Int → Hp → VK → Prop} (h : SlR X r) (k : ∀ x lo hi H Q, r' x lo hi H Q → r x lo hi H Q) : SlR X r' := fun pins s σ H x v vl vu lo hi sl Q I rx hs pl pu q => h pins s σ H x v vl vu lo hi sl Q I rx hs pl pu (k x lo hi H Q q)
def rSl (K : PySem.W.Frag) (ca : Nat → Addr) : V → Option Int → Option Int → Hp → VK → Prop := fun x lo hi H Q => ∃ η S w, SR K ca η H S ∧ RW K η H x w ∧ post (slcW w lo hi S) (qW K ca η H Q)
theorem sl_ok : SlR X (rSl X.K ca) := by
  refine SlR.of (SlR.or sl_list (SlR.or sl_tupA sl_str)) fun x lo hi H Q h => ?_
  obtain ⟨η, S, w, sr, r, h⟩ := h
  cases r with
  | r e => exact h.elim
  | d r => cases r with
    | lst a1 b1 => exact .inl ⟨_, _, rfl, a1.sq, fun p hp => qW.lst h sr (b1.cut lo hi) hp⟩
    | tup a1 b1 =>
      refine .inr (.inl ⟨_, _, rfl, a1.sq, fun e => ?_, fun _ p hp => qW.tup h sr (b1.cut lo hi) hp⟩)
      refine qW.same h sr (.d ?_)
      have z : ∀ {α : Type} (ys : List α), HT.sIx ys.length 0 lo = 0 → HT.sIx ys.length ys.length hi = ys.length → MP.cut ys lo hi = ys := fun ys e1 e2 => by
        unfold MP.cut
        rw [e1, e2]
        simp
      rw [b1.length] at e
      rw [z _ e.1 e.2]
      exact .tup a1 b1
    | str z =>
      change post (if z.length ≤ SZ then some (Out.ok (W.d (.str (cutS z lo hi))) S) else none) _ at h
      split at h
      · rename_i hz
        exact .inr (.inr ⟨z, rfl, szl hz, qW.same h sr (.d (.str _))⟩)
      · exact h.elim
    | _ => exact h.elim
end
end MP

/-! Built-in calls, methods, stores. -/
namespace MP
open PySem L2 PySem.Spec PyProof.Rows
section
variable {X : Cx} {ca : Nat → Addr}
theorem CallR.of {f : Value} {r r' : List V → Hp → VK → Prop} (h : CallR X f r) (k : ∀ xs H Q, r' xs H Q → r xs H Q) : CallR X f r' := fun pins s σ H xs us Q I r q => h pins s σ H xs us Q I r (k xs H Q q)
def qD (K : PySem.W.Frag) (ca : Nat → Addr) (η : Zs) (H : Hp) (Q : VK) (S : Sto) (y : D) : Prop := qW K ca η H Q (.d y) S
/-- the data case of a built-in call -/
theorem b1_data {K : PySem.W.Frag} {η : Zs} {H : Hp} {Q : VK} {S : Sto} {f : B1} {ws : List W} {vs : List V} (r : RWs K η H vs ws)
    (h : post (match dataOf ws with
      | some xs => (b1D f xs).map fun y => .ok (.d y) S
      | none => none) (qW K ca η H Q)) : ∃ xs y, RpAll K η H vs xs ∧ b1D f xs = some y ∧ qW K ca η H Q (.d y) S := by
  split at h
  · rename_i xs e
    obtain ⟨y, e2, h⟩ := post_map (f := fun y => W.d y) _ _ h
    exact ⟨xs, y, r.data e, e2, h⟩
  · exact h.elim
theorem one_of {K : PySem.W.Frag} {η : Zs} {H : Hp} {vs : List V} {x : D} (r : RpAll K η H vs [x]) : ∃ v, vs = [v] ∧ Rp K η H v x := by
  cases r with
  | cons a b => cases b; exact ⟨_, rfl, a⟩
theorem two_of {K : PySem.W.Frag} {η : Zs} {H : Hp} {vs : List V} {x y : D} (r : RpAll K η H vs [x, y]) : ∃ v w, vs = [v, w] ∧ Rp K η H v x ∧ Rp K η H w y := by
  cases r with
  | cons a b => cases b with
    | cons c d => cases d; exact ⟨_, _, rfl, a, c⟩
/-- one datum in, flat -/
theorem b1_len : CallR X (.builtin "len") (rWs X.K ca (b1W .len)) := by
  have hl : CallR X (.builtin "len") (fun xs H Q => ∃ a kvs, xs = [.ref a] ∧ Rd H a (.dK kvs) ∧ Q (.int kvs.length) H) := by
    intro pins s σ H xs us Q I r h
    obtain ⟨a, kvs, rfl, e, q⟩ := h
    obtain ⟨u, rfl, ru⟩ := vals1 r
    cases ru
    exact d_len I e fun t s' I' => ⟨.int _, H, I', ⟨_, rfl⟩, q⟩
  refine CallR.of (CallR.or call_len_seq (CallR.or call_len_str hl)) fun xs H Q h => ?_
  obtain ⟨η, S, ws, sr, r, h⟩ := h
  unfold b1W at h
  split at h
  · rename_i i
    cases r with
    | cons r t =>
      cases t
      cases r with
      | r ea =>
        split at h
        · rename_i ys es
          obtain ⟨vs, hv, kr⟩ := sr.at ea es
          have q := qW.same (Q := Q) h sr (.d (.int _))
          refine .inl ⟨_, vs, rfl, .inl (.inl (.inl hv)), ?_⟩
          rw [kr.length]; exact q
        · rename_i kvs es
          obtain ⟨vs, hv, kr⟩ := sr.at ea es
          have q := qW.same (Q := Q) h sr (.d (.int _))
          refine .inr (.inr ⟨_, vs, rfl, .inl hv, ?_⟩)
          rw [kr.length]; exact q
        · exact h.elim
  · rename_i hh; cases hh
  · obtain ⟨xs, y, r, e, q⟩ := b1_data r h
    unfold b1D at e
    split at e <;> first
      | (obtain ⟨v, rfl, rv⟩ := one_of r
         cases rv with
         | str z => obtain ⟨e1, e2⟩ := ite_some e; subst e2; exact .inr (.inl ⟨_, rfl, szl e1, q.same sr (.d (.int _))⟩))
      | (obtain ⟨v, rfl, rv⟩ := one_of r
         cases e
         cases rv with
         | lst a1 b1 => refine .inl ⟨_, _, rfl, .inl a1.sq, ?_⟩; rw [b1.length]; exact q.same sr (.d (.int _)))
      | (obtain ⟨v, rfl, rv⟩ := one_of r
         cases e
         cases rv with
         | tup a1 b1 => refine .inl ⟨_, _, rfl, .inr a1.sq, ?_⟩; rw [b1.length]; exact q.same sr (.d (.int _)))
      | (cases e; done)
      | (rename_i hh; cases hh; done)
theorem b1_tuple : CallR X (.type "tuple") (rWs X.K ca (b1W .tuple)) := by
  refine CallR.of call_tuple_of fun xs H Q h => ?_
  obtain ⟨η, S, ws, sr, r, h⟩ := h
  unfold b1W at h
  split at h
  · rename_i hh; cases hh
  · rename_i i
    cases r with
    | cons r t =>
      cases t
      cases r with
      | r ea =>
        split at h
        · rename_i ys es
          obtain ⟨vs, hv, kr⟩ := sr.at ea es
          obtain ⟨zs, ez, q⟩ := post_map (f := fun y => W.d (.tuple y)) _ _ h
          exact ⟨_, vs, rfl, .inl ⟨.inl (.inl hv), fun p hp => qW.tup q sr (kr.data ez) hp⟩⟩
        · exact h.elim
  · obtain ⟨xs, y, r, e, q⟩ := b1_data r h
    unfold b1D at e
    split at e <;> first
      | (obtain ⟨v, rfl, rv⟩ := one_of r
         cases e
         cases rv with
         | lst a1 b1 => exact ⟨_, _, rfl, .inl ⟨a1.sq, fun p hp => qW.tup q sr b1 hp⟩⟩)
      | (obtain ⟨v, rfl, rv⟩ := one_of r
         cases e
         cases rv with
         | tup a1 b1 => exact ⟨_, _, rfl, .inr ⟨a1.sq, q.same sr (.d (.tup a1 b1))⟩⟩)
      | (cases e; done)
      | (rename_i hh; cases hh; done)
/-- f is no other than its data case -/
theorem b1_only {f : B1} (h1 : f ≠ .len) (h2 : f ≠ .tuple) (ws : List W) (S : Sto) : b1W f ws S = (match dataOf ws with
      | some xs => (b1D f xs).map fun y => .ok (.d y) S
      | none => none) := by
  unfold b1W
  split
  · exact absurd rfl h1
  · exact absurd rfl h2
  · rfl
theorem b1_of {f : B1} {fv : Value} {r : List V → Hp → VK → Prop} (h1 : f ≠ .len) (h2 : f ≠ .tuple) (hc : CallR X fv r)
    (k : ∀ (vs : List V) (xs : List D) (y : D) (η : Zs) (H : Hp) (Q : VK) (S : Sto), SR X.K ca η H S → RpAll X.K η H vs xs → b1D f xs = some y → qW X.K ca η H Q (.d y) S → r vs H Q) : CallR X fv (rWs X.K ca (b1W f)) := by
  refine CallR.of hc fun xs H Q h => ?_
  obtain ⟨η, S, ws, sr, rr, h⟩ := h
  rw [b1_only h1 h2] at h
  obtain ⟨zs, y, rr, e, q⟩ := b1_data rr h
  exact k _ zs y η H Q S sr rr e q
theorem b1_list : CallR X (.type "list") (rWs X.K ca (b1W .list)) := by
  refine b1_of (by decide) (by decide) call_list_of fun vs xs y η H Q S sr r e q => ?_
  unfold b1D at e
  split at e <;> first
    | (obtain ⟨v, rfl, rv⟩ := one_of r
       cases e
       cases rv with
       | lst a1 b1 => exact ⟨_, _, rfl, .inl a1.sq, fun p hp => qW.lst q sr b1 hp⟩)
    | (obtain ⟨v, rfl, rv⟩ := one_of r
       cases e
       cases rv with
       | tup a1 b1 => exact ⟨_, _, rfl, .inr a1.sq, fun p hp => qW.lst q sr b1 hp⟩)
    | (cases e; done)
      | (rename_i hh; cases hh; done)
theorem b1_int : CallR X (.type "int") (rWs X.K ca (b1W .int)) := by
  refine b1_of (by decide) (by decide) call_int1 fun vs xs y η H Q S sr r e q => ?_
  unfold b1D at e
  split at e <;> first
    | (obtain ⟨v, rfl, rv⟩ := one_of r
       cases e
       cases rv with
       | int i => exact .inl ⟨_, rfl, q.same sr (.d (.int _))⟩)
    | (obtain ⟨v, rfl, rv⟩ := one_of r
       cases e
       cases rv with
       | bl b => exact .inr ⟨_, rfl, q.same sr (.d (.int _))⟩)
    | (cases e; done)
      | (rename_i hh; cases hh; done)
theorem b1_abs : CallR X (.builtin "abs") (rWs X.K ca (b1W .abs)) := by
  refine b1_of (by decide) (by decide) call_abs fun vs xs y η H Q S sr r e q => ?_
  unfold b1D at e
  split at e <;> first
    | (obtain ⟨v, rfl, rv⟩ := one_of r
       cases e
       cases rv with
       | int i => exact ⟨_, rfl, q.same sr (.d (.int _))⟩)
    | (cases e; done)
      | (rename_i hh; cases hh; done)
theorem b1_str : CallR X (.type "str") (rWs X.K ca (b1W .str)) := by
  refine b1_of (by decide) (by decide) (CallR.or call_str_int SkE.call_str_str) fun vs xs y η H Q S sr r e q => ?_
  unfold b1D at e
  split at e <;> first
    | (obtain ⟨v, rfl, rv⟩ := one_of r
       obtain ⟨z, e1, e2⟩ := Option.map_eq_some_iff.mp e
       subst e2
       unfold strD at e1
       split at e1
       · cases e1
         cases rv
         exact .inr ⟨_, rfl, q.same sr (.d (.str _))⟩
       · obtain ⟨c, e1⟩ := ite_some e1
         subst e1
         cases rv
         exact .inl ⟨_, rfl, c, q.same sr (.d (.str _))⟩
       · cases e1)
    | (cases e; done)
      | (rename_i hh; cases hh; done)
theorem b1_ord : CallR X (.builtin "ord") (rWs X.K ca (b1W .ord)) := by
  refine b1_of (by decide) (by decide) call_ord fun vs xs y η H Q S sr r e q => ?_
  unfold b1D at e
  split at e <;> first
    | (obtain ⟨v, rfl, rv⟩ := one_of r
       obtain ⟨z, e1, e2⟩ := Option.map_eq_some_iff.mp e
       subst e2
       have e1 := sign1_eq e1
       subst e1
       cases rv
       exact ⟨_, rfl, rfl, q.same sr (.d (.int _))⟩)
    | (cases e; done)
      | (rename_i hh; cases hh; done)
theorem b1_all (ck : Ck X) : CallR X (.builtin "all") (rWs X.K ca (b1W .all)) := by
  refine b1_of (by decide) (by decide) (cr_all ck.calm) fun vs xs y η H Q S sr r e q => ?_
  unfold b1D at e
  split at e <;> first
    | (obtain ⟨v, rfl, rv⟩ := one_of r
       obtain ⟨z, e1, e2⟩ := Option.map_eq_some_iff.mp e
       subst e2
       cases rv with
       | lst a1 b1 =>
         have z := b1.bools e1
         subst z
         exact ⟨_, _, rfl, a1.sq, q.same sr (.d (.bl _))⟩)
    | (cases e; done)
      | (rename_i hh; cases hh; done)
theorem b1_any (ck : Ck X) : CallR X (.builtin "any") (rWs X.K ca (b1W .any)) := by
  refine b1_of (by decide) (by decide) (cr_any ck.calm) fun vs xs y η H Q S sr r e q => ?_
  unfold b1D at e
  split at e <;> first
    | (obtain ⟨v, rfl, rv⟩ := one_of r
       obtain ⟨z, e1, e2⟩ := Option.map_eq_some_iff.mp e
       subst e2
       cases rv with
       | lst a1 b1 =>
         have z := b1.bools e1
         subst z
         exact ⟨_, _, rfl, a1.sq, q.same sr (.d (.bl _))⟩)
    | (cases e; done)
      | (rename_i hh; cases hh; done)
theorem b1_sum (ck : Ck X) : CallR X (.builtin "sum") (rWs X.K ca (b1W .sum)) := by
  refine b1_of (by decide) (by decide) (cr_sum ck.calm) fun vs xs y η H Q S sr r e q => ?_
  unfold b1D at e
  split at e <;> first
    | (obtain ⟨v, rfl, rv⟩ := one_of r
       obtain ⟨z, e1, e2⟩ := Option.map_eq_some_iff.mp e
       subst e2
       cases rv with
       | lst a1 b1 =>
         have z := b1.ints e1
         subst z
         exact ⟨_, _, rfl, a1.sq, q.same sr (.d (.int _))⟩)
    | (cases e; done)
      | (rename_i hh; cases hh; done)
theorem b1_min (ck : Ck X) : CallR X (.builtin "min") (rWs X.K ca (b1W .min)) := by
  refine b1_of (by decide) (by decide) (call_min2 ck.calm) fun vs xs y η H Q S sr r e q => ?_
  unfold b1D at e
  split at e <;> first
    | (obtain ⟨v, w, rfl, rv, rw'⟩ := two_of r
       cases e
       cases rv
       cases rw'
       exact ⟨_, _, rfl, q.same sr (.d (.int _))⟩)
    | (cases e; done)
      | (rename_i hh; cases hh; done)
theorem b1_max (ck : Ck X) : CallR X (.builtin "max") (rWs X.K ca (b1W .max)) := by
  refine b1_of (by decide) (by decide) (call_max2 ck.calm) fun vs xs y η H Q S sr r e q => ?_
  unfold b1D at e
  split at e <;> first
    | (obtain ⟨v, w, rfl, rv, rw'⟩ := two_of r
       cases e
       cases rv
       cases rw'
       exact ⟨_, _, rfl, q.same sr (.d (.int _))⟩)
    | (cases e; done)
      | (rename_i hh; cases hh; done)
theorem call_reprD (ck : Ck X) : CallR X (.builtin "repr") (fun xs H Q => ∃ v d, xs = [v] ∧ Dp X.K H v d ∧ d.showable = true ∧ d.hasDict = false ∧ d.depth ≤ 60 ∧ d.shown.length ≤ SZ ∧ Q (.str d.shown) H) := by
  have hu := ck.hu
  intro pins s σ H xs us Q I r h
  obtain ⟨v, d, rfl, dp, h1, h2, h3, h4, q⟩ := h
  obtain ⟨u, rfl, ru⟩ := vals1 r
  obtain ⟨as, rd⟩ := Dp.reads I d v u dp ru
  have big : ∀ a, u = .ref a → wpAny (model X.prog X.w) X.A (call (.builtin "repr") [u]) (EP X pins σ Q) X.xe s := fun a e => by
    subst e
    exact repr_of_reads' rd h1 (fun z => by rw [h2] at z; cases z) ck.gd (by omega) (fun b o e => e) (fun h' t tk k => ⟨.str d.shown, H, I.kept (t' := tk) k, ⟨_, rfl⟩, q⟩) (szl h4)
  cases dp with
  | non => cases ru; simp only [PyData.shown] at q; exact PySem.P.repr_of_none ⟨.str _, H, I.tok _, ⟨_, rfl⟩, q⟩
  | bl b => cases ru; simp only [PyData.shown] at q; exact PySem.P.repr_of_bool ⟨.str _, H, I.tok _, ⟨_, rfl⟩, q⟩
  | int i =>
    obtain ⟨t, rfl⟩ := ru
    simp only [PyData.shown] at q
    exact PySem.P.repr_of_int (by simpa [PyData.showable] using h1) ⟨.str _, H, I.tok _, ⟨_, rfl⟩, q⟩
  | str x =>
    obtain ⟨t, rfl⟩ := ru
    simp only [PyData.shown] at q h4
    exact PySem.P.repr_of_str ⟨.str _, H, I.tok _, ⟨_, rfl⟩, q⟩ (szl h4)
  | lst _ _ => exact big _ ru
  | tup _ _ => exact big _ ru
theorem b1_repr (ck : Ck X) : CallR X (.builtin "repr") (rWs X.K ca (b1W .repr)) := by
  refine b1_of (by decide) (by decide) (call_reprD ck) fun vs xs y η H Q S sr r e q => ?_
  unfold b1D at e
  split at e <;> first
    | (obtain ⟨v, rfl, rv⟩ := one_of r
       obtain ⟨z, e1, e2⟩ := Option.map_eq_some_iff.mp e
       subst e2
       unfold reprD at e1
       obtain ⟨⟨c1, c2, c3, c4⟩, e1⟩ := ite_some e1
       subst e1
       exact ⟨_, _, rfl, Rp.dp _ _ rv, c1, c2, c3, c4, q.same sr (.d (.str _))⟩)
    | (cases e; done)
      | (rename_i hh; cases hh; done)
/-- a built-in by its name -/
def biOf (x : Str) : Option (B1 × Value) :=
  if x = "len" then some (.len, .builtin "len") else if x = "tuple" then some (.tuple, .type "tuple") else if x = "list" then some (.list, .type "list") else
  if x = "int" then some (.int, .type "int") else if x = "abs" then some (.abs, .builtin "abs") else if x = "str" then some (.str, .type "str") else
  if x = "repr" then some (.repr, .builtin "repr") else if x = "ord" then some (.ord, .builtin "ord") else if x = "all" then some (.all, .builtin "all") else
  if x = "any" then some (.any, .builtin "any") else if x = "sum" then some (.sum, .builtin "sum") else if x = "min" then some (.min, .builtin "min") else
  if x = "max" then some (.max, .builtin "max") else none
theorem tyX_of {K : PySem.W.Frag} {η : Zs} {H : Hp} {v : V} {d : D} (r : Rp K η H v d) : TyX K H v (.type (tyName d)) := by
  cases r with
  | non => exact .base .non
  | bl b => exact .base (.bl b)
  | int i => exact .base (.int i)
  | str x => exact .base (.str x)
  | lst a b =>
    rcases a with ⟨q | ⟨o, q⟩, _⟩ | q
    · exact .base (.lst q)
    · exact .base (.frz q)
    · rcases q with (q | ⟨_, q⟩) | ⟨o, its, n, hk, hc, _⟩
      · cases q
      · cases q
      · exact .kList hk hc
  | tup a b =>
    rcases a with ⟨q, _⟩ | q
    · exact .base (.tup q)
    · rcases q with (q | ⟨_, q⟩) | ⟨o, its, n, hk, hc, _⟩
      · cases q
      · cases q
      · exact .kTuple hk hc
def rIsD (K : PySem.W.Frag) (ca : Nat → Addr) (T : String) : List V → Hp → VK → Prop := fun xs H Q => ∃ x, xs = [x, .ty T] ∧ ∃ η S w, SR K ca η H S ∧ RW K η H x w ∧ post (b1W (.isI T) [w] S) (qW K ca η H Q)
theorem isi_ok {T : String} : CallR X (.builtin "isinstance") (rIsD X.K ca T) := by
  refine CallR.of call_isi fun xs H Q h => ?_
  obtain ⟨x, rfl, η, S, w, sr, r, h⟩ := h
  rw [b1_only (by intro z; cases z) (by intro z; cases z)] at h
  cases r with
  | r e => exact h.elim
  | @d _ dd rv =>
    have h : post (((isI T dd).map PyData.bool).map fun y => Out.ok (W.d y) S) (qW X.K ca η H Q) := h
    obtain ⟨y, e, q⟩ := post_map _ _ _ h
    obtain ⟨b, e1, e2⟩ := Option.map_eq_some_iff.mp e
    subst e2
    exact ⟨x, .ty T, _, .type T, b, rfl, .ty T, tyX_of rv, kit_ty e1, qW.same q sr (.d (.bl _))⟩
end
end MP

/-! Methods, stores by subscripts, what is walked. -/
namespace MP
open PySem L2 PySem.Spec PyProof.Rows
section
variable {X : Cx} {ca : Nat → Addr}
/-! ### append, setdefault -/
def rMe (K : PySem.W.Frag) (ca : Nat → Addr) (m : Me) : V → List V → Hp → VK → Prop := fun x xs H Q => ∃ η S w ws, SR K ca η H S ∧ RW K η H x w ∧ RWs K η H xs ws ∧ post (meW m w ws S) (qW K ca η H Q)
theorem MtR.of {id : String} {r r' : V → List V → Hp → VK → Prop} (h : MtM X id r) (k : ∀ x xs H Q, r' x xs H Q → r x xs H Q) : MtR X id r' := fun pins s σ H x xs v us Q I rx rs q => h pins s σ H x xs v us Q I rx rs (k x xs H Q q)
theorem me_append : MtR X "list.append" (rMe X.K ca .append) := by
  refine MtR.of mt_append fun x xs H Q h => ?_
  obtain ⟨η, S, w, ws, sr, r, rs, h⟩ := h
  cases r with
  | d _ => exact h.elim
  | @r i a ea => cases rs with
    | nil => exact h.elim
    | @cons v1 _ _ _ r1 t => cases t with
      | cons _ _ => exact h.elim
      | nil =>
        change post (match S[i]? with
          | some (.lst xs) => if xs.length < SZ then some (.ok (W.d .none) (S.set i (.lst (xs ++ [_])))) else none
          | _ => none) _ at h
        split at h
        · rename_i ys es
          obtain ⟨vs, hv, kr⟩ := sr.at ea es
          split at h
          · rename_i hz
            refine ⟨_, vs, _, rfl, rfl, hv, szl' (by rw [kr.length]; exact hz), ?_⟩
            have g := grow_set (o := .lst (vs ++ [v1])) sr ea
            exact h _ _ η g (sr.set ea ⟨_, upd_same, (kr.grow g).append (.cons (r1.grow g) .nil)⟩) (.d .non)
          · exact h.elim
        · exact h.elim

/-! ### o[i] = v -/
def qU (K : PySem.W.Frag) (ca : Nat → Addr) (η : Zs) (H : Hp) (Q : Hp → Prop) : Unit → Sto → Prop := fun _ S' => ∀ H' η', Grow η H η' H' → SR K ca η' H' S' → Q H'
def rSetW (K : PySem.W.Frag) (ca : Nat → Addr) : V → V → V → Hp → (Hp → Prop) → Prop := fun o i v H Q => ∃ η S wo wi wv, SR K ca η H S ∧ RW K η H o wo ∧ RW K η H i wi ∧ RW K η H v wv ∧ post (setW wo wi wv S) (qU K ca η H Q)
theorem set_ok (ck : Ck X) : PSet X (rSetW X.K ca) := by
  have hu := ck.hu
  intro pins s σ H o i v ov iv u Q I ro ri rv h
  obtain ⟨η, S, wo, wi, wv, sr, r1, r2, r3, h⟩ := h
  cases r1 with
  | d _ => exact h.elim
  | @r n a ea => cases r2 with
    | r _ => exact h.elim
    | @d _ k r2 =>
      change post (match S[n]? with
        | some (.lst xs) => match k with
          | .int k => match ixN xs.length k with
            | some j => some (.ok () (S.set n (.lst (xs.set j wv))))
            | none => none
          | _ => none
        | some (.dk kvs) => match keyD k with
          | some k => if kvs.length < SZ then some (.ok () (S.set n (.dk (put kvs k wv)))) else none
          | none => none
        | _ => none) _ at h
      split at h
      · rename_i xs es
        obtain ⟨vs, hv, kr⟩ := sr.at ea es
        cases r2 with
        | int k =>
          have h : post (match ixN xs.length k with
            | some j => some (Out.ok () (List.set S n (O.lst (xs.set j wv))))
            | none => none) (qU X.K ca η H Q) := h
          split at h
          · rename_i j ej
            refine set_list pins s σ H _ _ v ov iv u Q I ro ri rv ⟨a, vs, _, j, rfl, rfl, hv, by rw [kr.length]; exact ej, ?_⟩
            have g := grow_set (o := .lst (vs.set j v)) sr ea
            exact h _ η g (sr.set ea ⟨_, upd_same, RWs.set (r3.grow g) j (kr.grow g)⟩)
          · exact h.elim
        | _ => exact h.elim
      · rename_i kvs es
        obtain ⟨vs, hv, kr⟩ := sr.at ea es
        split at h
        · rename_i k' ek
          split at h
          · rename_i hz
            have ex := keyD_rel r2 ek
            subst ex
            cases ro
            have g := grow_set (o := .dK (putK vs k' v)) sr ea
            refine d_setItem (by omega) I (DPut.k hv (szl' (by rw [kr.length]; exact hz))) ri rv fun s4 I4 => ⟨_, I4, h _ η g (sr.set ea ⟨_, upd_same, KR.put (r3.grow g) (kr.grow g)⟩)⟩
          · exact h.elim
        · exact h.elim
      · exact h.elim

/-! ### what is walked -/
/-- J yields these data, one a turn, whatever has grown meanwhile -/
def Yields (K : PySem.W.Frag) (ca : Nat → Addr) (η : Zs) (H : Hp) (J : It) (ds : List D) : Prop :=
  ∀ η2 H2 S2, Gro η H η2 H2 → SR K ca η2 H2 S2 → ∀ i, (ds.length ≤ i → J.stop i H2) ∧ (i < ds.length → J.go i H2 ∧ ∀ x H3, J.yld i H2 x H3 → ∃ d, ds[i]? = some d ∧ Grow η2 H2 η2 H3 ∧ SR K ca η2 H3 S2 ∧ Rp K η2 H3 x d)
section
variable {K : PySem.W.Frag} {η : Zs} {H : Hp}
theorem yl_list {a : Addr} {vs : List V} {ds : List D} (h : LstAt K η H a vs) (r : RpAll K η H vs ds) : Yields K ca η H (Itl K a) ds := by
  intro η2 H2 S2 g sr i
  have h2 := h.gro g
  have r2 := RpAll.gro g _ _ r
  refine ⟨fun hi => ⟨vs, h2.sq, by rw [r.length]; exact hi⟩, fun hi => ?_⟩
  obtain ⟨v, ev, rv⟩ := r2.get (List.getElem?_eq_getElem hi)
  refine ⟨⟨vs, v, h2.sq, ev⟩, fun x H3 y => ?_⟩
  obtain ⟨e1, e2⟩ := y
  subst e1
  have ex : x = v := Option.some.inj ((e2 vs h2.sq).symm.trans ev)
  subst ex
  exact ⟨_, List.getElem?_eq_getElem hi, Grow.refl _ _, sr, rv⟩
theorem yl_tup {a : Addr} {vs : List V} {ds : List D} (h : TupAt K η H a vs) (r : RpAll K η H vs ds) : Yields K ca η H (Itt K a) ds := by
  intro η2 H2 S2 g sr i
  have h2 := h.gro g
  have r2 := RpAll.gro g _ _ r
  refine ⟨fun hi => ⟨vs, h2.sq, by rw [r.length]; exact hi⟩, fun hi => ?_⟩
  obtain ⟨v, ev, rv⟩ := r2.get (List.getElem?_eq_getElem hi)
  refine ⟨⟨vs, v, h2.sq, ev⟩, fun x H3 y => ?_⟩
  obtain ⟨e1, e2⟩ := y
  subst e1
  have ex : x = v := Option.some.inj ((e2 vs h2.sq).symm.trans ev)
  subst ex
  exact ⟨_, List.getElem?_eq_getElem hi, Grow.refl _ _, sr, rv⟩
theorem yl_str {z : Str} : Yields K ca η H (Its z) (z.cps.toList.map fun c => .str ⟨#[c]⟩) := by
  intro η2 H2 S2 g sr i
  have hl : (z.cps.toList.map fun c => (PyData.str ⟨#[c]⟩ : D)).length = z.cps.size := by simp
  refine ⟨fun hi => by rw [hl] at hi; exact hi, fun hi => ?_⟩
  rw [hl] at hi
  refine ⟨hi, fun x H3 y => ?_⟩
  obtain ⟨e1, c, e2, e3⟩ := y
  subst e1; subst e3
  refine ⟨.str ⟨#[c]⟩, ?_, Grow.refl _ _, sr, .str _⟩
  rw [List.getElem?_map, Array.getElem?_toList, e2]
  rfl
theorem yl_rng {lo : Int} {n : Nat} : Yields K ca η H (Itr lo n) ((List.range n).map fun (i : Nat) => .int (lo + (i : Int))) := by
  intro η2 H2 S2 g sr i
  have hl : ((List.range n).map fun (i : Nat) => (PyData.int (lo + (i : Int)) : D)).length = n := by simp
  rw [hl]
  refine ⟨fun hi => hi, fun hi => ⟨hi, fun x H3 y => ?_⟩⟩
  obtain ⟨e1, e2⟩ := y
  subst e1; subst e2
  refine ⟨.int (lo + (i : Int)), ?_, Grow.refl _ _, sr, .int _⟩
  rw [List.getElem?_map, List.getElem?_range hi]
  rfl
theorem enumD_length : ∀ (ds : List D) (n : Nat), (enumD n ds).length = ds.length
  | [], _ => rfl
  | _ :: ds, n => by unfold enumD; rw [List.length_cons, List.length_cons, enumD_length ds]
theorem enumD_get : ∀ (ds : List D) (n i : Nat) (d : D), ds[i]? = some d → (enumD n ds)[i]? = some (.tuple [.int ((n + i : Nat) : Int), d])
  | [], _, _, _, e => by simp at e
  | x :: ds, n, 0, d, e => by
    simp at e; subst e
    unfold enumD
    simp
  | x :: ds, n, i + 1, d, e => by
    unfold enumD
    have q := enumD_get ds (n + 1) i d (by simpa using e)
    rw [List.getElem?_cons_succ, q]
    have e2 : n + 1 + i = n + (i + 1) := by omega
    rw [e2]
theorem pair_new {η2 : Zs} {H2 : Hp} {S2 : Sto} (sr : SR K ca η2 H2 S2) {T : Addr} {v w : V} {d e : D} (hT : H2 T = none) (r1 : Rp K η2 H2 v d) (r2 : Rp K η2 H2 w e) :
    Grow η2 H2 η2 (upd H2 T (.tup [v, w])) ∧ SR K ca η2 (upd H2 T (.tup [v, w])) S2 ∧ Rp K η2 (upd H2 T (.tup [v, w])) (.ref T) (.tuple [d, e]) := by
  have g := grow_new (o := .tup [v, w]) sr hT
  exact ⟨g, sr.new hT, .tup (.inl ⟨upd_same, sr.fresh hT⟩) (.cons (Rp.grow g _ _ r1) (.cons (Rp.grow g _ _ r2) .nil))⟩
theorem yl_enum {a : Addr} {vs : List V} {ds : List D} (h : LstAt K η H a vs) (r : RpAll K η H vs ds) : Yields K ca η H (Ite K a) (enumD 0 ds) := by
  intro η2 H2 S2 g sr i
  have h2 := h.gro g
  have r2 := RpAll.gro g _ _ r
  rw [enumD_length]
  refine ⟨fun hi => ⟨vs, h2.sq, by rw [r.length]; exact hi⟩, fun hi => ?_⟩
  obtain ⟨v, ev, rv⟩ := r2.get (List.getElem?_eq_getElem hi)
  refine ⟨⟨vs, v, h2.sq, ev⟩, fun x H3 y => ?_⟩
  obtain ⟨T, x', e0, hT, e1, e2⟩ := y
  subst e0; subst e1
  have ex : x' = v := Option.some.inj ((e2 vs h2.sq).symm.trans ev)
  subst ex
  obtain ⟨p1, p2, p3⟩ := pair_new sr hT (Rp.int (i : Nat)) rv
  refine ⟨_, enumD_get ds 0 i _ (List.getElem?_eq_getElem hi), p1, p2, ?_⟩
  rw [Nat.zero_add]
  exact p3
/-- the tuple at a, each item in a new pair -/
def IteT (K : PySem.W.Frag) (a : Addr) : It :=
  ⟨fun i H => ∃ (xs : List V) (x : V), SqT K H a xs ∧ xs[i]? = some x, fun i H v H' => ∃ T x, v = .ref T ∧ H T = none ∧ H' = upd H T (.tup [.int (i : Nat), x]) ∧ ∀ xs, SqT K H a xs → xs[i]? = some x, fun i H => ∃ xs : List V, SqT K H a xs ∧ xs.length ≤ i⟩
theorem yl_enumT {a : Addr} {vs : List V} {ds : List D} (h : TupAt K η H a vs) (r : RpAll K η H vs ds) : Yields K ca η H (IteT K a) (enumD 0 ds) := by
  intro η2 H2 S2 g sr i
  have h2 := h.gro g
  have r2 := RpAll.gro g _ _ r
  rw [enumD_length]
  refine ⟨fun hi => ⟨vs, h2.sq, by rw [r.length]; exact hi⟩, fun hi => ?_⟩
  obtain ⟨v, ev, rv⟩ := r2.get (List.getElem?_eq_getElem hi)
  refine ⟨⟨vs, v, h2.sq, ev⟩, fun x H3 y => ?_⟩
  obtain ⟨T, x', e0, hT, e1, e2⟩ := y
  subst e0; subst e1
  have ex : x' = v := Option.some.inj ((e2 vs h2.sq).symm.trans ev)
  subst ex
  obtain ⟨p1, p2, p3⟩ := pair_new sr hT (Rp.int (i : Nat)) rv
  refine ⟨_, enumD_get ds 0 i _ (List.getElem?_eq_getElem hi), p1, p2, ?_⟩
  rw [Nat.zero_add]
  exact p3
theorem zipD_length : ∀ (ds es : List D), (zipD ds es).length = min ds.length es.length
  | [], _ => by simp [zipD]
  | _ :: _, [] => by simp [zipD]
  | _ :: ds, _ :: es => by
    unfold zipD
    rw [List.length_cons, List.length_cons, List.length_cons, zipD_length ds es]; omega
theorem zipD_get : ∀ (ds es : List D) (i : Nat) (d e : D), ds[i]? = some d → es[i]? = some e → (zipD ds es)[i]? = some (.tuple [d, e])
  | [], _, _, _, _, h, _ => by simp at h
  | _ :: _, [], _, _, _, _, h => by simp at h
  | x :: ds, y :: es, 0, d, e, h1, h2 => by
    simp at h1 h2; subst h1; subst h2
    unfold zipD; simp
  | x :: ds, y :: es, i + 1, d, e, h1, h2 => by
    unfold zipD
    rw [List.getElem?_cons_succ]
    exact zipD_get ds es i d e (by simpa using h1) (by simpa using h2)
theorem yl_zip {a b : Addr} {vs ws : List V} {ds es : List D} (h : LstAt K η H a vs) (h' : LstAt K η H b ws) (r : RpAll K η H vs ds) (r' : RpAll K η H ws es) : Yields K ca η H (Itz K a b) (zipD ds es) := by
  intro η2 H2 S2 g sr i
  have h2 := h.gro g
  have h2' := h'.gro g
  have r2 := RpAll.gro g _ _ r
  have r2' := RpAll.gro g _ _ r'
  rw [zipD_length]
  refine ⟨fun hi => ⟨vs, ws, h2.sq, h2'.sq, by rw [r.length, r'.length]; omega⟩, fun hi => ?_⟩
  have hi1 : i < ds.length := by omega
  have hi2 : i < es.length := by omega
  obtain ⟨v, ev, rv⟩ := r2.get (List.getElem?_eq_getElem hi1)
  obtain ⟨w, ew, rw'⟩ := r2'.get (List.getElem?_eq_getElem hi2)
  refine ⟨⟨vs, ws, v, w, h2.sq, h2'.sq, ev, ew⟩, fun x H3 y => ?_⟩
  obtain ⟨T, x', y', e0, hT, e1, e2, e3⟩ := y
  subst e0; subst e1
  have ex : x' = v := Option.some.inj ((e2 vs h2.sq).symm.trans ev)
  have ey : y' = w := Option.some.inj ((e3 ws h2'.sq).symm.trans ew)
  subst ex; subst ey
  obtain ⟨p1, p2, p3⟩ := pair_new sr hT rv rw'
  exact ⟨_, zipD_get ds es i _ _ (List.getElem?_eq_getElem hi1) (List.getElem?_eq_getElem hi2), p1, p2, p3⟩
theorem yl_zipT {a b : Addr} {vs ws : List V} {ds es : List D} (h : TupAt K η H a vs) (h' : TupAt K η H b ws) (r : RpAll K η H vs ds) (r' : RpAll K η H ws es) : Yields K ca η H (RZ.ItzT K a b) (zipD ds es) := by
  intro η2 H2 S2 g sr i
  have h2 := h.gro g
  have h2' := h'.gro g
  have r2 := RpAll.gro g _ _ r
  have r2' := RpAll.gro g _ _ r'
  rw [zipD_length]
  refine ⟨fun hi => ⟨vs, ws, h2.sq, h2'.sq, by rw [r.length, r'.length]; omega⟩, fun hi => ?_⟩
  have hi1 : i < ds.length := by omega
  have hi2 : i < es.length := by omega
  obtain ⟨v, ev, rv⟩ := r2.get (List.getElem?_eq_getElem hi1)
  obtain ⟨w, ew, rw'⟩ := r2'.get (List.getElem?_eq_getElem hi2)
  refine ⟨⟨vs, ws, v, w, h2.sq, h2'.sq, ev, ew⟩, fun x H3 y => ?_⟩
  obtain ⟨T, x', y', e0, hT, e1, e2, e3⟩ := y
  subst e0; subst e1
  have ex : x' = v := Option.some.inj ((e2 vs h2.sq).symm.trans ev)
  have ey : y' = w := Option.some.inj ((e3 ws h2'.sq).symm.trans ew)
  subst ex; subst ey
  obtain ⟨p1, p2, p3⟩ := pair_new sr hT rv rw'
  exact ⟨_, zipD_get ds es i _ _ (List.getElem?_eq_getElem hi1) (List.getElem?_eq_getElem hi2), p1, p2, p3⟩
end

/-! ### enumerate(tuple) -/
open AutoSeq1 (wpAny_loadPart') in
theorem meets_enum1 {v : Value} {o : Obj} {G : Heap → Prop} (B : Begins v o G) :
    Meets (Builtin.«enumerate.__new__» ⟨[.type "enumerate", v], []⟩) (fun _ R s => G s.heap ∧
      R (.ok (.ret (.ref (s.heap.push o).objs.size))) { s with heap := (s.heap.push o).push ⟨.type "enumerate", none, .fields #[.none, .bool false, .ref s.heap.objs.size, rawInt 0, .none, .none], #[]⟩ }) :=
  .of_wp fun prog w A R s h => by
    obtain ⟨hp, g, d, tk, os⟩ := s
    obtain ⟨h1, h⟩ := h
    have z0 := sub_enumerate
    have z1 : ∀ {A2 : Around} {E : Value → Shared → Prop} {Q : Value → Shared → Prop}, Q (.ref hp.objs.size) ⟨hp.push o, g, d, tk, os⟩ → wpAny (model prog w) A2 (pyIter v) Q E ⟨hp, g, d, tk, os⟩ :=
      fun q => B.iter prog w _ _ ⟨hp, g, d, tk, os⟩ _ h1 q
    wp_walk using z1
    refine wpAny_stack_any fun st => wpAny_pure ?_
    split
    · rename_i c _ _ _ _ _
      cases (c == Value.type "enumerate") <;> (wp_walk using z1; exact ⟨_, rfl, h⟩)
    · wp_walk using z1
      exact ⟨_, rfl, h⟩
theorem enum1 {prog : Program} {w : World} {A : Around} {E : Value → Shared → Prop} {s : Shared} {v : Value} {o : Obj} {G : Heap → Prop} {Q : Value → Shared → Prop} (B : Begins v o G) (h1 : G s.heap)
    (h : ∀ h', IsEnum h' (s.heap.objs.size + 1) s.heap.objs.size 0 .none → h'.get? s.heap.objs.size = some o → (∀ b u, s.heap.get? b = some u → h'.get? b = some u) → Q (.ref (s.heap.objs.size + 1)) { s with heap := h' }) :
    wpAny (model prog w) A (call (.type "enumerate") [v]) Q E s := by
  refine callType_new F.called_enumerate (by decide) (F.typeCall_enumerate_1 _) (F.newCall_enumerate_1 _) (fun obj => F.args_object_init_2 obj _) F.entry_enumerate_new (meets_enum1 B) ⟨h1, ?_⟩
  have hz : (s.heap.push o).objs.size = s.heap.objs.size + 1 := Heap.size_push ..
  have he : IsEnum ((s.heap.push o).push ⟨.type "enumerate", none, .fields #[.none, .bool false, .ref s.heap.objs.size, rawInt 0, .none, .none], #[]⟩) (s.heap.objs.size + 1) s.heap.objs.size 0 .none := by
    rw [← hz]
    exact Heap.get?_push_size (s.heap.push o) rfl
  show _ ∧ _
  rw [hz]
  exact ⟨⟨_, he, rfl⟩, h _ he (Heap.get?_push_of_some _ (Heap.get?_push_size _ B.free)) fun b u e => Heap.get?_push_of_some _ (Heap.get?_push_of_some _ e)⟩
theorem turn_enumT {P : Program} {w : World} {K : PySem.W.Frag} {elts : List Expr} {kk : Nat} {tpos : Pos} (a e it : Addr) :
    Turn P w K (.Tuple elts kk tpos) (IteT K a) [e, it] e (fun i h => (∃ old, IsEnum h e it ((i : Nat) : Int) old) ∧ h.IsTupleIter it a i ∧ e ≠ it) where
  mem := by simp
  obj := fun i h st b hb => by
    obtain ⟨⟨old, he⟩, ⟨o, ho, hc, hd⟩, _⟩ := st
    rcases List.mem_cons.mp hb with z | hb
    · subst z; exact ⟨_, he, fun v q => nomatch q⟩
    · rw [List.mem_singleton.mp hb]; exact ⟨o, ho, fun v q => by rw [hd] at q; cases q⟩
  keep := fun i h h' st k => by
    obtain ⟨⟨old, he⟩, hi, hne⟩ := st
    exact ⟨⟨old, k e (by simp) _ he⟩, hi.at fun o q => k it (by simp) o q, hne⟩
  item := by
    intro X hP hw hK hc i pins s σ H E I hf st hg
    subst hP; subst hw; subst hK
    obtain ⟨⟨old, he⟩, hit, hne⟩ := st
    obtain ⟨xs, x, hq, hx⟩ := hg
    obtain ⟨its, rv, p, hz⟩ := I.tuple hq
    obtain ⟨u, hu, ru⟩ := rv.get hx
    have hel : e < s.heap.objs.size := Heap.lt_size he
    have hil : it < s.heap.objs.size := by obtain ⟨_, q, _⟩ := hit; exact Heap.lt_size q
    have p : s.heap.IsTuple a its.toArray := p
    have hait : a ≠ it := by
      intro z
      subst z
      obtain ⟨o1, q1, c1, _⟩ := p
      obtain ⟨o2, q2, c2, _⟩ := hit
      rw [q1] at q2; cases q2
      rw [c1] at c2
      exact absurd c2 (by decide +kernel)
    have hae : e ≠ a := by
      intro z
      subst z
      obtain ⟨o1, q1, c1, _⟩ := p
      have he : s.heap.get? e = some ⟨.type "enumerate", none, _, #[]⟩ := he
      rw [q1] at he; cases he
      exact absurd c1 (by show Value.type "enumerate" ≠ .type "tuple"; decide +kernel)
    refine wpAny_pyNext_enum_itemD (Draws.tuple (A := X.A.in1) (I.ok.hd hc) it a hait its.toArray) he ⟨hit, p⟩ (by obtain ⟨hl, _⟩ := List.getElem?_eq_some_iff.mp hu; simpa using hl) hne (by simp [hne, hae]) fun x0 h' tk hx0 ho hit' hT hsz hk => ?_
    have ex0 : x0 = u := by
      have q : its[i]? = some x0 := by simpa using hx0
      exact Option.some.inj (q.symm.trans hu)
    subst ex0
    refine ⟨_, rfl, wpAny_letOwnedTupleGo_enum (s := { s with heap := h', toks := tk + 1 }) ho fun h2 he' sb => ?_⟩
    have hT2 : h2.get? s.heap.objs.size = some { cls := .type "tuple", data := .seq #[.int i tk, x0] } := (sb.2 _ (Nat.ne_of_gt hel)).trans hT
    have new : ObjOk X.prog X.w (upd H s.heap.objs.size (.tup [.int (i : Nat), x])) h2 s.heap.objs.size (.tup [.int (i : Nat), x]) :=
      ⟨by show 2 ≤ sizeLine; decide, [.int i tk, x0], .cons ⟨_, rfl⟩ (.cons ru .nil), ⟨_, hT2, rfl, _, rfl⟩⟩
    have I1 : Inv X pins σ (upd H s.heap.objs.size (.tup [.int (i : Nat), x])) { s with heap := h2, toks := tk + 1 } :=
      I.turnedNew (ch := [e, it]) (fun b ob hb q => (sb.2 b (fun z => hb (by simp [z]))).trans (hk b ob (fun z => hb (by simp [z])) (fun z => hb (by simp [z])) q)) hf (Nat.le_refl _) new
    refine ⟨.ref s.heap.objs.size, _, I1, rfl, ⟨_, x, rfl, I.hok.fresh (Nat.le_refl _), rfl, fun ys hy => by rw [I.tuple_inj hy hq]; exact hx⟩, ⟨⟨x0, ?_⟩, hit'.1.at fun o q => (sb.2 it (Ne.symm hne)).trans q, hne⟩, fun b hb => ?_⟩
    · rw [show ((i + 1 : Nat) : Int) = (i : Int) + 1 by omega]; exact he'
    · have hb' : b < s.heap.objs.size := by
        rcases List.mem_cons.mp hb with z | hb
        · rw [z]; exact hel
        · rw [List.mem_singleton.mp hb]; exact hil
      rw [upd_ne (Nat.ne_of_lt hb')]
      exact (hf b hb).1
  done := by
    intro X hP hw hK hc i pins s σ H E I hf st hg
    subst hP; subst hw; subst hK
    obtain ⟨⟨old, he⟩, hit, hne⟩ := st
    obtain ⟨xs, hq, hx⟩ := hg
    obtain ⟨its, rv, p, hz⟩ := I.tuple hq
    obtain ⟨f0, f1, f2, f3, f4, f5⟩ := hf it (by simp)
    have hl := rv.length
    have p : s.heap.IsTuple a its.toArray := p
    have hT : s.TypeIs (.ref e) "enumerate" := ⟨_, he, rfl⟩
    unfold pyNext
    refine wpAny_bind (wpAny_attempt (wpAny_callSpecial?_slot (name := Str.ofString "__next__") hT F.slot_enumerate_next
      (wpAny_call_entry F.slot_enumerate_next hT F.entry_enumerate_next ?_ (F.args_enumerate_next_1 _))))
    show wpAny _ _ (field (.ref e) 2 >>= _) _ _ _
    refine wpAny_bind (wpAny_field he rfl (x := .ref it) rfl ?_)
    refine wpAny_bind (wpAny_nextOf_tuple_end (I.ok.hd hc) hit p (by simp; omega) fun h' x' he2 hx2 => ?_)
    obtain ⟨o, ho, hco⟩ := hx2
    refine wpAny_bind (wpAny_isInstance (T := "StopIteration") (b := true) ⟨o, ho, hco⟩ isSubtype_stop ?_)
    exact wpAny_pure ⟨rfl, I.turned (t' := s.toks) (fun b o hb q => he2 b o hb q) f0 f1 f3 f4 f5⟩
  self := fun A i s Q E st h => let ⟨⟨_, he⟩, _⟩ := st; wpAny_pyIter_enum he h
def iEnumT (K : PySem.W.Frag) (ta : TA) : TI := fun σ H R => ta σ H fun vs H1 => ∃ a xs, vs = [.ref a] ∧ SqT K H1 a xs ∧ R (IteT K a) H1
theorem pi_enumT {e : Expr} {ta : TA} {p pos tpos : Pos} {elts : List Expr} {kk : Nat} (hg : Gl X "enumerate") (hm : X.mg "enumerate" = none) (ha : PA X [e] ta) (hs : starEach [e] X.env = [(false, eval e X.env)]) :
    PI X (.Tuple elts kk tpos) (.Call (.Name "enumerate" p) [e] [] pos) (iEnumT X.K ta) := by
  refine ⟨fun pins s σ H R I h => ?_⟩
  refine Call_ (ld_blt I hg hm boot_enumerate (PyProof.Rows.callWith_type1 (thn (ha.run pos pins s σ H _ I h) fun us s1 ⟨vs, H1, I1, r1, q1⟩ => ?_) hs rfl))
  obtain ⟨a, xs, ex, hq, q⟩ := q1
  subst ex
  obtain ⟨u, rfl, ru⟩ := vals1 r1
  cases ru
  obtain ⟨its, rv, p', hz⟩ := I1.tuple hq
  refine enum1 (begins_tuple a its.toArray) p' fun h' he hit hk => wpAny_pyIter_enum he ?_
  have I2 : Inv X pins σ H1 { s1 with heap := h' } := I1.kept (t' := s1.toks) hk
  refine ⟨s1.heap.objs.size + 1, [s1.heap.objs.size + 1, s1.heap.objs.size], _, _, H1, rfl, I2, turn_enumT a (s1.heap.objs.size + 1) s1.heap.objs.size, ⟨⟨.none, he⟩, ⟨_, hit, rfl, rfl⟩, Nat.succ_ne_self _⟩, fun b hb => ?_, q⟩
  have hle : s1.heap.objs.size ≤ b := by
    rcases List.mem_cons.mp hb with z | hb
    · rw [z]; exact Nat.le_add_right _ _
    · rw [List.mem_singleton.mp hb]; exact Nat.le_refl _
  exact I1.fpOk hle (I1.hok.fresh hle)
end
end MP

/-! Expressions: the evaluator's answer is what the model reckons. -/
namespace MP
open PySem L2 PySem.Spec PyProof.Rows
section
variable (K : PySem.W.Frag) (ca : Nat → Addr)
def tE (m : Sl → M W) : TE := fun σ H Q => ∃ ρ S η, ER K η H σ ρ ∧ SR K ca η H S ∧ post (m ρ S) (qW K ca η H Q)
def tT (m : Sl → M Bool) : TT := fun σ H Q => ∃ ρ S η, ER K η H σ ρ ∧ SR K ca η H S ∧ post (m ρ S) (qB K ca η H Q)
def qA (η : Zs) (H : Hp) (Q : List V → Hp → Prop) : List W → Sto → Prop := fun ws S' => ∀ vs H' η', Grow η H η' H' → SR K ca η' H' S' → RWs K η' H' vs ws → Q vs H'
def tA (m : Sl → M (List W)) : TA := fun σ H Q => ∃ ρ S η, ER K η H σ ρ ∧ SR K ca η H S ∧ post (m ρ S) (qA K ca η H Q)
end
section
variable {X : Cx} {ca : Nat → Addr}
theorem PE.of {e : Expr} {t t' : TE} (h : PE X e t) (k : ∀ σ H Q, t' σ H Q → t σ H Q) : PE X e t' := ⟨fun pins s σ H Q I q => h.run pins s σ H Q I (k σ H Q q)⟩
theorem PT.of {e : Expr} {t t' : TT} (h : PT X e t) (k : ∀ σ H Q, t' σ H Q → t σ H Q) : PT X e t' := ⟨fun pins s σ H Q I q => h.run pins s σ H Q I (k σ H Q q)⟩
theorem PW.of {e : Expr} {t t' : TT} (h : PW X e t) (k : ∀ σ H Q, t' σ H Q → t σ H Q) : PW X e t' := ⟨fun wh pins s σ H Q I q => h.run wh pins s σ H Q I (k σ H Q q)⟩
theorem PA.of {e : List Expr} {t t' : TA} (h : PA X e t) (k : ∀ σ H Q, t' σ H Q → t σ H Q) : PA X e t' := ⟨fun pos pins s σ H Q I q => h.run pos pins s σ H Q I (k σ H Q q)⟩
theorem PE.or {e : Expr} {t t' : TE} (h : PE X e t) (h' : PE X e t') : PE X e (fun σ H Q => t σ H Q ∨ t' σ H Q) :=
  ⟨fun pins s σ H Q I q => q.elim (h.run pins s σ H Q I) (h'.run pins s σ H Q I)⟩
variable {F : FT}
/-! ### sequences -/
section
variable {K : PySem.W.Frag} {η : Zs} {H : Hp} {σ : Sg} {ρ : Sl} {S : Sto}
/-- from the evaluator's first step to the reading's -/
theorem tE_seq {α : Type} {m : Sl → M W} {f : W → M α} {q : α → Sto → Prop} {R : V → Hp → Prop} (er : ER K η H σ ρ) (sr : SR K ca η H S) (h : post (bnd (m ρ) f S) q)
    (k : ∀ w S1 v H1 η1, Grow η H η1 H1 → ER K η1 H1 σ ρ → SR K ca η1 H1 S1 → RW K η1 H1 v w → post (f w S1) q → R v H1) : tE K ca m σ H R := by
  rw [post_bnd] at h
  exact ⟨ρ, S, η, er, sr, h.imp fun w S1 q1 v H1 η1 g sr1 r => k w S1 v H1 η1 g (er.grow g) sr1 r q1⟩
theorem tA_seq {α : Type} {m : Sl → M (List W)} {f : List W → M α} {q : α → Sto → Prop} {R : List V → Hp → Prop} (er : ER K η H σ ρ) (sr : SR K ca η H S) (h : post (bnd (m ρ) f S) q)
    (k : ∀ w S1 v H1 η1, Grow η H η1 H1 → ER K η1 H1 σ ρ → SR K ca η1 H1 S1 → RWs K η1 H1 v w → post (f w S1) q → R v H1) : tA K ca m σ H R := by
  rw [post_bnd] at h
  exact ⟨ρ, S, η, er, sr, h.imp fun w S1 q1 v H1 η1 g sr1 r => k w S1 v H1 η1 g (er.grow g) sr1 r q1⟩
theorem tT_seq {α : Type} {m : Sl → M Bool} {f : Bool → M α} {q : α → Sto → Prop} {R : Bool → Hp → Prop} (er : ER K η H σ ρ) (sr : SR K ca η H S) (h : post (bnd (m ρ) f S) q)
    (k : ∀ b S1 H1 η1, Grow η H η1 H1 → ER K η1 H1 σ ρ → SR K ca η1 H1 S1 → post (f b S1) q → R b H1) : tT K ca m σ H R := by
  rw [post_bnd] at h
  exact ⟨ρ, S, η, er, sr, h.imp fun b S1 q1 H1 η1 g sr1 => k b S1 H1 η1 g (er.grow g) sr1 q1⟩
theorem qW.mono {η1 : Zs} {H1 : Hp} {Q : VK} {w : W} {S1 : Sto} (g : Grow η H η1 H1) (h : qW K ca η H Q w S1) : qW K ca η1 H1 Q w S1 := fun v H2 η2 g2 => h v H2 η2 (g.trans g2)
theorem qB.mono {η1 : Zs} {H1 : Hp} {Q : Bool → Hp → Prop} {b : Bool} {S1 : Sto} (g : Grow η H η1 H1) (h : qB K ca η H Q b S1) : qB K ca η1 H1 Q b S1 := fun H2 η2 g2 => h H2 η2 (g.trans g2)
theorem qA.mono {η1 : Zs} {H1 : Hp} {Q : List V → Hp → Prop} {b : List W} {S1 : Sto} (g : Grow η H η1 H1) (h : qA K ca η H Q b S1) : qA K ca η1 H1 Q b S1 := fun vs H2 η2 g2 => h vs H2 η2 (g.trans g2)
theorem bnd_assoc {α β γ : Type} (x : M α) (f : α → M β) (g : β → M γ) : bnd (bnd x f) g = bnd x fun a => bnd (f a) g := by
  funext S
  unfold bnd
  cases x S with
  | none => rfl
  | some o => cases o <;> rfl
theorem bnd_ret {α β : Type} (a : α) (f : α → M β) : bnd (ret a) f = f a := rfl
end

/-! ### the forms -/
variable {a b c : Expr} {ma mb mc : Sl → M W} {pos : Pos}
theorem e_k {d : D} {v : V} (h : PE X a (tC v)) (r : ∀ η H, Rp X.K η H v d) : PE X a (tE X.K ca fun _ => ret (.d d)) := by
  refine PE.of h fun σ H Q q => ?_
  obtain ⟨ρ, S, η, er, sr, q⟩ := q
  exact q v H η (Grow.refl _ _) sr (.d (r _ _))
theorem e_v {i : Nat} (h : PE X a (tVar i)) : PE X a (tE X.K ca fun ρ => getV ρ i) := by
  refine PE.of h fun σ H Q q => ?_
  obtain ⟨ρ, S, η, er, sr, q⟩ := q
  have q : post (getV ρ i S) (qW X.K ca η H Q) := q
  unfold getV at q
  cases e : ρ[i]? with
  | none => rw [e] at q; exact q.elim
  | some o => cases o with
    | none => rw [e] at q; exact q.elim
    | some w =>
      rw [e] at q
      obtain ⟨v, e1, r⟩ := er.2 i w e
      exact ⟨v, e1, q v H η (Grow.refl _ _) sr r⟩
theorem e_op2 {r : TE → TE → TE} {m : W → W → M W} (h : ∀ ta tb, PE X a ta → PE X b tb → PE X c (tOp (rW2 X.K ca m) ta tb)) (ha : PE X a (tE X.K ca ma)) (hb : PE X b (tE X.K ca mb)) :
    PE X c (tE X.K ca fun ρ => bnd (ma ρ) fun x => bnd (mb ρ) fun y => m x y) := by
  refine PE.of (h _ _ ha hb) fun σ H Q q => ?_
  obtain ⟨ρ, S, η, er, sr, q⟩ := q
  refine tE_seq er sr q fun w S1 v H1 η1 g er1 sr1 r1 q1 => ?_
  refine tE_seq er1 sr1 q1 fun w2 S2 v2 H2 η2 g2 er2 sr2 r2 q2 => ?_
  exact ⟨η2, S2, w, w2, sr2, r1.grow g2, r2, q2.imp fun _ _ z => z.mono (g.trans g2)⟩
theorem e_bin {op : Operator} {o : B2} (ho : opOf op = some o) (ha : PE X a (tE X.K ca ma)) (hb : PE X b (tE X.K ca mb)) : PE X (.BinOp a op b pos) (tE X.K ca fun ρ => bnd (ma ρ) fun x => bnd (mb ρ) fun y => binW o x y) :=
  e_op2 (r := fun t _ => t) (fun _ _ h1 h2 => pe_op (bin_ok ho) h1 h2) ha hb
theorem e_cmp (ck : Ck X) {op : CmpOp} {o : C2} (ho : cmpOf op = some o) (hm : behindInMarks op b = false) (ha : PE X a (tE X.K ca ma)) (hb : PE X b (tE X.K ca mb)) : PE X (.Compare a [op] [b] pos) (tE X.K ca fun ρ => bnd (ma ρ) fun x => bnd (mb ρ) fun y => cmpV o x y) :=
  e_op2 (r := fun t _ => t) (fun _ _ h1 h2 => pe_cmpR (cmp_ok ck ho) h1 h2 hm) ha hb
theorem e_neg (ha : PE X a (tE X.K ca ma)) : PE X (.UnaryOp .USub a pos) (tE X.K ca fun ρ => bnd (ma ρ) fun x => negW x) := by
  refine PE.of (pe_un (neg_ok (ca := ca)) ha) fun σ H Q q => ?_
  obtain ⟨ρ, S, η, er, sr, q⟩ := q
  refine tE_seq er sr q fun w S1 v H1 η1 g er1 sr1 r1 q1 => ?_
  exact ⟨η1, S1, w, sr1, r1, q1.imp fun _ _ z => z.mono g⟩
theorem tCh {K : PySem.W.Frag} {o1 o2 : C2} {σ : Sg} {H : Hp} {Q : VK} (q : tE K ca (fun ρ => bnd (ma ρ) fun x => bnd (mb ρ) fun y => bnd (cmpW o1 x y) fun t => if t = true then bnd (mc ρ) fun z => cmpV o2 y z else ret (.d (.bool false))) σ H Q) :
    tChain (rW2 K ca (cmpV o1)) (rW2 K ca (cmpV o2)) (tE K ca ma) (tE K ca mb) (tE K ca mc) σ H Q := by
  obtain ⟨ρ, S, η, er, sr, q⟩ := q
  refine tE_seq er sr q fun w S1 v H1 η1 g er1 sr1 r1 q1 => ?_
  refine tE_seq er1 sr1 q1 fun w2 S2 v2 H2 η2 g2 er2 sr2 r2 q2 => ?_
  refine ⟨η2, S2, w, w2, sr2, r1.grow g2, r2, ?_⟩
  unfold cmpV
  rw [post_bnd] at q2 ⊢
  refine q2.imp fun t S3 q3 => ?_
  intro v3 H3 η3 g3 sr3 r3
  have ev : v3 = .bl t := by
    cases r3 with
    | d r => cases r; rfl
  subst ev
  refine ⟨t, rfl, ?_⟩
  cases t with
  | false =>
    simp only [Bool.false_eq_true, if_false] at q3 ⊢
    exact q3 _ H3 η3 ((g.trans g2).trans g3) sr3 (.d (.bl _))
  | true =>
    simp only [if_true] at q3 ⊢
    refine tE_seq (er2.grow g3) sr3 q3 fun w4 S4 v4 H4 η4 g4 er4 sr4 r4 q4 => ?_
    exact ⟨η4, S4, w2, w4, sr4, (r2.grow g3).grow g4, r4, q4.imp fun _ _ z => z.mono (((g.trans g2).trans g3).trans g4)⟩
theorem e_chain (ck : Ck X) {op op' : CmpOp} {o1 o2 : C2} (h1 : cmpOf op = some o1) (h2 : cmpOf op' = some o2) (hm : lastMarks [op, op'] [b, c] = false) (ha : PE X a (tE X.K ca ma)) (hb : PE X b (tE X.K ca mb)) (hc : PE X c (tE X.K ca mc)) :
    PE X (.Compare a [op, op'] [b, c] pos) (tE X.K ca fun ρ => bnd (ma ρ) fun x => bnd (mb ρ) fun y => bnd (cmpW o1 x y) fun t => if t = true then bnd (mc ρ) fun z => cmpV o2 y z else ret (.d (.bool false))) :=
  PE.of (pe_chain (cmp_ok ck h1) (cmp_ok ck h2) ha hb hc hm) fun σ H Q q => tCh q
/-- truth, as the readings ask it -/
theorem tru_seq {K : PySem.W.Frag} {η : Zs} {H : Hp} {x : V} {w : W} {S : Sto} {α : Type} {f : Bool → M α} {q : α → Sto → Prop} (sr : SR K ca η H S) (r : RW K η H x w) (h : post (bnd (truW w) f S) q) : ∃ k, TruV K x H k ∧ post (f k S) q := by
  rw [post_bnd] at h
  have z : rTr K ca x H (fun k _ => post (f k S) q) := by
    refine ⟨η, S, w, sr, r, ?_⟩
    have e : ∀ b S', truW w S = some (.ok b S') → S' = S := fun b S' e => by
      unfold truW at e
      split at e
      · obtain ⟨c, _, e2⟩ := Option.map_eq_some_iff.mp e
        cases e2; rfl
      · split at e <;> cases e <;> rfl
    cases hh : truW w S with
    | none => rw [hh] at h; exact h.elim
    | some o => cases o with
      | ok b S' =>
        rw [hh] at h
        have := e b S' hh
        subst this
        exact fun _ _ _ _ => h
      | ex _ _ => rw [hh] at h; exact h.elim
  exact tru_K z
theorem e_not (ha : PE X a (tE X.K ca ma)) : PE X (.UnaryOp .Not a pos) (tE X.K ca fun ρ => bnd (ma ρ) fun x => bnd (truW x) fun t => ret (.d (.bool (!t)))) := by
  refine PE.of (pe_notT ha) fun σ H Q q => ?_
  obtain ⟨ρ, S, η, er, sr, q⟩ := q
  refine tE_seq er sr q fun w S1 v H1 η1 g er1 sr1 r1 q1 => ?_
  obtain ⟨k, e, q2⟩ := tru_seq sr1 r1 q1
  exact ⟨k, e, q2 _ H1 η1 g sr1 (.d (.bl _))⟩
theorem e_and {rest : List Expr} (ha : PE X a (tE X.K ca ma)) (hb : PE X (.BoolOp .And (b :: rest) pos) (tE X.K ca mb)) : PE X (.BoolOp .And (a :: b :: rest) pos) (tE X.K ca fun ρ => bnd (ma ρ) fun x => bnd (truW x) fun t => if t = true then mb ρ else ret x) := by
  refine PE.of (pe_andT ha hb) fun σ H Q q => ?_
  obtain ⟨ρ, S, η, er, sr, q⟩ := q
  refine tE_seq er sr q fun w S1 v H1 η1 g er1 sr1 r1 q1 => ?_
  obtain ⟨k, e, q2⟩ := tru_seq sr1 r1 q1
  refine ⟨k, e, ?_⟩
  cases k with
  | false =>
    simp only [Bool.false_eq_true, if_false] at q2 ⊢
    exact q2 _ H1 η1 g sr1 r1
  | true =>
    simp only [if_true] at q2 ⊢
    exact ⟨ρ, S1, η1, er1, sr1, q2.imp fun _ _ z => z.mono g⟩
theorem e_or {rest : List Expr} (ha : PE X a (tE X.K ca ma)) (hb : PE X (.BoolOp .Or (b :: rest) pos) (tE X.K ca mb)) : PE X (.BoolOp .Or (a :: b :: rest) pos) (tE X.K ca fun ρ => bnd (ma ρ) fun x => bnd (truW x) fun t => if t = true then ret x else mb ρ) := by
  refine PE.of (pe_orT ha hb) fun σ H Q q => ?_
  obtain ⟨ρ, S, η, er, sr, q⟩ := q
  refine tE_seq er sr q fun w S1 v H1 η1 g er1 sr1 r1 q1 => ?_
  obtain ⟨k, e, q2⟩ := tru_seq sr1 r1 q1
  refine ⟨k, e, ?_⟩
  cases k with
  | true =>
    simp only [if_true] at q2 ⊢
    exact q2 _ H1 η1 g sr1 r1
  | false =>
    simp only [Bool.false_eq_true, if_false] at q2 ⊢
    exact ⟨ρ, S1, η1, er1, sr1, q2.imp fun _ _ z => z.mono g⟩
/-! ### tests -/
abbrev tst (m : Sl → M W) : Sl → M Bool := fun ρ => bnd (m ρ) truW
theorem p_val (ha : PE X a (tE X.K ca ma)) (he : ∀ whole, isTrue a X.env whole = (do let v ← whole; standAt a.pos; holding [v] (truthy v))) : PT X a (tT X.K ca (tst ma)) := by
  refine PT.of (pt_truth ha he) fun σ H Q q => ?_
  obtain ⟨ρ, S, η, er, sr, q⟩ := q
  refine tE_seq er sr q fun w S1 v H1 η1 g er1 sr1 r1 q1 => ?_
  have q1' : post (bnd (truW w) ret S1) (qB X.K ca η H Q) := by
    rw [post_bnd]; exact q1
  obtain ⟨k, e, q2⟩ := tru_seq sr1 r1 q1'
  exact ⟨k, e, q2 H1 η1 g sr1⟩
theorem tst_bool {σ : Sg} {H : Hp} {K : PySem.W.Frag} {m : Sl → M W} {t : TE} {Q : Bool → Hp → Prop} (k : ∀ Q', tE K ca m σ H Q' → t σ H Q') (hm : ∀ ρ S w S', m ρ S = some (.ok w S') → ∃ b, w = .d (.bool b)) (q : tT K ca (tst m) σ H Q) : tTest t σ H Q := by
  obtain ⟨ρ, S, η, er, sr, q⟩ := q
  refine k _ ⟨ρ, S, η, er, sr, ?_⟩
  have q' : post (bnd (m ρ) truW S) (qB K ca η H Q) := q
  rw [post_bnd] at q'
  cases hh : m ρ S with
  | none => rw [hh] at q'; exact q'.elim
  | some o => cases o with
    | ex _ _ => rw [hh] at q'; exact q'.elim
    | ok w S' =>
      rw [hh] at q'
      obtain ⟨b, rfl⟩ := hm ρ S w S' hh
      intro v H1 η1 g sr1 r
      have ev : v = .bl b := by
        cases r with
        | d r => cases r; rfl
      subst ev
      exact ⟨b, rfl, q' H1 η1 g sr1⟩
theorem ok_bnd {α β : Type} {x : M α} {f : α → M β} {S S' : Sto} {b : β} (h : bnd x f S = some (.ok b S')) : ∃ a S1, x S = some (.ok a S1) ∧ f a S1 = some (.ok b S') := by
  unfold bnd at h
  split at h
  · cases h
  · exact ⟨_, _, by assumption, h⟩
  · cases h
theorem cmpV_bool {o : C2} {x y : W} {S S' : Sto} {w : W} (h : cmpV o x y S = some (.ok w S')) : ∃ b, w = .d (.bool b) := by
  obtain ⟨b, S1, _, e⟩ := ok_bnd h
  cases e
  exact ⟨b, rfl⟩
theorem p_cmp (ck : Ck X) {op : CmpOp} {o : C2} (ho : cmpOf op = some o) (hm : behindInMarks op b = false) (ha : PE X a (tE X.K ca ma)) (hb : PE X b (tE X.K ca mb)) : PT X (.Compare a [op] [b] pos) (tT X.K ca (tst fun ρ => bnd (ma ρ) fun x => bnd (mb ρ) fun y => cmpV o x y)) := by
  refine PT.of (pt_cmpR (cmp_ok (ca := ca) ck ho) ha hb hm) fun σ H Q q => ?_
  refine tst_bool (fun Q' q => ?_) (fun ρ S w S' e => ?_) q
  · obtain ⟨ρ, S, η, er, sr, q⟩ := q
    refine tE_seq er sr q fun w S1 v H1 η1 g er1 sr1 r1 q1 => ?_
    refine tE_seq er1 sr1 q1 fun w2 S2 v2 H2 η2 g2 er2 sr2 r2 q2 => ?_
    exact ⟨η2, S2, w, w2, sr2, r1.grow g2, r2, q2.imp fun _ _ z => z.mono (g.trans g2)⟩
  · obtain ⟨_, _, _, e⟩ := ok_bnd e
    obtain ⟨_, _, _, e⟩ := ok_bnd e
    exact cmpV_bool e
theorem p_chain (ck : Ck X) {op op' : CmpOp} {o1 o2 : C2} (h1 : cmpOf op = some o1) (h2 : cmpOf op' = some o2) (hm : lastMarks [op, op'] [b, c] = false) (ha : PE X a (tE X.K ca ma)) (hb : PE X b (tE X.K ca mb)) (hc : PE X c (tE X.K ca mc)) :
    PT X (.Compare a [op, op'] [b, c] pos) (tT X.K ca (tst fun ρ => bnd (ma ρ) fun x => bnd (mb ρ) fun y => bnd (cmpW o1 x y) fun t => if t = true then bnd (mc ρ) fun z => cmpV o2 y z else ret (.d (.bool false)))) := by
  refine PT.of (pt_chain (cmp_ok (ca := ca) ck h1) (cmp_ok (ca := ca) ck h2) ha hb hc hm) fun σ H Q q => ?_
  refine tst_bool (fun Q' q => tCh q) (fun ρ S w S' e => ?_) q
  obtain ⟨_, _, _, e⟩ := ok_bnd e
  obtain ⟨_, _, _, e⟩ := ok_bnd e
  obtain ⟨t, _, _, e⟩ := ok_bnd e
  cases t with
  | false => cases e; exact ⟨_, rfl⟩
  | true =>
    obtain ⟨_, _, _, e⟩ := ok_bnd e
    exact cmpV_bool e
theorem tst_bnd (m : Sl → M W) (f : W → M W) : tst (fun ρ => bnd (m ρ) f) = fun ρ => bnd (m ρ) fun x => bnd (f x) truW := by
  funext ρ
  exact bnd_assoc _ _ _
theorem p_not (ha : PT X a (tT X.K ca (tst ma))) : PT X (.UnaryOp .Not a pos) (tT X.K ca (tst fun ρ => bnd (ma ρ) fun x => bnd (truW x) fun t => ret (.d (.bool (!t))))) := by
  refine PT.of (pt_not ha) fun σ H Q q => ?_
  obtain ⟨ρ, S, η, er, sr, q⟩ := q
  have q : post (bnd (tst ma ρ) (fun t => ret (!t)) S) (qB X.K ca η H Q) := by
    have e : tst (fun ρ => bnd (ma ρ) fun x => bnd (truW x) fun t => ret (.d (.bool (!t)))) ρ = bnd (tst ma ρ) (fun t => ret (!t)) := by
      unfold tst
      rw [bnd_assoc, bnd_assoc]
      congr 1
      funext x
      rw [bnd_assoc]
      rfl
    rw [e] at q
    exact q
  refine tT_seq er sr q fun b S1 H1 η1 g er1 sr1 q1 => ?_
  exact q1 H1 η1 g sr1
theorem truW_idem (x : W) (S : Sto) (t : Bool) (S' : Sto) (h : truW x S = some (.ok t S')) : S' = S := by
  unfold truW at h
  split at h
  · obtain ⟨c, _, e2⟩ := Option.map_eq_some_iff.mp h
    cases e2; rfl
  · split at h <;> cases h <;> rfl
theorem tst_and (m1 m2 : Sl → M W) (ρ : Sl) : tst (fun ρ => bnd (m1 ρ) fun x => bnd (truW x) fun t => if t = true then m2 ρ else ret x) ρ = bnd (tst m1 ρ) fun t => if t = true then tst m2 ρ else ret false := by
  unfold tst
  rw [bnd_assoc, bnd_assoc]
  congr 1
  funext x
  rw [bnd_assoc]
  funext S
  unfold bnd
  cases h : truW x S with
  | none => rfl
  | some o => cases o with
    | ex _ _ => rfl
    | ok t S' =>
      have e := truW_idem x S t S' h
      subst e
      cases t with
      | true => rfl
      | false => exact h
theorem tst_or (m1 m2 : Sl → M W) (ρ : Sl) : tst (fun ρ => bnd (m1 ρ) fun x => bnd (truW x) fun t => if t = true then ret x else m2 ρ) ρ = bnd (tst m1 ρ) fun t => if t = true then ret true else tst m2 ρ := by
  unfold tst
  rw [bnd_assoc, bnd_assoc]
  congr 1
  funext x
  rw [bnd_assoc]
  funext S
  unfold bnd
  cases h : truW x S with
  | none => rfl
  | some o => cases o with
    | ex _ _ => rfl
    | ok t S' =>
      have e := truW_idem x S t S' h
      subst e
      cases t with
      | false => rfl
      | true => exact h
theorem p_and {rest : List Expr} (ha : PT X a (tT X.K ca (tst ma))) (hb : PW X (.BoolOp .And (b :: rest) pos) (tT X.K ca (tst mb))) : PW X (.BoolOp .And (a :: b :: rest) pos) (tT X.K ca (tst fun ρ => bnd (ma ρ) fun x => bnd (truW x) fun t => if t = true then mb ρ else ret x)) := by
  refine PW.of (pw_and ha hb) fun σ H Q q => ?_
  obtain ⟨ρ, S, η, er, sr, q⟩ := q
  rw [tst_and] at q
  refine tT_seq er sr q fun b S1 H1 η1 g er1 sr1 q1 => ?_
  cases b with
  | true =>
    simp only [if_true] at q1 ⊢
    exact ⟨ρ, S1, η1, er1, sr1, q1.imp fun _ _ z => z.mono g⟩
  | false =>
    simp only [Bool.false_eq_true, if_false] at q1 ⊢
    exact q1 H1 η1 g sr1
theorem p_or {rest : List Expr} (ha : PT X a (tT X.K ca (tst ma))) (hb : PW X (.BoolOp .Or (b :: rest) pos) (tT X.K ca (tst mb))) : PW X (.BoolOp .Or (a :: b :: rest) pos) (tT X.K ca (tst fun ρ => bnd (ma ρ) fun x => bnd (truW x) fun t => if t = true then ret x else mb ρ)) := by
  refine PW.of (pw_or ha hb) fun σ H Q q => ?_
  obtain ⟨ρ, S, η, er, sr, q⟩ := q
  rw [tst_or] at q
  refine tT_seq er sr q fun b S1 H1 η1 g er1 sr1 q1 => ?_
  cases b with
  | false =>
    simp only [Bool.false_eq_true, if_false] at q1 ⊢
    exact ⟨ρ, S1, η1, er1, sr1, q1.imp fun _ _ z => z.mono g⟩
  | true =>
    simp only [if_true] at q1 ⊢
    exact q1 H1 η1 g sr1
theorem e_ite {t : Expr} {mt : Sl → M W} (ht : PT X t (tT X.K ca (tst mt))) (ha : PE X a (tE X.K ca ma)) (hb : PE X b (tE X.K ca mb)) : PE X (.IfExp t a b pos) (tE X.K ca fun ρ => bnd (mt ρ) fun x => bnd (truW x) fun t => if t = true then ma ρ else mb ρ) := by
  refine PE.of (pe_ifExp ht ha hb) fun σ H Q q => ?_
  obtain ⟨ρ, S, η, er, sr, q⟩ := q
  dsimp only at q
  rw [show (bnd (mt ρ) fun x => bnd (truW x) fun t => if t = true then ma ρ else mb ρ) = bnd (tst mt ρ) (fun t => if t = true then ma ρ else mb ρ) from (bnd_assoc _ _ _).symm] at q
  refine tT_seq er sr q fun b S1 H1 η1 g er1 sr1 q1 => ?_
  cases b with
  | false =>
    simp only [Bool.false_eq_true, if_false] at q1 ⊢
    exact ⟨ρ, S1, η1, er1, sr1, q1.imp fun _ _ z => z.mono g⟩
  | true =>
    simp only [if_true] at q1 ⊢
    exact ⟨ρ, S1, η1, er1, sr1, q1.imp fun _ _ z => z.mono g⟩
/-! ### argument lists, displays -/
theorem a_nil : PA X [] (tA X.K ca fun _ => ret []) := by
  refine PA.of pa_nil fun σ H Q q => ?_
  obtain ⟨ρ, S, η, er, sr, q⟩ := q
  exact q [] H η (Grow.refl _ _) sr .nil
theorem a_cons {es : List Expr} {ms : Sl → M (List W)} (ha : PE X a (tE X.K ca ma)) (hr : PA X es (tA X.K ca ms)) (hs : starEach (a :: es) X.env = (false, eval a X.env) :: starEach es X.env) : PA X (a :: es) (tA X.K ca fun ρ => bnd (ma ρ) fun w => bnd (ms ρ) fun ws => ret (w :: ws)) := by
  refine PA.of (pa_cons ha hr hs) fun σ H Q q => ?_
  obtain ⟨ρ, S, η, er, sr, q⟩ := q
  refine tE_seq er sr q fun w S1 v H1 η1 g er1 sr1 r1 q1 => ?_
  refine tA_seq er1 sr1 q1 fun ws S2 vs H2 η2 g2 er2 sr2 r2 q2 => ?_
  exact q2 _ H2 η2 (g.trans g2) sr2 (.cons (r1.grow g2) r2)
theorem e_tup {es : List Expr} {ms : Sl → M (List W)} {k : Nat} (h : PA X es (tA X.K ca ms)) : PE X (.Tuple es k pos) (tE X.K ca fun ρ => bnd (ms ρ) fun ws => match dataOf ws with
    | some xs => if xs.length ≤ SZ then ret (.d (.tuple xs)) else bad
    | none => bad) := by
  refine PE.of (pe_tup h) fun σ H Q q => ?_
  obtain ⟨ρ, S, η, er, sr, q⟩ := q
  refine tA_seq er sr q fun ws S1 vs H1 η1 g er1 sr1 r1 q1 => ?_
  cases e : dataOf ws with
  | none => rw [e] at q1; exact q1.elim
  | some xs =>
    rw [e] at q1
    by_cases hz : xs.length ≤ SZ
    · have q1 : post ((if xs.length ≤ SZ then ret _ else bad) S1) _ := q1
      rw [if_pos hz] at q1
      have rr := r1.data e
      exact ⟨szl (by rw [rr.length]; exact hz), fun p hp => qW.tup (qW.mono g q1) sr1 rr hp⟩
    · have q1 : post ((if xs.length ≤ SZ then ret _ else bad) S1) _ := q1
      rw [if_neg hz] at q1
      exact q1.elim
theorem e_lst {es : List Expr} {ms : Sl → M (List W)} (h : PA X es (tA X.K ca ms)) : PE X (.List es pos) (tE X.K ca fun ρ => bnd (ms ρ) fun ws => match dataOf ws with
    | some xs => if xs.length ≤ SZ then ret (.d (.list xs)) else bad
    | none => bad) := by
  refine PE.of (pe_lst h) fun σ H Q q => ?_
  obtain ⟨ρ, S, η, er, sr, q⟩ := q
  refine tA_seq er sr q fun ws S1 vs H1 η1 g er1 sr1 r1 q1 => ?_
  cases e : dataOf ws with
  | none => rw [e] at q1; exact q1.elim
  | some xs =>
    rw [e] at q1
    by_cases hz : xs.length ≤ SZ
    · have q1 : post ((if xs.length ≤ SZ then ret _ else bad) S1) _ := q1
      rw [if_pos hz] at q1
      have rr := r1.data e
      exact ⟨szl (by rw [rr.length]; exact hz), fun p hp => qW.lst (qW.mono g q1) sr1 rr hp⟩
    · have q1 : post ((if xs.length ≤ SZ then ret _ else bad) S1) _ := q1
      rw [if_neg hz] at q1
      exact q1.elim
theorem e_nl {es : List Expr} {ms : Sl → M (List W)} (h : PA X es (tA X.K ca ms)) : PE X (.List es pos) (tE X.K ca fun ρ => bnd (ms ρ) fun ws => if ws.length ≤ SZ then alloc (.lst ws) else bad) := by
  refine PE.of (pe_lst h) fun σ H Q q => ?_
  obtain ⟨ρ, S, η, er, sr, q⟩ := q
  refine tA_seq er sr q fun ws S1 vs H1 η1 g er1 sr1 r1 q1 => ?_
  by_cases hz : ws.length ≤ SZ
  · rw [if_pos hz] at q1
    refine ⟨szl (by rw [r1.length]; exact hz), fun p hp => ?_⟩
    have g2 := grow_alloc (o := .lst vs) sr1 hp
    refine q1 _ _ (η1.add p) (g.trans g2) (sr1.alloc hp ⟨_, upd_same, r1.grow g2⟩) (.r ?_)
    rw [← sr1.len]
    unfold Zs.add
    simp
  · rw [if_neg hz] at q1
    exact q1.elim
theorem e_ndk : PE X (.Dict [] [] pos) (tE X.K ca fun _ => alloc (.dk [])) := by
  refine PE.of pe_dnewK fun σ H Q q => ?_
  obtain ⟨ρ, S, η, er, sr, q⟩ := q
  intro p hp
  have g2 := grow_alloc (o := .dK []) sr hp
  refine q _ _ (η.add p) g2 (sr.alloc hp ⟨_, upd_same, .nil⟩) (.r ?_)
  rw [← sr.len]
  unfold Zs.add
  simp
/-! ### subscripts -/
theorem e_sub (ck : Ck X) (hs : PlainIx b) (ha : PE X a (tE X.K ca ma)) (hb : PE X b (tE X.K ca mb)) : PE X (.Subscript a b pos) (tE X.K ca fun ρ => bnd (ma ρ) fun x => bnd (mb ρ) fun y => subW x y) :=
  e_op2 (r := fun t _ => t) (fun _ _ h1 h2 => pe_ix (sub_ok ck) h1 h2 hs) ha hb
def qO (K : PySem.W.Frag) (ca : Nat → Addr) (η : Zs) (H : Hp) (Q : Option Int → Hp → Prop) : Option W → Sto → Prop := fun w S' => ∃ o, asOI w = some o ∧ ∀ H' η', Grow η H η' H' → SR K ca η' H' S' → Q o H'
theorem po_e {e : Option Expr} {mo : Sl → M (Option W)} (h : (e = none ∧ mo = fun _ => ret none) ∨ ∃ e' m', e = some e' ∧ (mo = fun ρ => bnd (m' ρ) fun w => ret (some w)) ∧ PE X e' (tE X.K ca m')) :
    PO X e (fun σ H Q => ∃ ρ S η, ER X.K η H σ ρ ∧ SR X.K ca η H S ∧ post (mo ρ S) (qO X.K ca η H Q)) := by
  rcases h with ⟨rfl, rfl⟩ | ⟨e', m', rfl, rfl, he⟩
  · refine ⟨fun pins s σ H Q I q => po_none.run pins s σ H Q I ?_⟩
    obtain ⟨ρ, S, η, er, sr, o, eo, q⟩ := q
    cases eo
    exact q H η (Grow.refl _ _) sr
  · refine ⟨fun pins s σ H Q I q => (po_some he).run pins s σ H Q I ?_⟩
    obtain ⟨ρ, S, η, er, sr, q⟩ := q
    refine tE_seq er sr q fun w S1 v H1 η1 g er1 sr1 r1 q1 => ?_
    obtain ⟨o, eo, q1⟩ := q1
    unfold asOI at eo
    split at eo
    · rename_i e; cases e
    · rename_i i e
      cases e
      cases eo
      cases r1 with
      | d r => cases r; exact ⟨_, rfl, q1 H1 η1 g sr1⟩
    · cases eo
theorem e_slc {lo hi : Option Expr} {ml mh : Sl → M (Option W)} {p2 : Pos} (ha : PE X a (tE X.K ca ma)) (hl : (lo = none ∧ ml = fun _ => ret none) ∨ ∃ e' m', lo = some e' ∧ (ml = fun ρ => bnd (m' ρ) fun w => ret (some w)) ∧ PE X e' (tE X.K ca m'))
    (hh : (hi = none ∧ mh = fun _ => ret none) ∨ ∃ e' m', hi = some e' ∧ (mh = fun ρ => bnd (m' ρ) fun w => ret (some w)) ∧ PE X e' (tE X.K ca m')) :
    PE X (.Subscript a (.Slice lo hi none p2) pos) (tE X.K ca fun ρ => bnd (ma ρ) fun x => bnd (ml ρ) fun l => bnd (mh ρ) fun h => match asOI l, asOI h with
      | some l, some h => slcW x l h
      | _, _ => bad) := by
  refine PE.of (pe_slice (sl_ok (ca := ca)) ha (po_e hl) (po_e hh)) fun σ H Q q => ?_
  obtain ⟨ρ, S, η, er, sr, q⟩ := q
  refine tE_seq er sr q fun w S1 v H1 η1 g er1 sr1 r1 q1 => ?_
  rw [post_bnd] at q1
  refine ⟨ρ, S1, η1, er1, sr1, ?_⟩
  have nb : ∀ {f : Option W → M W} {S0 : Sto} {q0 : W → Sto → Prop} {x : Option W}, True := trivial
  refine post.imp q1 fun l S2 q2 => ?_
  rw [post_bnd] at q2
  cases el : asOI l with
  | none =>
    exfalso
    rw [el] at q2
    revert q2
    cases mh ρ S2 with
    | none => exact id
    | some o => cases o <;> exact id
  | some lo' =>
    refine ⟨lo', el, fun H2 η2 g2 sr2 => ⟨ρ, S2, η2, er1.grow g2, sr2, post.imp q2 fun h S3 q3 => ?_⟩⟩
    rw [el] at q3
    cases eh : asOI h with
    | none => rw [eh] at q3; exact q3.elim
    | some hi' =>
      rw [eh] at q3
      refine ⟨hi', eh, fun H3 η3 g3 sr3 => ⟨η3, S3, w, sr3, (r1.grow g2).grow g3, q3.imp fun _ _ z => z.mono ((g.trans g2).trans g3)⟩⟩
end
end MP

/-! Statements, targets, loops. -/
namespace MP
open PySem L2 PySem.Spec PyProof.Rows
section
variable (K : PySem.W.Frag) (ca : Nat → Addr)
def qS (K : PySem.W.Frag) (ca : Nat → Addr) (η : Zs) (H : Hp) (D : Ends) : Fl → Sto → Prop := fun f S' => ∀ H' η', Grow η H η' H' → SR K ca η' H' S' → match f with
  | .nx ρ' => ∀ σ', ER K η' H' σ' ρ' → D.nx σ' H'
  | .bk ρ' => ∀ σ', ER K η' H' σ' ρ' → D.bk σ' H'
  | .ct ρ' => ∀ σ', ER K η' H' σ' ρ' → D.ct σ' H'
  | .rt w => ∀ v, RW K η' H' v w → D.rt v H'
def tS (m : Sl → M Fl) : TS := fun D σ H => ∃ ρ S η, ER K η H σ ρ ∧ SR K ca η H S ∧ post (m ρ S) (qS K ca η H D)
def gW (p : P) : TG := fun v σ H Q => ∃ w ρ ρ' η, RW K η H v w ∧ ER K η H σ ρ ∧ bindP p w ρ = some ρ' ∧ ∀ σ', ER K η H σ' ρ' → (∀ i, i ∉ p.slots → σ'[i]? = σ[i]?) → Q σ' H
end
theorem qS.mono {K : PySem.W.Frag} {ca : Nat → Addr} {η η1 : Zs} {H H1 : Hp} {D : Ends} {f : Fl} {S : Sto} (g : Grow η H η1 H1) (h : qS K ca η H D f S) : qS K ca η1 H1 D f S := fun H2 η2 g2 => h H2 η2 (g.trans g2)
/-- one after the other -/
def sq (a b : Sl → M Fl) : Sl → M Fl := fun ρ => bnd (a ρ) fun f => match f with
  | .nx ρ' => b ρ'
  | f => ret f
section
variable {X : Cx} {ca : Nat → Addr}
theorem PS.of {e : Stmt} {t t' : TS} (h : PS X e t) (k : ∀ D σ H, t' D σ H → t D σ H) : PS X e t' := ⟨fun pins s σ H D I q => h.run pins s σ H D I (k D σ H q)⟩
theorem PSs.of {e : List Stmt} {t t' : TS} (h : PSs X e t) (k : ∀ D σ H, t' D σ H → t D σ H) : PSs X e t' := ⟨fun pins s σ H D I q => h.run pins s σ H D I (k D σ H q)⟩
theorem PG.of {e : Expr} {t t' : TG} (h : PG X e t) (k : ∀ v σ H Q, t' v σ H Q → t v σ H Q) : PG X e t' := ⟨fun pins s σ H v u Q I r q => h.run pins s σ H v u Q I r (k v σ H Q q)⟩
variable {pos : Pos} {st : Stmt} {rest a b : List Stmt} {m m1 m2 ma mb : Sl → M Fl} {e : Expr} {me mt : Sl → M W}
theorem post_S {K : PySem.W.Frag} {η : Zs} {H : Hp} {D : Ends} {r : Option (Out Fl)} {q : Fl → Sto → Prop} (h : post r q) (k : ∀ f S, q f S → qS K ca η H D f S) : post r (qS K ca η H D) := h.imp k
theorem s_nil : PSs X [] (tS X.K ca fun ρ => ret (.nx ρ)) := by
  refine PSs.of pss_nil fun D σ H q => ?_
  obtain ⟨ρ, S, η, er, sr, q⟩ := q
  exact q H η (Grow.refl _ _) sr σ er
theorem s_cons (h1 : PS X st (tS X.K ca m1)) (h2 : PSs X rest (tS X.K ca m2)) : PSs X (st :: rest) (tS X.K ca (sq m1 m2)) := by
  refine PSs.of (pss_cons h1 h2) fun D σ H q => ?_
  obtain ⟨ρ, S, η, er, sr, q⟩ := q
  have q : post (bnd (m1 ρ) (fun f => match f with
    | .nx ρ' => m2 ρ'
    | f => ret f) S) (qS X.K ca η H D) := q
  rw [post_bnd] at q
  refine ⟨ρ, S, η, er, sr, q.imp fun f S1 q1 H1 η1 g sr1 => ?_⟩
  cases f with
  | nx ρ1 => exact fun σ1 er1 => ⟨ρ1, S1, η1, er1, sr1, q1.imp fun _ _ z => z.mono g⟩
  | rt w => exact q1 H1 η1 g sr1
  | bk ρ1 => exact q1 H1 η1 g sr1
  | ct ρ1 => exact q1 H1 η1 g sr1
theorem s_one (h1 : PS X st (tS X.K ca m1)) : PSs X [st] (tS X.K ca m1) := ⟨fun pins s σ H D I h => (pss_one h1).run pins s σ H D I h⟩
theorem s_pass : PS X (.Pass pos) (tS X.K ca fun ρ => ret (.nx ρ)) := by
  refine PS.of ps_pass fun D σ H q => ?_
  obtain ⟨ρ, S, η, er, sr, q⟩ := q
  exact q H η (Grow.refl _ _) sr σ er
theorem s_brk : PS X (.Break pos) (tS X.K ca fun ρ => ret (.bk ρ)) := by
  refine PS.of ps_break fun D σ H q => ?_
  obtain ⟨ρ, S, η, er, sr, q⟩ := q
  exact q H η (Grow.refl _ _) sr σ er
theorem s_cont : PS X (.Continue pos) (tS X.K ca fun ρ => ret (.ct ρ)) := by
  refine PS.of ps_continue fun D σ H q => ?_
  obtain ⟨ρ, S, η, er, sr, q⟩ := q
  exact q H η (Grow.refl _ _) sr σ er
theorem s_bad : PS X st (tS X.K ca fun _ => bad) := ⟨fun pins s σ H D I q => by
  obtain ⟨ρ, S, η, er, sr, q⟩ := q
  exact q.elim⟩
theorem ss_bad : PSs X rest (tS X.K ca fun _ => bad) := ⟨fun pins s σ H D I q => by
  obtain ⟨ρ, S, η, er, sr, q⟩ := q
  exact q.elim⟩
theorem s_ex (he : PE X e (tE X.K ca me)) (hs : swapsWith e none pos.line X.env = pure false := by rfl) : PS X (.Expr e pos) (tS X.K ca fun ρ => bnd (me ρ) fun _ => ret (.nx ρ)) := by
  refine PS.of (ps_expr he hs) fun D σ H q => ?_
  obtain ⟨ρ, S, η, er, sr, q⟩ := q
  refine tE_seq er sr q fun w S1 v H1 η1 g er1 sr1 r1 q1 => ?_
  exact q1 H1 η1 g sr1 σ er1
theorem s_ret (he : PE X e (tE X.K ca me)) : PS X (.Return (some e) pos) (tS X.K ca fun ρ => bnd (me ρ) fun w => ret (.rt w)) := by
  refine PS.of (ps_ret he) fun D σ H q => ?_
  obtain ⟨ρ, S, η, er, sr, q⟩ := q
  refine tE_seq er sr q fun w S1 v H1 η1 g er1 sr1 r1 q1 => ?_
  exact q1 H1 η1 g sr1 v r1
theorem s_retN : PS X (.Return none pos) (tS X.K ca fun _ => ret (.rt (.d .none))) := by
  refine PS.of ps_retN fun D σ H q => ?_
  obtain ⟨ρ, S, η, er, sr, q⟩ := q
  exact q H η (Grow.refl _ _) sr .non (.d .non)
theorem s_if (hc : PT X e (tT X.K ca (tst me))) (ha : PSs X a (tS X.K ca ma)) (hb : PSs X b (tS X.K ca mb)) :
    PS X (.If e a b pos) (tS X.K ca fun ρ => bnd (tst me ρ) fun t => if t = true then ma ρ else mb ρ) := by
  refine PS.of (ps_if hc ha hb) fun D σ H q => ?_
  obtain ⟨ρ, S, η, er, sr, q⟩ := q
  refine tT_seq er sr q fun t S1 H1 η1 g er1 sr1 q1 => ?_
  cases t with
  | true =>
    simp only [if_true] at q1 ⊢
    exact ⟨ρ, S1, η1, er1, sr1, q1.imp fun _ _ z => z.mono g⟩
  | false =>
    simp only [Bool.false_eq_true, if_false] at q1 ⊢
    exact ⟨ρ, S1, η1, er1, sr1, q1.imp fun _ _ z => z.mono g⟩
/-! ### targets -/
theorem g_nm {i : Nat} {x : Str} (hN : X.N.Nodup) (hi : X.N[i]? = some x) (hx : Loc X.env.scope x) (hf : X.fn x = true ∨ X.env.scope.names.lookup x = some .local) : PG X (.Name x pos) (gW X.K (.nm i)) := by
  refine PG.of (pg_name hN hi hx hf) fun v σ H Q q => ?_
  obtain ⟨w, ρ, ρ', η, r, er, e, q⟩ := q
  cases e
  refine q _ (er.set r i) fun j hj => ?_
  exact List.getElem?_set_ne fun z => hj (List.mem_singleton.mpr z.symm)
def gL : List Nat → TGs
  | [] => gNil
  | i :: is => gCons (gName i) (gL is)
theorem gL_run {K : PySem.W.Frag} {η : Zs} {H : Hp} {Q : L2.St → Hp → Prop} : ∀ {is : List Nat} {vs : List V} {xs : List D} {σ : Sg} {ρ ρ' : Sl}, RpAll K η H vs xs → ER K η H σ ρ → bindL is xs ρ = some ρ' →
    (∀ σ', ER K η H σ' ρ' → (∀ i, i ∉ is → σ'[i]? = σ[i]?) → Q σ' H) → gL is vs σ H Q
  | [], _, _, _, _, _, .nil, er, e, q => by cases e; exact ⟨rfl, q _ er fun _ _ => rfl⟩
  | [], _, _, _, _, _, .cons _ _, _, e, _ => by cases e
  | _ :: _, _, _, _, _, _, .nil, _, e, _ => by cases e
  | i :: is, _, _, σ, ρ, ρ', .cons (v := v) r t, er, e, q => by
    refine ⟨_, _, rfl, gL_run t (er.set (.d r) i) e fun σ' er' h => q σ' er' fun j hj => ?_⟩
    rw [h j fun z => hj (List.mem_cons_of_mem _ z)]
    exact List.getElem?_set_ne fun z => hj (by rw [← z]; exact List.mem_cons_self)
theorem gs_nil : PGs X [] (gL []) := pgs_nil
theorem gs_cons {i : Nat} {x : Str} {p : Pos} {es : List Expr} {is : List Nat} (hN : X.N.Nodup) (hi : X.N[i]? = some x) (hx : Loc X.env.scope x) (hf : X.fn x = true ∨ X.env.scope.names.lookup x = some .local) (h2 : PGs X es (gL is))
    (hs : (assignEach (.Name x p :: es) X.env).map (·.2) = assign (.Name x p) X.env :: (assignEach es X.env).map (·.2)) : PGs X (.Name x p :: es) (gL (i :: is)) :=
  pgs_cons (pg_name hN hi hx hf) h2 hs
theorem g_tup (ck : Ck X) {es : List Expr} {k n : Nat} {is : List Nat} (h : PGs X es (gL is)) (hl : is.length = n) (hn : (assignEach es X.env).length = n) (hst : (assignEach es X.env).findIdx? (·.1) = none) : PG X (.Tuple es k pos) (gW X.K (.tup is)) := by
  refine PG.of (pg_tup ck.calm h hn hst) fun v σ H Q q => ?_
  obtain ⟨w, ρ, ρ', η, r, er, e, q⟩ := q
  unfold bindP at e
  split at e
  · cases ‹P.tup _ = P.nm _›
  · rename_i is' xs _ e1
    cases e1
    cases r with
    | d r => cases r with
      | tup a1 b1 =>
        have ln : ∀ {is : List Nat} {xs : List D} {ρ ρ' : Sl}, bindL is xs ρ = some ρ' → xs.length = is.length := by
          intro is
          induction is with
          | nil => intro xs ρ ρ' e; cases xs with
            | nil => rfl
            | cons _ _ => cases e
          | cons i is ih => intro xs ρ ρ' e; cases xs with
            | nil => cases e
            | cons x xs => rw [List.length_cons, List.length_cons, ih e]
        refine ⟨_, _, rfl, a1.sq, by rw [b1.length, ln e]; exact hl, gL_run b1 er e q⟩
  · cases e
/-! ### assignments -/
theorem s_asg {tg : Expr} {p : P} (he : PE X e (tE X.K ca me)) (hg : PG X tg (gW X.K p)) (hs : swapsWithSole [tg] e pos.line X.env = pure false) (hw : swappedStores [tg] e X.env = pure none)
    (h1 : (assignEach [tg] X.env).map (·.2) = [assign tg X.env]) : PS X (.Assign [tg] e pos) (tS X.K ca fun ρ => bnd (me ρ) fun w => bnd (opt (bindP p w ρ)) fun ρ' => ret (.nx ρ')) := by
  refine PS.of (ps_asg he hg hs hw h1) fun D σ H q => ?_
  obtain ⟨ρ, S, η, er, sr, q⟩ := q
  refine tE_seq er sr q fun w S1 v H1 η1 g er1 sr1 r1 q1 => ?_
  obtain ⟨ρ', e1, q2⟩ := post_opt _ _ _ q1
  have q2 : qS X.K ca η H D (.nx ρ') S1 := q2
  exact ⟨w, ρ, ρ', η1, r1, er1, e1, fun σ' er' _ => q2 H1 η1 g sr1 σ' er'⟩
theorem s_par2 (ck : Ck X) {i j : Nat} {x y : Str} {a b : Expr} {px py pt : Pos} {kt k2 pt2} {ms : Sl → M (List W)} (hi : X.N[i]? = some x) (hj : X.N[j]? = some y) (hij : i ≠ j)
    (hx : X.env.scope.names.lookup x = some .local) (hy : X.env.scope.names.lookup y = some .local) (ha : PA X [a, b] (tA X.K ca ms))
    (hw : swappedStores [.Tuple [.Name x px, .Name y py] kt pt] (.Tuple [a, b] k2 pt2) X.env = pure (some [x, y]))
    (hs : swapsWithSole [.Tuple [.Name x px, .Name y py] kt pt] (.Tuple [a, b] k2 pt2) pos.line X.env = pure false) :
    PS X (.Assign [.Tuple [.Name x px, .Name y py] kt pt] (.Tuple [a, b] k2 pt2) pos) (tS X.K ca fun ρ => bnd (ms ρ) fun ws => match ws with
      | [w1, w2] => ret (.nx ((ρ.set i (some w1)).set j (some w2)))
      | _ => bad) := by
  refine PS.of (ps_par ck.calm ck.nd hi hj hij hx hy ha hw hs) fun D σ H q => ?_
  obtain ⟨ρ, S, η, er, sr, q⟩ := q
  refine tA_seq er sr q fun ws S1 vs H1 η1 g er1 sr1 r1 q1 => ?_
  cases r1 with
  | nil => exact q1.elim
  | cons r1 t => cases t with
    | nil => exact q1.elim
    | cons r2 t => cases t with
      | nil => exact ⟨_, _, rfl, q1 H1 η1 g sr1 _ ((er1.set r1 i).set r2 j)⟩
      | cons _ _ => exact q1.elim
theorem s_par3 (ck : Ck X) {i j l : Nat} {x y z : Str} {a b c : Expr} {px py pz pt : Pos} {kt k2 pt2} {ms : Sl → M (List W)} (hi : X.N[i]? = some x) (hj : X.N[j]? = some y) (hl : X.N[l]? = some z) (hij : i ≠ j) (hil : i ≠ l) (hjl : j ≠ l)
    (hx : X.env.scope.names.lookup x = some .local) (hy : X.env.scope.names.lookup y = some .local) (hz : X.env.scope.names.lookup z = some .local) (ha : PA X [a, b, c] (tA X.K ca ms))
    (hw : swappedStores [.Tuple [.Name x px, .Name y py, .Name z pz] kt pt] (.Tuple [a, b, c] k2 pt2) X.env = pure (some [x, y, z]))
    (hs : swapsWithSole [.Tuple [.Name x px, .Name y py, .Name z pz] kt pt] (.Tuple [a, b, c] k2 pt2) pos.line X.env = pure false) :
    PS X (.Assign [.Tuple [.Name x px, .Name y py, .Name z pz] kt pt] (.Tuple [a, b, c] k2 pt2) pos) (tS X.K ca fun ρ => bnd (ms ρ) fun ws => match ws with
      | [w1, w2, w3] => ret (.nx (((ρ.set i (some w1)).set j (some w2)).set l (some w3)))
      | _ => bad) := by
  refine PS.of (ps_par3 ck.calm ck.nd hi hj hl hij hil hjl hx hy hz ha hw hs) fun D σ H q => ?_
  obtain ⟨ρ, S, η, er, sr, q⟩ := q
  refine tA_seq er sr q fun ws S1 vs H1 η1 g er1 sr1 r1 q1 => ?_
  cases r1 with
  | nil => exact q1.elim
  | cons r1 t => cases t with
    | nil => exact q1.elim
    | cons r2 t => cases t with
      | nil => exact q1.elim
      | cons r3 t => cases t with
        | nil => exact ⟨_, _, _, rfl, q1 H1 η1 g sr1 _ (((er1.set r1 i).set r2 j).set r3 l)⟩
        | cons _ _ => exact q1.elim
theorem s_setI (ck : Ck X) {o i : Expr} {mo mi : Sl → M W} {tp : Pos} (he : PE X e (tE X.K ca me)) (ho : PE X o (tE X.K ca mo)) (hi : PE X i (tE X.K ca mi))
    (ha : ∀ v, assign (.Subscript o i tp) X.env v = (do
      let ov ← holding [v] (eval o X.env)
      let iv ← holding [v, ov] (eval i X.env)
      standAt tp
      holding [v, ov, iv] (setItem ov iv v)
      release [v, ov, iv] []))
    (hs : swapsWithSole [.Subscript o i tp] e pos.line X.env = pure false) (hw : swappedStores [.Subscript o i tp] e X.env = pure none)
    (h1 : (assignEach [.Subscript o i tp] X.env).map (·.2) = [assign (.Subscript o i tp) X.env]) :
    PS X (.Assign [.Subscript o i tp] e pos) (tS X.K ca fun ρ => bnd (me ρ) fun w => bnd (mo ρ) fun x => bnd (mi ρ) fun y => bnd (setW x y w) fun _ => ret (.nx ρ)) := by
  refine PS.of (ps_asg he (pg_sub ho hi (set_ok (ca := ca) ck) ha) hs hw h1) fun D σ H q => ?_
  obtain ⟨ρ, S, η, er, sr, q⟩ := q
  refine tE_seq er sr q fun w S1 v H1 η1 g er1 sr1 r1 q1 => ?_
  refine tE_seq er1 sr1 q1 fun w2 S2 v2 H2 η2 g2 er2 sr2 r2 q2 => ?_
  refine tE_seq er2 sr2 q2 fun w3 S3 v3 H3 η3 g3 er3 sr3 r3 q3 => ?_
  rw [post_bnd] at q3
  refine ⟨η3, S3, w2, w3, w, sr3, r2.grow g3, r3, (r1.grow g2).grow g3, q3.imp fun _ S4 z H4 η4 g4 sr4 => ?_⟩
  have z : qS X.K ca η H D (.nx ρ) S4 := z
  exact z H4 η4 (((g.trans g2).trans g3).trans g4) sr4 σ (er3.grow g4)
/-! ### loops -/
theorem s_whl (hp : PassesOwn (model X.prog X.w) X.A X.env X.xe) (hc : PT X e (tT X.K ca (tst me))) (hb : PSs X a (tS X.K ca ma)) (N : Nat) : PS X (.While e a [] pos) (tS X.K ca fun ρ => whileM (tst me) ma N ρ) := by
  refine PS.of (ps_while hp hc hb) fun D σ H q => ?_
  obtain ⟨ρ, S, η, er, sr, q⟩ := q
  refine ⟨fun n σ1 H1 => ∃ ρ1 S1 η1, Grow η H η1 H1 ∧ ER X.K η1 H1 σ1 ρ1 ∧ SR X.K ca η1 H1 S1 ∧ post (whileM (tst me) ma n ρ1 S1) (qS X.K ca η H D), ⟨N, ρ, S, η, Grow.refl _ _, er, sr, q⟩, fun n σ1 H1 w => ?_⟩
  obtain ⟨ρ1, S1, η1, g1, er1, sr1, q1⟩ := w
  cases n with
  | zero => exact q1.elim
  | succ n =>
    unfold whileM at q1
    refine tT_seq er1 sr1 q1 fun t S2 H2 η2 g2 er2 sr2 q2 => ?_
    cases t with
    | false =>
      simp only [Bool.false_eq_true, if_false] at q2 ⊢
      have q2 : qS X.K ca η H D (.nx ρ1) S2 := q2
      exact q2 H2 η2 (g1.trans g2) sr2 σ1 er2
    | true =>
      simp only [if_true] at q2 ⊢
      refine ⟨fun σ3 H3 => ∃ ρ3 S3 η3, Grow η H η3 H3 ∧ ER X.K η3 H3 σ3 ρ3 ∧ SR X.K ca η3 H3 S3 ∧ post (whileM (tst me) ma n ρ3 S3) (qS X.K ca η H D), fun σ3 H3 w => ⟨n, Nat.lt_succ_self _, w⟩, ?_⟩
      rw [post_bnd] at q2
      refine ⟨ρ1, S2, η2, er2, sr2, q2.imp fun f S3 q3 H3 η3 g3 sr3 => ?_⟩
      have g := (g1.trans g2).trans g3
      cases f with
      | nx ρ3 => exact fun σ3 er3 => ⟨ρ3, S3, η3, g, er3, sr3, q3⟩
      | ct ρ3 => exact fun σ3 er3 => ⟨ρ3, S3, η3, g, er3, sr3, q3⟩
      | bk ρ3 =>
        have q3 : qS X.K ca η H D (.nx ρ3) S3 := q3
        exact fun σ3 er3 => q3 H3 η3 g sr3 σ3 er3
      | rt w =>
        have q3 : qS X.K ca η H D (.rt w) S3 := q3
        exact q3 H3 η3 g sr3
def iW (K : PySem.W.Frag) (ca : Nat → Addr) (m : Sl → M (List D)) : TI := fun σ H R => ∃ ρ S η, ER K η H σ ρ ∧ SR K ca η H S ∧ post (m ρ S) fun items S' => ∀ J H' η', Grow η H η' H' → SR K ca η' H' S' → Yields K ca η' H' J items → R J H'
theorem s_for (ck : Ck X) {tg iter : Expr} {p : P} {mi : Sl → M (List D)} (hp : PassesOwn (model X.prog X.w) X.A X.env X.xe) (hi : PI X tg iter (iW X.K ca mi)) (hg : PG X tg (gW X.K p)) (hb : PSs X a (tS X.K ca ma))
    (hs : ∀ x, foldedSetIterable iter X.env x = pure x) : PS X (.For tg iter a [] pos) (tS X.K ca fun ρ => bnd (mi ρ) fun items => forM p ma items ρ) := by
  refine PS.of (ps_for hp ck.calm hi hg hb hs) fun D σ H q => ?_
  obtain ⟨ρ, S, η, er, sr, q⟩ := q
  have q : post (bnd (mi ρ) (fun items => forM p ma items ρ) S) (qS X.K ca η H D) := q
  rw [post_bnd] at q
  refine ⟨ρ, S, η, er, sr, q.imp fun items S1 q1 J H1 η1 g1 sr1 yl => ?_⟩
  refine ⟨fun i n σ2 H2 => i + n = items.length ∧ ∃ ρ2 S2 η2, Grow η1 H1 η2 H2 ∧ ER X.K η2 H2 σ2 ρ2 ∧ SR X.K ca η2 H2 S2 ∧ post (forM p ma (items.drop i) ρ2 S2) (qS X.K ca η H D),
    ⟨items.length, by omega, ρ, S1, η1, Grow.refl _ _, er.grow g1, sr1, q1⟩, fun i n σ2 H2 w => ?_⟩
  obtain ⟨hn, ρ2, S2, η2, g2, er2, sr2, q2⟩ := w
  obtain ⟨y1, y2⟩ := yl η2 H2 S2 g2.gro sr2 i
  have gg := g1.trans g2
  by_cases hi : i < items.length
  · refine .inr ⟨(y2 hi).1, fun σ3 H3 => ∃ ρ3 S3 η3, Grow η1 H1 η3 H3 ∧ ER X.K η3 H3 σ3 ρ3 ∧ SR X.K ca η3 H3 S3 ∧ post (forM p ma (items.drop (i + 1)) ρ3 S3) (qS X.K ca η H D), fun σ3 H3 w => ⟨n - 1, by omega, by omega, w⟩, fun x H3 y => ?_⟩
    obtain ⟨d, ed, g3, sr3, rd⟩ := (y2 hi).2 x H3 y
    have e0 : items.drop i = d :: items.drop (i + 1) := by
      rw [List.drop_eq_getElem_cons hi]
      rw [List.getElem?_eq_getElem hi] at ed
      rw [Option.some.inj ed]
    rw [e0] at q2
    unfold forM at q2
    obtain ⟨ρ', eb, q3⟩ := post_opt _ _ _ q2
    refine ⟨.d d, ρ2, ρ', η2, .d rd, er2.grow g3, eb, fun σ4 er4 _ => ?_⟩
    rw [post_bnd] at q3
    refine ⟨ρ', S2, η2, er4, sr3, q3.imp fun f S5 q5 H5 η5 g5 sr5 => ?_⟩
    have g := (g2.trans g3).trans g5
    cases f with
    | nx ρ3 => exact fun σ3 er3 => ⟨ρ3, S5, η5, g, er3, sr5, q5⟩
    | ct ρ3 => exact fun σ3 er3 => ⟨ρ3, S5, η5, g, er3, sr5, q5⟩
    | bk ρ3 =>
      have q5 : qS X.K ca η H D (.nx ρ3) S5 := q5
      exact fun σ3 er3 => q5 H5 η5 (g1.trans g) sr5 σ3 er3
    | rt w =>
      have q5 : qS X.K ca η H D (.rt w) S5 := q5
      exact q5 H5 η5 (g1.trans g) sr5
  · rw [List.drop_of_length_le (by omega)] at q2
    have q2 : qS X.K ca η H D (.nx ρ2) S2 := q2
    exact .inl ⟨y1 (by omega), q2 H2 η2 gg sr2 σ2 er2⟩
end
end MP

/-! What is walked; built-ins; methods; f-strings; op=. -/
namespace MP
open PySem L2 PySem.Spec PyProof.Rows
/-- a method's receiver is looked at ahead of the arguments -/
def rcv (m : Me) (w : W) : M Unit := fun S => match m, w with
  | .append, .r i => match S[i]? with
    | some (.lst _) => some (.ok () S)
    | _ => none
  | .setdefault, .r i => match S[i]? with
    | some (.dk _) => some (.ok () S)
    | _ => none
  | _, _ => none
section
variable {X : Cx} {ca : Nat → Addr} {pos p : Pos} {e : Expr} {me : Sl → M W} {tg : Expr} {ms : Sl → M (List W)}
theorem PI.of {it : Expr} {t t' : TI} (h : PI X tg it t) (k : ∀ σ H R, t' σ H R → t σ H R) : PI X tg it t' := ⟨fun pins s σ H R I q => h.run pins s σ H R I (k σ H R q)⟩
theorem PI.or {it : Expr} {t t' : TI} (h : PI X tg it t) (h' : PI X tg it t') : PI X tg it (fun σ H R => t σ H R ∨ t' σ H R) :=
  ⟨fun pins s σ H R I q => q.elim (h.run pins s σ H R I) (h'.run pins s σ H R I)⟩
/-- where the step ends -/
theorem post_ok {α : Type} {r : Option (Out α)} {q : α → Sto → Prop} (h : post r q) : ∃ a S, r = some (.ok a S) ∧ q a S := by
  cases r with
  | none => exact h.elim
  | some o => cases o with
    | ok a S => exact ⟨a, S, rfl, h⟩
    | ex _ _ => exact h.elim
theorem post_opt1 {α : Type} {o : Option α} {S : Sto} {q : α → Sto → Prop} (h : post (opt o S) q) : ∃ a, o = some a ∧ q a S := by
  cases o with
  | none => exact h.elim
  | some a => exact ⟨a, rfl, h⟩
theorem i_seq (he : PE X e (tE X.K ca me)) : PI X tg e (iW X.K ca fun ρ => bnd (me ρ) fun w => opt (itemsOf .seq [w])) := by
  refine PI.of (PI.or (pi_list he) (PI.or (pi_tup he) (pi_str he))) fun σ H R q => ?_
  obtain ⟨ρ, S, η, er, sr, q⟩ := q
  have q : post (bnd (me ρ) (fun w => opt (itemsOf .seq [w])) S) (fun items S' => ∀ J H' η', Grow η H η' H' → SR X.K ca η' H' S' → Yields X.K ca η' H' J items → R J H') := q
  rw [post_bnd] at q
  obtain ⟨w, S1, ew, q1⟩ := post_ok q
  obtain ⟨items, ei, q2⟩ := post_opt1 q1
  have q2 : ∀ J H' η', Grow η H η' H' → SR X.K ca η' H' S1 → Yields X.K ca η' H' J items → R J H' := q2
  have go : ∀ {Q : VK}, (∀ v H1 η1, Grow η H η1 H1 → SR X.K ca η1 H1 S1 → RW X.K η1 H1 v w → Q v H1) → tE X.K ca me σ H Q := fun k => ⟨ρ, S, η, er, sr, by rw [ew]; exact fun v H1 η1 g s1 r => k v H1 η1 g s1 r⟩
  unfold itemsOf at ei
  split at ei <;> first
    | (cases ei; done)
    | (rename_i e1 e2; cases e1; done)
    | skip
  · rename_i e1; cases e1; cases ei
    refine .inl (go fun v H1 η1 g s1 r => ?_)
    cases r with
    | d r => cases r with
      | lst a b => exact ⟨_, rfl, ⟨_, a.sq⟩, q2 _ H1 η1 g s1 (yl_list a b)⟩
  · rename_i e1; cases e1; cases ei
    refine .inr (.inl (go fun v H1 η1 g s1 r => ?_))
    cases r with
    | d r => cases r with
      | tup a b => exact ⟨_, rfl, ⟨_, a.sq⟩, q2 _ H1 η1 g s1 (yl_tup a b)⟩
  · rename_i e1; cases e1; cases ei
    refine .inr (.inr (go fun v H1 η1 g s1 r => ?_))
    cases r with
    | d r => cases r with
      | str x => exact ⟨_, rfl, q2 _ H1 η1 g s1 yl_str⟩
theorem rs_two {K : PySem.W.Frag} {η : Zs} {H : Hp} {vs : List V} {x y : D} (r : RWs K η H vs [.d x, .d y]) : ∃ v w, vs = [v, w] ∧ Rp K η H v x ∧ Rp K η H w y := by
  cases r with
  | cons r1 t => cases t with
    | cons r2 t => cases t; cases r1 with
      | d r1 => cases r2 with
        | d r2 => exact ⟨_, _, rfl, r1, r2⟩
theorem rs_one {K : PySem.W.Frag} {η : Zs} {H : Hp} {vs : List V} {x : D} (r : RWs K η H vs [.d x]) : ∃ v, vs = [v] ∧ Rp K η H v x := by
  cases r with
  | cons r1 t => cases t; cases r1 with
    | d r1 => exact ⟨_, rfl, r1⟩
theorem ia_seq {σ : Sg} {H : Hp} {R : It → Hp → Prop} {ik : IK} {K : PySem.W.Frag} (q : iW K ca (fun ρ => bnd (ms ρ) fun ws => opt (itemsOf ik ws)) σ H R) :
    ∃ ws items, itemsOf ik ws = some items ∧ ∀ Q : List V → Hp → Prop, (∀ vs H1 η1 S1, SR K ca η1 H1 S1 → RWs K η1 H1 vs ws → (∀ J, Yields K ca η1 H1 J items → R J H1) → Q vs H1) → tA K ca ms σ H Q := by
  obtain ⟨ρ, S, η, er, sr, q⟩ := q
  have q : post (bnd (ms ρ) (fun ws => opt (itemsOf ik ws)) S) (fun items S' => ∀ J H' η', Grow η H η' H' → SR K ca η' H' S' → Yields K ca η' H' J items → R J H') := q
  rw [post_bnd] at q
  obtain ⟨ws, S1, ew, q1⟩ := post_ok q
  obtain ⟨items, ei, q2⟩ := post_opt1 q1
  have q2 : ∀ J H' η', Grow η H η' H' → SR K ca η' H' S1 → Yields K ca η' H' J items → R J H' := q2
  exact ⟨ws, items, ei, fun Q k => ⟨ρ, S, η, er, sr, by rw [ew]; exact fun vs H1 η1 g s1 r => k vs H1 η1 S1 s1 r fun J y => q2 J H1 η1 g s1 y⟩⟩
theorem i_rng1 {a : Expr} (hg : Gl X "range") (hm : X.mg "range" = none) (ha : PA X [a] (tA X.K ca ms)) (hs : starEach [a] X.env = [(false, eval a X.env)]) :
    PI X tg (.Call (.Name "range" p) [a] [] pos) (iW X.K ca fun ρ => bnd (ms ρ) fun ws => match ws with
      | [w] => opt (itemsOf .rng [w])
      | _ => bad) := by
  refine PI.of (pi_range1 hg hm ha hs) fun σ H R q => ?_
  obtain ⟨ρ, S, η, er, sr, q⟩ := q
  have q : post (bnd (ms ρ) (fun ws => match ws with
      | [w] => opt (itemsOf .rng [w])
      | _ => bad) S) (fun items S' => ∀ J H' η', Grow η H η' H' → SR X.K ca η' H' S' → Yields X.K ca η' H' J items → R J H') := q
  rw [post_bnd] at q
  obtain ⟨ws, S1, ew, q1⟩ := post_ok q
  refine ⟨ρ, S, η, er, sr, ?_⟩
  rw [ew]
  intro vs H1 η1 g s1 r
  cases r with
  | nil => exact q1.elim
  | @cons v _ w _ r1 t => cases t with
    | cons _ _ => exact q1.elim
    | nil =>
      have q1 : post (opt (itemsOf .rng [w]) S1) (fun items S' => ∀ J H' η', Grow η H η' H' → SR X.K ca η' H' S' → Yields X.K ca η' H' J items → R J H') := q1
      obtain ⟨items, ei, q2⟩ := post_opt1 q1
      have q2 : ∀ J H' η', Grow η H η' H' → SR X.K ca η' H' S1 → Yields X.K ca η' H' J items → R J H' := q2
      cases r1 with
      | r _ => cases ei
      | @d _ d r1 => cases r1 with
        | int n =>
          unfold itemsOf at ei
          obtain ⟨c, e⟩ := ite_some ei
          subst e
          refine ⟨n, rfl, c.1, c.2, q2 _ H1 η1 g s1 ?_⟩
          have y := yl_rng (K := X.K) (ca := ca) (η := η1) (H := H1) (lo := 0) (n := n.toNat)
          simpa using y
        | _ => cases ei
theorem i_rng2 {a b : Expr} (hg : Gl X "range") (hm : X.mg "range" = none) (ha : PA X [a, b] (tA X.K ca ms)) (hs : starEach [a, b] X.env = [(false, eval a X.env), (false, eval b X.env)]) (hs2 : starEach [b] X.env = [(false, eval b X.env)]) :
    PI X tg (.Call (.Name "range" p) [a, b] [] pos) (iW X.K ca fun ρ => bnd (ms ρ) fun ws => match ws with
      | [w, u] => opt (itemsOf .rng [w, u])
      | _ => bad) := by
  refine PI.of (pi_range2 hg hm ha hs hs2) fun σ H R q => ?_
  obtain ⟨ρ, S, η, er, sr, q⟩ := q
  have q : post (bnd (ms ρ) (fun ws => match ws with
      | [w, u] => opt (itemsOf .rng [w, u])
      | _ => bad) S) (fun items S' => ∀ J H' η', Grow η H η' H' → SR X.K ca η' H' S' → Yields X.K ca η' H' J items → R J H') := q
  rw [post_bnd] at q
  obtain ⟨ws, S1, ew, q1⟩ := post_ok q
  refine ⟨ρ, S, η, er, sr, ?_⟩
  rw [ew]
  intro vs H1 η1 g s1 r
  cases r with
  | nil => exact q1.elim
  | @cons v _ w _ r1 t => cases t with
    | nil => exact q1.elim
    | @cons v2 _ w2 _ r2 t => cases t with
      | cons _ _ => exact q1.elim
      | nil =>
        have q1 : post (opt (itemsOf .rng [w, w2]) S1) (fun items S' => ∀ J H' η', Grow η H η' H' → SR X.K ca η' H' S' → Yields X.K ca η' H' J items → R J H') := q1
        obtain ⟨items, ei, q2⟩ := post_opt1 q1
        have q2 : ∀ J H' η', Grow η H η' H' → SR X.K ca η' H' S1 → Yields X.K ca η' H' J items → R J H' := q2
        cases r1 with
        | r _ => cases ei
        | @d _ d r1 => cases r2 with
          | r _ => cases r1 <;> cases ei
          | @d _ d2 r2 => cases r1 with
            | int n => cases r2 with
              | int n2 =>
                unfold itemsOf at ei
                obtain ⟨c, e⟩ := ite_some ei
                subst e
                exact ⟨n, n2, rfl, c, q2 _ H1 η1 g s1 yl_rng⟩
              | _ => cases ei
            | _ => cases ei
theorem i_enum {a : Expr} {elts : List Expr} {kk : Nat} {tpos : Pos} (hg : Gl X "enumerate") (hm : X.mg "enumerate" = none) (ha : PA X [a] (tA X.K ca ms)) (hs : starEach [a] X.env = [(false, eval a X.env)]) :
    PI X (.Tuple elts kk tpos) (.Call (.Name "enumerate" p) [a] [] pos) (iW X.K ca fun ρ => bnd (ms ρ) fun ws => opt (itemsOf .enum ws)) := by
  refine PI.of (PI.or (pi_enum hg hm ha hs) (pi_enumT hg hm ha hs)) fun σ H R q => ?_
  obtain ⟨ws, items, ei, k⟩ := ia_seq q
  unfold itemsOf at ei
  split at ei <;> first
    | (cases ei; done)
    | (rename_i e1; cases e1; done)
    | skip
  · cases ei
    refine .inl (k _ fun vs H1 η1 S1 s1 r y => ?_)
    obtain ⟨v, rfl, rr⟩ := rs_one r
    cases rr with
    | lst a b => exact ⟨_, _, rfl, a.sq, y _ (yl_enum a b)⟩
  · cases ei
    refine .inr (k _ fun vs H1 η1 S1 s1 r y => ?_)
    obtain ⟨v, rfl, rr⟩ := rs_one r
    cases rr with
    | tup a b => exact ⟨_, _, rfl, a.sq, y _ (yl_enumT a b)⟩
theorem i_zip {a b : Expr} {elts : List Expr} {kk : Nat} {tpos : Pos} (hg : Gl X "zip") (hm : X.mg "zip" = none) (ha : PA X [a, b] (tA X.K ca ms)) (hs : starEach [a, b] X.env = (false, eval a X.env) :: starEach [b] X.env) (hpl : (backTo pos (starEach [b] X.env)).any (·.1) = false) :
    PI X (.Tuple elts kk tpos) (.Call (.Name "zip" p) [a, b] [] pos) (iW X.K ca fun ρ => bnd (ms ρ) fun ws => opt (itemsOf .zip ws)) := by
  refine PI.of (RZ.pi_zipA hg hm ha hs hpl) fun σ H R q => ?_
  obtain ⟨ws, items, ei, k⟩ := ia_seq q
  unfold itemsOf at ei
  split at ei <;> first
    | (cases ei; done)
    | (rename_i e1; cases e1; done)
    | skip
  · cases ei
    refine k _ fun vs H1 η1 S1 s1 r y => ?_
    obtain ⟨v, w, rfl, r, r'⟩ := rs_two r
    cases r with
    | lst a b => cases r' with
      | lst a' b' => exact ⟨_, _, _, _, rfl, .inl ⟨a.sq, a'.sq, y _ (yl_zip a a' b b')⟩⟩
  · cases ei
    refine k _ fun vs H1 η1 S1 s1 r y => ?_
    obtain ⟨v, w, rfl, r, r'⟩ := rs_two r
    cases r with
    | tup a b => cases r' with
      | tup a' b' => exact ⟨_, _, _, _, rfl, .inr ⟨a.sq, a'.sq, y _ (yl_zipT a a' b b')⟩⟩
/-! ### built-ins -/
theorem tA_call {K : PySem.W.Frag} {f : B1} {σ : Sg} {H : Hp} {Q : VK} (q : tE K ca (fun ρ => bnd (ms ρ) fun ws => b1W f ws) σ H Q) : tCB (rWs K ca (b1W f)) (tA K ca ms) σ H Q := by
  obtain ⟨ρ, S, η, er, sr, q⟩ := q
  refine tA_seq er sr q fun ws S1 vs H1 η1 g er1 sr1 r1 q1 => ?_
  exact ⟨η1, S1, ws, sr1, r1, q1.imp fun _ _ z => z.mono g⟩
theorem e_biB {f : B1} {id : String} {x : Str} {a : Expr} {es : List Expr} (hc : CallR X (.builtin id) (rWs X.K ca (b1W f))) (hg : Gl X x) (hm : X.mg x = none) (hv : bootBuiltins x = some (.builtin id)) (ha : PA X (a :: es) (tA X.K ca ms)) (hn : x ≠ "__name__") (hdb : (x == ("__debug__" : Str)) = false)
    (he : starEach (a :: es) X.env = (false, eval a X.env) :: starEach es X.env) (hpl : (backTo pos (starEach es X.env)).any (·.1) = false) : PE X (.Call (.Name x p) (a :: es) [] pos) (tE X.K ca fun ρ => bnd (ms ρ) fun ws => b1W f ws) :=
  PE.of (pe_callB hc hg hm hv ha hn hdb he hpl) fun _ _ _ q => tA_call q
theorem e_biT {f : B1} {T : String} {x : Str} {a : Expr} {es : List Expr} (hc : CallR X (.type T) (rWs X.K ca (b1W f))) (hg : Gl X x) (hm : X.mg x = none) (hv : bootBuiltins x = some (.type T)) (ha : PA X (a :: es) (tA X.K ca ms)) (hn : x ≠ "__name__") (hdb : (x == ("__debug__" : Str)) = false)
    (he : starEach (a :: es) X.env = (false, eval a X.env) :: starEach es X.env) (hpl : (backTo pos (starEach es X.env)).any (·.1) = false) : PE X (.Call (.Name x p) (a :: es) [] pos) (tE X.K ca fun ρ => bnd (ms ρ) fun ws => b1W f ws) :=
  PE.of (pe_callTy hc hg hm hv ha hn hdb he hpl) fun _ _ _ q => tA_call q
/-- isinstance(a, T) -/
theorem pe_tyn {T : String} {x : Str} (hg : Gl X x) (hm : X.mg x = none) (hv : bootBuiltins x = some (.type T)) (hn : x ≠ "__name__") (hdb : (x == ("__debug__" : Str)) = false) : PE X (.Name x p) (tC (.ty T)) :=
  ⟨fun pins s σ H Q I h => ld_blt I hg hm hv ⟨.ty T, H, I, rfl, h⟩ hn hdb⟩
theorem e_isi {T : String} {x : Str} {a : Expr} {p2 : Pos} (hg : Gl X "isinstance") (hm : X.mg "isinstance" = none) (hb : bootBuiltins "isinstance" = some (.builtin "isinstance")) (hg2 : Gl X x) (hm2 : X.mg x = none) (hv : bootBuiltins x = some (.type T)) (hn : x ≠ "__name__") (hdb : (x == ("__debug__" : Str)) = false) (ha : PE X a (tE X.K ca me))
    (he : starEach [a, .Name x p2] X.env = (false, eval a X.env) :: starEach [.Name x p2] X.env) (he2 : starEach [.Name x p2] X.env = (false, eval (.Name x p2) X.env) :: starEach [] X.env) (hpl : (backTo pos (starEach [.Name x p2] X.env)).any (·.1) = false) :
    PE X (.Call (.Name "isinstance" p) [a, .Name x p2] [] pos) (tE X.K ca fun ρ => bnd (me ρ) fun w => b1W (.isI T) [w]) := by
  refine PE.of (pe_callB (isi_ok (ca := ca) (T := T)) hg hm hb (pa_cons ha (pa_cons (pe_tyn hg2 hm2 hv hn hdb) pa_nil he2) he) (by decide) (by decide) he hpl) fun σ H Q q => ?_
  obtain ⟨ρ, S, η, er, sr, q⟩ := q
  refine tE_seq er sr q fun w S1 v H1 η1 g er1 sr1 r1 q1 => ?_
  exact ⟨v, rfl, η1, S1, w, sr1, r1, q1.imp fun _ _ z => z.mono g⟩
end
end MP

/-! What is walked; built-ins; methods; f-strings; op=. -/
namespace MP
open PySem L2 PySem.Spec PyProof.Rows
section
variable {X : Cx} {ca : Nat → Addr} {pos p : Pos} {e : Expr} {me : Sl → M W} {tg : Expr} {ms : Sl → M (List W)}
/-! ### methods -/
theorem rcv_app {x : W} {S S' : Sto} {u : Unit} (h : rcv .append x S = some (.ok u S')) : ∃ i xs, x = .r i ∧ S[i]? = some (.lst xs) ∧ S' = S := by
  cases x with
  | d _ => cases h
  | r i =>
    unfold rcv at h
    dsimp only at h
    split at h
    · cases h; exact ⟨i, _, rfl, by assumption, rfl⟩
    · cases h
theorem rcv_sd {x : W} {S S' : Sto} {u : Unit} (h : rcv .setdefault x S = some (.ok u S')) : ∃ i xs, x = .r i ∧ S[i]? = some (.dk xs) ∧ S' = S := by
  cases x with
  | d _ => cases h
  | r i =>
    unfold rcv at h
    dsimp only at h
    split at h
    · cases h; exact ⟨i, _, rfl, by assumption, rfl⟩
    · cases h
theorem e_app {o a : Expr} {mo ma : Sl → M W} {apos cpos : Pos} (ho : PE X o (tE X.K ca mo)) (ha : PE X a (tE X.K ca ma)) (hs1 : starEach [a] X.env = (false, eval a X.env) :: starEach [] X.env)
    (hbase : attributeBase o "append" X.env (eval o X.env) = eval o X.env)
    (hfew : ((backTo cpos (starEach [a] X.env)).all (fun x => !x.1) && (backToKw cpos (keywordEach [] X.env)).all (fun x => x.1.isSome)
      && decide (([a] : List Expr).length + ([] : List Keyword).length + (if ([] : List Keyword).isEmpty then 0 else 1) < 30)) = true)
    (hline : (apos.endLine == cpos.line) = true) (hplain : (backTo cpos (starEach [] X.env)).any (·.1) = false) :
    PE X (.Call (.Attribute o "append" apos) [a] [] cpos) (tE X.K ca fun ρ => bnd (mo ρ) fun x => bnd (rcv .append x) fun _ => bnd (ma ρ) fun w => meW .append x [w]) := by
  refine PE.of (pe_bm PySem.F.plainAttrs_list PySem.F.slot_list_append PySem.F.type_list_append (me_append (ca := ca)) ho (a_cons ha a_nil hs1) hbase hfew hline hs1 hplain) fun σ H Q q => ?_
  obtain ⟨ρ, S, η, er, sr, q⟩ := q
  refine tE_seq er sr q fun x S1 v H1 η1 g er1 sr1 r1 q1 => ?_
  have q1 : post (bnd (rcv .append x) (fun _ => bnd (ma ρ) fun w => meW .append x [w]) S1) (qW X.K ca η H Q) := q1
  rw [post_bnd] at q1
  obtain ⟨u, S2, ew, qz⟩ := post_ok q1
  clear q1
  obtain ⟨i, xs, rfl, es, rfl⟩ := rcv_app ew
  cases r1 with
  | @r i a0 ea =>
    obtain ⟨vs, hv, kr⟩ := sr1.at ea es
    refine ⟨.inl ⟨rfl, vs, .inl (.inl hv)⟩, ?_⟩
    rw [post_bnd] at qz
    refine ⟨ρ, S2, η1, er1, sr1, ?_⟩
    show post (bnd (ma ρ) (fun w => bnd (ret []) fun ws => ret (w :: ws)) S2) _
    rw [post_bnd]
    refine qz.imp fun w S3 q3 vs2 H2 η2 g2 sr2 r2 => ?_
    exact ⟨η2, S3, .r i, [w], sr2, RW.grow g2 (.r ea), r2, q3.imp fun _ _ z => z.mono (g.trans g2)⟩
theorem look_none_any {κ β : Type} [DecidableEq κ] {k : κ} : ∀ {kvs : List (κ × β)}, look k kvs = none → (kvs.any fun kv => decide (kv.1 = k)) = false
  | [], _ => rfl
  | (j, x) :: r, h => by
    unfold look at h
    by_cases e : j = k
    · rw [if_pos e] at h; cases h
    · rw [if_neg e] at h
      rw [List.any_cons, look_none_any h]
      simp [e]
theorem e_sd {o a b : Expr} {mo ma mb : Sl → M W} {apos cpos : Pos} (ho : PE X o (tE X.K ca mo)) (ha : PE X a (tE X.K ca ma)) (hb : PE X b (tE X.K ca mb)) (m : M2 X o "setdefault" apos a b cpos) :
    PE X (.Call (.Attribute o "setdefault" apos) [a, b] [] cpos) (tE X.K ca fun ρ => bnd (mo ρ) fun x => bnd (rcv .setdefault x) fun _ => bnd (ma ρ) fun y => bnd (mb ρ) fun z => meW .setdefault x [y, z]) := by
  refine PE.of (pe_dsetd ho ha hb m) fun σ H Q q => ?_
  obtain ⟨ρ, S, η, er, sr, q⟩ := q
  refine tE_seq er sr q fun x S1 v H1 η1 g er1 sr1 r1 q1 => ?_
  have q1 : post (bnd (rcv .setdefault x) (fun _ => bnd (ma ρ) fun y => bnd (mb ρ) fun z => meW .setdefault x [y, z]) S1) (qW X.K ca η H Q) := q1
  rw [post_bnd] at q1
  obtain ⟨u, S2, ew, qz⟩ := post_ok q1
  clear q1
  obtain ⟨i, kvs, rfl, es, rfl⟩ := rcv_sd ew
  cases r1 with
  | @r i a0 ea =>
    obtain ⟨vs, hv, kr⟩ := sr1.at ea es
    refine ⟨a0, rfl, .inl ⟨vs, .inl hv⟩, ?_⟩
    refine tE_seq er1 sr1 qz fun y S2 v2 H2 η2 g2 er2 sr2 r2 q2 => ?_
    refine tE_seq er2 sr2 q2 fun z S3 v3 H3 η3 g3 er3 sr3 r3 q3 => ?_
    have ea3 : η3.l[i]? = some a0 := g3.at (g2.at ea)
    cases r2 with
    | r _ => exact q3.elim
    | @d _ k r2 =>
      have q3 : post (match S3[i]?, keyD k with
        | some (.dk kvs), some k => if kvs.length < SZ then
            match look k kvs with
            | some x => some (Out.ok x S3)
            | none => some (Out.ok z (S3.set i (.dk (kvs ++ [(k, z)]))))
          else none
        | _, _ => none) (qW X.K ca η H Q) := q3
      split at q3
      · rename_i kvs3 k' es3 ek
        obtain ⟨vs3, hv3, kr3⟩ := sr3.at ea3 es3
        have gg := (g.trans g2).trans g3
        split at q3
        · rename_i hz
          have ey := keyD_rel r2 ek
          obtain ⟨l1, l2⟩ := kr3.look (k := k')
          refine ⟨vs3, k', hv3, ey, szl' (by rw [kr3.length]; exact hz), fun u hu => ?_, fun hu => ?_⟩
          · cases el : look k' kvs3 with
            | none => rw [l2 el] at hu; cases hu
            | some w0 =>
              rw [el] at q3
              obtain ⟨v0, e0, r0⟩ := l1 w0 el
              rw [e0] at hu
              cases hu
              exact q3 _ H3 η3 gg sr3 r0
          · cases el : look k' kvs3 with
            | some w0 =>
              obtain ⟨v0, e0, r0⟩ := l1 w0 el
              rw [e0] at hu; cases hu
            | none =>
              rw [el] at q3
              have g4 := grow_set (o := .dK (putK vs3 k' v3)) sr3 ea3
              have ep : kvs3 ++ [(k', z)] = put kvs3 k' z := by
                unfold put
                rw [look_none_any el]
                rfl
              refine q3 _ _ η3 (gg.trans g4) (sr3.set ea3 ?_) (r3.grow g4)
              rw [ep]
              exact ⟨_, upd_same, KR.put (r3.grow g4) (kr3.grow g4)⟩
        · exact q3.elim
      · exact q3.elim
end
end MP

/-! What is walked; built-ins; methods; f-strings; op=. -/
namespace MP
open PySem L2 PySem.Spec PyProof.Rows
section
variable {X : Cx} {ca : Nat → Addr} {pos p : Pos} {e : Expr} {me : Sl → M W} {tg : Expr} {ms : Sl → M (List W)}
/-! ### f-strings -/
theorem e_fmt {a : Expr} {ma : Sl → M W} (ha : PE X a (tE X.K ca ma)) : PE X (.FormattedValue a (-1) none pos) (tE X.K ca fun ρ => bnd (ma ρ) fun w => b1W .fmt [w]) := by
  refine PE.of (pe_fmt ha) fun σ H Q q => ?_
  obtain ⟨ρ, S, η, er, sr, q⟩ := q
  refine tE_seq er sr q fun x S1 v H1 η1 g er1 sr1 r1 q1 => ?_
  rw [b1_only (by intro z; cases z) (by intro z; cases z)] at q1
  cases r1 with
  | r _ => exact q1.elim
  | @d _ d r =>
    have q1 : post (((fmtD d).map PyData.str).map fun y => Out.ok (W.d y) S1) (qW X.K ca η H Q) := q1
    obtain ⟨y, ey, q2⟩ := post_map _ _ _ q1
    obtain ⟨z, e1, e2⟩ := Option.map_eq_some_iff.mp ey
    subst e2
    cases r with
    | str y0 =>
      obtain ⟨c, e1⟩ := ite_some e1
      subst e1
      exact .inl ⟨y0, rfl, szl c, qW.same (qW.mono g q2) sr1 (.d (.str _))⟩
    | int i =>
      obtain ⟨c, e1⟩ := ite_some e1
      subst e1
      exact .inr ⟨i, rfl, c, qW.same (qW.mono g q2) sr1 (.d (.str _))⟩
    | _ => cases e1
inductive PJs (X : Cx) (ca : Nat → Addr) : List Expr → (Sl → M (List W)) → Prop where
  | nil : PJs X ca [] (fun _ => ret [])
  | cons {e : Expr} {m : Sl → M W} {es : List Expr} {r : Sl → M (List W)} (h : PE X e (tE X.K ca m)) (t : PJs X ca es r) : PJs X ca (e :: es) (fun ρ => bnd (m ρ) fun w => bnd (r ρ) fun ws => ret (w :: ws))
def joinM (ws : List W) (acc : Str) : M Str := match dataOf ws with
  | none => bad
  | some xs => match joinD xs acc with
    | none => bad
    | some z => ret z
theorem dataOf_cons {w : W} {ws : List W} {xs : List D} (h : dataOf (w :: ws) = some xs) : ∃ x r, w = .d x ∧ dataOf ws = some r ∧ xs = x :: r := by
  cases w with
  | r _ => cases h
  | d x =>
    unfold dataOf at h
    obtain ⟨m, e1, e2⟩ := Option.map_eq_some_iff.mp h
    exact ⟨x, m, rfl, e1, e2.symm⟩
theorem pj_of {es : List Expr} {ms : Sl → M (List W)} (h : PJs X ca es ms) : ∃ ts, PJ X es ts ∧ ∀ acc σ H Q ρ S η, ER X.K η H σ ρ → SR X.K ca η H S → post (bnd (ms ρ) (fun ws => joinM ws acc) S) (fun z S' => ∀ H' η', Grow η H η' H' → SR X.K ca η' H' S' → Q z H') → tJs ts acc σ H Q := by
  induction h with
  | nil => exact ⟨[], .nil, fun acc σ H Q ρ S η er sr q => q H η (Grow.refl _ _) sr⟩
  | @cons e m es r he t ih =>
    obtain ⟨ts, h1, h2⟩ := ih
    refine ⟨_, .cons he h1, fun acc σ H Q ρ S η er sr q => ?_⟩
    rw [bnd_assoc] at q
    refine tE_seq er sr q fun x S1 v H1 η1 g er1 sr1 r1 q1 => ?_
    rw [bnd_assoc] at q1
    have q1 : post (bnd (r ρ) (fun ws => joinM (x :: ws) acc) S1) _ := q1
    rw [post_bnd] at q1
    obtain ⟨ws, S2, ew, q2⟩ := post_ok q1
    unfold joinM at q2
    cases ed : dataOf (x :: ws) with
    | none => rw [ed] at q2; exact q2.elim
    | some xs =>
      rw [ed] at q2
      obtain ⟨d, rs, rfl, e2, rfl⟩ := dataOf_cons ed
      cases d with
      | str y =>
        have q2 : post ((match (if (acc ++ y).length ≤ SZ then joinD rs (acc ++ y) else none) with
          | none => bad
          | some z => ret z : M Str) S2) (fun z S' => ∀ H' η', Grow η H η' H' → SR X.K ca η' H' S' → Q z H') := q2
        by_cases hz : (acc ++ y).length ≤ SZ
        · rw [if_pos hz] at q2
          cases r1 with
          | d r1 => cases r1 with
            | str _ =>
              refine ⟨y, rfl, szl hz, h2 _ _ _ _ ρ S1 η1 er1 sr1 ?_⟩
              rw [post_bnd, ew]
              show post (joinM ws (acc ++ y) S2) _
              unfold joinM
              rw [e2]
              exact q2.imp fun z S3 k H3 η3 g3 sr3 => k H3 η3 (g.trans g3) sr3
        · rw [if_neg hz] at q2
          exact q2.elim
      | _ => exact q2.elim
theorem e_fs {e1 e2 : Expr} {es : List Expr} (h : PJs X ca (e1 :: e2 :: es) ms) : PE X (.JoinedStr (e1 :: e2 :: es) pos) (tE X.K ca fun ρ => bnd (ms ρ) fun ws => bnd (joinM ws Str.empty) fun z => ret (.d (.str z))) := by
  obtain ⟨ts, h1, h2⟩ := pj_of h
  refine PE.of (pe_joined h1) fun σ H Q q => ?_
  obtain ⟨ρ, S, η, er, sr, q⟩ := q
  refine h2 _ _ _ _ ρ S η er sr ?_
  have q : post (bnd (ms ρ) (fun ws => bnd (joinM ws Str.empty) fun z => ret (.d (.str z))) S) (qW X.K ca η H Q) := q
  rw [← bnd_assoc, post_bnd] at q
  exact q.imp fun z S1 k H1 η1 g1 sr1 => k _ H1 η1 g1 sr1 (.d (.str _))
theorem e_fs1 {e1 : Expr} {m : Sl → M W} (h : PE X e1 (tE X.K ca m)) : PE X (.JoinedStr [e1] pos) (tE X.K ca m) := pe_joined1 h
end
end MP

/-! List comprehensions. -/
namespace MP
open PySem L2 PySem.Spec PyProof.Rows
theorem wipe_at {σ : Sg} : ∀ {vs : List Nat} {i : Nat}, (wipe σ vs)[i]? = if i ∈ vs then σ[i]?.map fun _ => none else σ[i]?
  | [], i => by simp [wipe]
  | v :: vs, i => by
    unfold wipe
    by_cases e : v = i
    · subst e
      rw [if_pos (List.mem_cons_self)]
      by_cases hl : v < σ.length
      · rw [List.getElem?_set_self (by rw [wipe_length]; exact hl), List.getElem?_eq_getElem hl]; rfl
      · rw [List.getElem?_eq_none (by rw [List.length_set, wipe_length]; omega), List.getElem?_eq_none (by omega)]; rfl
    · rw [List.getElem?_set_ne e, wipe_at (vs := vs)]
      have : i ∈ v :: vs ↔ i ∈ vs := ⟨fun m => (List.mem_cons.mp m).elim (fun z => absurd z.symm e) id, List.mem_cons_of_mem _⟩
      by_cases hm : i ∈ vs
      · rw [if_pos hm, if_pos (this.mpr hm)]
      · rw [if_neg hm, if_neg (fun z => hm (this.mp z))]
theorem wipe_same {σ σ2 : Sg} {vs : List Nat} (hl : σ2.length = σ.length) (h : ∀ i, i ∉ vs → σ2[i]? = (wipe σ vs)[i]?) : wipe σ2 vs = wipe σ vs := by
  refine List.ext_getElem? fun i => ?_
  rw [wipe_at, wipe_at]
  by_cases hm : i ∈ vs
  · rw [if_pos hm, if_pos hm]
    by_cases hi : i < σ.length
    · rw [List.getElem?_eq_getElem hi, List.getElem?_eq_getElem (by omega)]; rfl
    · rw [List.getElem?_eq_none (by omega), List.getElem?_eq_none (by omega)]
  · rw [if_neg hm, if_neg hm, h i hm, wipe_at, if_neg hm]
theorem bindL_len : ∀ {is : List Nat} {xs : List D} {ρ ρ' : Sl}, bindL is xs ρ = some ρ' → ρ'.length = ρ.length
  | [], [], _, _, e => by cases e; rfl
  | [], _ :: _, _, _, e => by cases e
  | _ :: _, [], _, _, e => by cases e
  | i :: is, x :: xs, ρ, ρ', e => by
    rw [bindL_len (is := is) (xs := xs) (ρ := ρ.set i (some (.d x))) e, List.length_set]
theorem bindP_len {p : P} {w : W} {ρ ρ' : Sl} (e : bindP p w ρ = some ρ') : ρ'.length = ρ.length := by
  unfold bindP at e
  split at e
  · cases e; rw [List.length_set]
  · exact bindL_len e
  · cases e
theorem wipeW_len {ρ : Sl} : ∀ vs : List Nat, (wipeW ρ vs).length = ρ.length
  | [] => rfl
  | v :: vs => by unfold wipeW; rw [List.length_set, wipeW_len vs]
/-- one turn of a comprehension -/
def lcT (p : P) (own : List Nat) (mt : Sl → M Bool) (me : Sl → M W) (ρ : Sl) (x : D) : M (Option D) := bnd (opt (bindP p (.d x) (wipeW ρ own))) fun ρ' =>
  bnd (mt ρ') fun t => if t = true then bnd (me ρ') fun y => bnd (asD y) fun z => ret (some z) else ret none
def lcE (mi : Sl → M (List D)) (p : P) (own : List Nat) (mt : Sl → M Bool) (me : Sl → M W) : Sl → M W := fun ρ => bnd (mi ρ) fun items => bnd (lcM (lcT p own mt me ρ) items) sizeOk
section
variable {X : Cx} {ca : Nat → Addr}
theorem PTs.of {e : List Expr} {t t' : TT} (h : PTs X e t) (k : ∀ σ H Q, t' σ H Q → t σ H Q) : PTs X e t' := ⟨fun pins s σ H Q I q => h.run pins s σ H Q I (k σ H Q q)⟩
theorem c_nil : PTs X [] (tT X.K ca fun _ => ret true) := by
  refine PTs.of pts_nil fun σ H Q q => ?_
  obtain ⟨ρ, S, η, er, sr, q⟩ := q
  exact q H η (Grow.refl _ _) sr
theorem c_one {c : Expr} {m : Sl → M Bool} (h : PT X c (tT X.K ca m)) : PTs X [c] (tT X.K ca m) := pts_one h
theorem tLc_of {K : PySem.W.Frag} {mi : Sl → M (List D)} {p : P} {own : List Nat} {mt : Sl → M Bool} {me : Sl → M W} (hp : ∀ i ∈ p.slots, i ∈ own) {σ : Sg} {H : Hp} {Q : VK} (q : tE K ca (lcE mi p own mt me) σ H Q) :
    tLc (iW K ca mi) (gW K p) (tT K ca mt) (tE K ca me) own σ H Q := by
  obtain ⟨ρ, S, η, er, sr, q⟩ := q
  have q : post (bnd (mi ρ) (fun items => bnd (lcM (lcT p own mt me ρ) items) sizeOk) S) (qW K ca η H Q) := q
  rw [post_bnd] at q
  refine ⟨ρ, S, η, er, sr, q.imp fun items S1 q1 J H1 η1 g1 sr1 yl L hL => ?_⟩
  rw [post_bnd] at q1
  have gt := grow_tmp (η := η1) (o := .lst []) hL
  have nt : L ∉ η.t := fun m => by
    obtain ⟨_, u, e⟩ := sr1.tmp L (g1.tk L m)
    rw [hL] at e; cases e
  refine ⟨fun i n H2 => i + n = items.length ∧ ∃ S2 η2, Grow η1 H1 η2 H2 ∧ L ∈ η2.t ∧ SR K ca η2 H2 S2 ∧ ∃ av ad, H2 L = some (.lst av) ∧ RpAll K η2 H2 av ad ∧
      post (lcM (lcT p own mt me ρ) (items.drop i) S2) (fun ys S3 => post (sizeOk (ad ++ ys) S3) (qW K ca η H Q)),
    ⟨items.length, by omega, S1, η1.tmp L, gt, List.mem_cons_self, sr1.up hL, [], [], upd_same, .nil, q1⟩, fun i n H2 w => ?_⟩
  obtain ⟨hn, S2, η2, g12, mL, sr2, av, ad, eL, ra, q2⟩ := w
  obtain ⟨y1, y2⟩ := yl η2 H2 S2 g12.gro sr2 i
  by_cases hi : i < items.length
  · refine .inr ⟨(y2 hi).1, fun H3 => ∃ S3 η3, Grow η1 H1 η3 H3 ∧ L ∈ η3.t ∧ SR K ca η3 H3 S3 ∧ ∃ av ad, H3 L = some (.lst av) ∧ RpAll K η3 H3 av ad ∧
      post (lcM (lcT p own mt me ρ) (items.drop (i + 1)) S3) (fun ys S4 => post (sizeOk (ad ++ ys) S4) (qW K ca η H Q)), fun H3 w => ⟨n - 1, by omega, by omega, w⟩, fun x H3 y => ?_⟩
    obtain ⟨d, ed, g3, sr3, rd⟩ := (y2 hi).2 x H3 y
    have e0 : items.drop i = d :: items.drop (i + 1) := by
      rw [List.drop_eq_getElem_cons hi]
      rw [List.getElem?_eq_getElem hi] at ed
      rw [Option.some.inj ed]
    rw [e0] at q2
    unfold lcM at q2
    rw [post_bnd] at q2
    unfold lcT at q2
    obtain ⟨ρ', eb, q3⟩ := post_opt _ _ _ q2
    have g13 := g12.trans g3
    refine ⟨.d d, wipeW ρ own, ρ', η2, .d rd, ((er.grow g1).grow g13).wipe own, eb, fun σ4 er4 hs => ⟨?_, ?_⟩⟩
    · refine wipe_same ?_ fun j hj => hs j fun z => hj (hp j z)
      rw [er4.1, bindP_len eb, wipeW_len, er.1]
    · refine tT_seq er4 sr3 q3 fun b S5 H5 η5 g5 er5 sr5 q5 => ?_
      have gH5 := g12.trans (g3.trans g5)
      have keepL : ∀ {η6 : Zs} {H6 : Hp}, Grow η2 H2 η6 H6 → H6 L = some (.lst av) := fun g6 => (g6.keep L _ eL (sr2.tmp L mL).1).1
      cases b with
      | false =>
        simp only [Bool.false_eq_true, if_false] at q5 ⊢
        have q5 : post (bnd (lcM (lcT p own mt me ρ) (items.drop (i + 1))) (fun ys => ret ys) S5) _ := q5
        rw [post_bnd] at q5
        exact ⟨S5, η5, gH5, (g3.trans g5).tk L mL, sr5, av, ad, keepL (g3.trans g5), RpAll.grow (g3.trans g5) _ _ ra, q5⟩
      | true =>
        simp only [if_true] at q5 ⊢
        refine tE_seq er5 sr5 q5 fun w S6 v H6 η6 g6 er6 sr6 r6 q6 => ?_
        cases r6 with
        | r _ => exact q6.elim
        | @d _ z r6 =>
          have q6 : post (bnd (lcM (lcT p own mt me ρ) (items.drop (i + 1))) (fun ys => ret (z :: ys)) S6) (fun ys S3 => post (sizeOk (ad ++ ys) S3) (qW K ca η H Q)) := q6
          rw [post_bnd] at q6
          have g36 := (g3.trans g5).trans g6
          have mL6 : L ∈ η6.t := g36.tk L mL
          have hz : ad.length < SZ := by
            obtain ⟨ys, S7, _, q7⟩ := post_ok q6
            have q7 : post (sizeOk (ad ++ z :: ys) S7) (qW K ca η H Q) := q7
            unfold sizeOk at q7
            by_cases c : (ad ++ z :: ys).length ≤ SZ
            · rw [List.length_append, List.length_cons] at c; omega
            · rw [if_neg c] at q7; exact q7.elim
          have ra6 := RpAll.grow g36 _ _ ra
          have gw : Grow η1 H1 η6 (upd H6 L (.lst (av ++ [v]))) := by
            have g16 := g12.trans g36
            refine ⟨g16.pre, fun a u e n => ?_, fun a u e n n2 => g16.tm a u e n n2, g16.tk⟩
            have ne : a ≠ L := fun z => by rw [z, hL] at e; cases e
            rw [upd_ne ne]
            exact g16.keep a u e n
          refine ⟨av, keepL g36, szl' (by rw [ra.length]; exact hz), S6, η6, gw, mL6, sr6.wr mL6, av ++ [v], ad ++ [z], upd_same, (RpAll.wr mL6 _ _ ra6).append (.cons (Rp.wr mL6 _ _ r6) .nil), q6.imp fun ys S7 q7 => ?_⟩
          have q7 : post (sizeOk (ad ++ z :: ys) S7) (qW K ca η H Q) := q7
          rw [List.append_assoc]
          exact q7
  · rw [List.drop_of_length_le (by omega)] at q2
    have q2 : post (sizeOk (ad ++ []) S2) (qW K ca η H Q) := q2
    rw [List.append_nil] at q2
    unfold sizeOk at q2
    by_cases c : ad.length ≤ SZ
    · rw [if_pos c] at q2
      have q2 : qW K ca η H Q (.d (.list ad)) S2 := q2
      refine .inl ⟨y1 (by omega), q2 (.ref L) H2 (η2.drp L) (grow_drp (g1.trans g12) nt) sr2.drp (.d (.lst (.inl ⟨.inl eL, (sr2.tmp L mL).1, fun m => ?_⟩) (RpAll.drp _ _ ra)))⟩
      have := (List.mem_filter.mp m).2
      simp at this
    · rw [if_neg c] at q2
      exact q2.elim
theorem e_lc (ck : Ck X) {elt tg iter : Expr} {ifs : List Expr} {scope : Scope} {own : List (Str × Nat)} {pos : Pos} {p : P} {mi : Sl → M (List D)} {mt : Sl → M Bool} {me : Sl → M W} (hi : PI X tg iter (iW X.K ca mi)) (ok : BlkOk X.N X.env.scope scope own) (hp : ∀ i ∈ p.slots, i ∈ own.map (·.2))
    (hg : ∀ (s : Shared) (H : Hp) (C : Addr) (cl : List (Str × Addr)) (fp : List Addr), PG (X.blk s H scope (compEnvC scope cl C X.env) fp) tg (gW X.K p)) (ht : ∀ (s : Shared) (H : Hp) (C : Addr) (cl : List (Str × Addr)) (fp : List Addr), PTs (X.blk s H scope (compEnvC scope cl C X.env) fp) ifs (tT X.K ca mt))
    (he : ∀ (s : Shared) (H : Hp) (C : Addr) (cl : List (Str × Addr)) (fp : List Addr), PE (X.blk s H scope (compEnvC scope cl C X.env) fp) elt (tE X.K ca me)) (hs : ∀ x, foldedSetIterable iter X.env x = pure x) :
    PE X (.ListComp elt [⟨tg, iter, ifs, 0⟩] scope pos) (tE X.K ca (lcE mi p (own.map (·.2)) mt me)) :=
  PE.of (pe_lc ck.calm ck.nd hi ok hg ht he hs) fun _ _ _ q => tLc_of hp q
theorem s_setLc (ck : Ck X) {i : Nat} {y : Str} {py spos : Pos} {elt tg iter : Expr} {ifs : List Expr} {scope : Scope} {own : List (Str × Nat)} {pos : Pos} {p : P} {mi : Sl → M (List D)} {mt : Sl → M Bool} {me : Sl → M W} (hy : X.N[i]? = some y) (hyl : X.env.scope.names.lookup y = some .local)
    (hsw : swapsWith (.ListComp elt [⟨tg, iter, ifs, 0⟩] scope pos) (some (.Name y py)) spos.line X.env = pure true) (hi : PI X tg iter (iW X.K ca mi)) (ok : BlkOk X.N X.env.scope scope own) (hp : ∀ i ∈ p.slots, i ∈ own.map (·.2))
    (hg : ∀ (s : Shared) (H : Hp) (C : Addr) (cl : List (Str × Addr)) (fp : List Addr), PG (X.blk s H scope (compEnvC scope cl C X.env) fp) tg (gW X.K p)) (ht : ∀ (s : Shared) (H : Hp) (C : Addr) (cl : List (Str × Addr)) (fp : List Addr), PTs (X.blk s H scope (compEnvC scope cl C X.env) fp) ifs (tT X.K ca mt))
    (he : ∀ (s : Shared) (H : Hp) (C : Addr) (cl : List (Str × Addr)) (fp : List Addr), PE (X.blk s H scope (compEnvC scope cl C X.env) fp) elt (tE X.K ca me)) (hs : ∀ x, foldedSetIterable iter X.env x = pure x) :
    PS X (.Assign [.Name y py] (.ListComp elt [⟨tg, iter, ifs, 0⟩] scope pos) spos) (tS X.K ca fun ρ => bnd (lcE mi p (own.map (·.2)) mt me ρ) fun w => bnd (opt (bindP (.nm i) w ρ)) fun ρ' => ret (.nx ρ')) := by
  refine PS.of (ps_setLc ck.calm ck.nd hy hyl hsw hi ok hg ht he hs) fun D σ H q => ?_
  obtain ⟨ρ, S, η, er, sr, q⟩ := q
  refine tLc_of hp (tE_seq er sr q fun w S1 v H1 η1 g er1 sr1 r1 q1 => ?_)
  have q1 : qS X.K ca η H D (.nx (ρ.set i (some w))) S1 := q1
  exact q1 H1 η1 g sr1 _ (er1.set r1 i)
end
end MP

/-! Defs, calls, a law's end. -/
namespace MP
open PySem L2 PySem.Spec PyProof.Rows
/-- a def: np parameters, nsl names -/
def fnB (np nsl : Nat) (body : Sl → M Fl) (ws : List W) : M W := fun S => if ws.length = np then
  bnd (body (ws.map some ++ List.replicate (nsl - ws.length) none)) (fun f => match f with
    | .nx _ => finB S.length (.d .none)
    | .rt w => finB S.length w
    | _ => bad) S else none
section
variable {K : PySem.W.Frag} {ca : Nat → Addr} {η : Zs} {H : Hp} {n : Nat}
abbrev Zs.tk (z : Zs) (n : Nat) : Zs := ⟨z.l.take n, z.t⟩
mutual
theorem Rp.tk : ∀ (d : D) (v : V), Rp K η H v d → Rp K (η.tk n) H v d
  | .none, _, h => by cases h; exact .non
  | .bool b, _, h => by cases h; exact .bl b
  | .int i, _, h => by cases h; exact .int i
  | .str x, _, h => by cases h; exact .str x
  | .list ds, _, h => by
    cases h with
    | lst a b => exact .lst (a.elim (fun a => .inl ⟨a.1, fun m => a.2.1 (List.mem_of_mem_take m), a.2.2⟩) .inr) (RpAll.tk ds _ b)
  | .tuple ds, _, h => by
    cases h with
    | tup a b => exact .tup (a.elim (fun a => .inl ⟨a.1, fun m => a.2.1 (List.mem_of_mem_take m), a.2.2⟩) .inr) (RpAll.tk ds _ b)
  | .dict _, _, h => by cases h
theorem RpAll.tk : ∀ (ds : List D) (vs : List V), RpAll K η H vs ds → RpAll K (η.tk n) H vs ds
  | [], _, h => by cases h; exact .nil
  | d :: ds, _, h => by
    cases h with
    | cons a b => exact .cons (Rp.tk d _ a) (RpAll.tk ds _ b)
end
theorem RW.tk {v : V} {w : W} (h : RW K η H v w) (b : w.below n = true) : RW K (η.tk n) H v w := by
  cases h with
  | d r => exact .d (Rp.tk _ _ r)
  | r e =>
    have hn := of_decide_eq_true b
    exact .r (by rw [List.getElem?_take_of_lt hn]; exact e)
theorem RWs.tk : ∀ {vs : List V} {ws : List W}, RWs K η H vs ws → ws.all (W.below n) = true → RWs K (η.tk n) H vs ws
  | _, _, .nil, _ => .nil
  | _, _, .cons r t, b => by
    rw [List.all_cons, Bool.and_eq_true] at b
    exact .cons (r.tk b.1) (RWs.tk t b.2)
theorem KR.tk {κ : Type} : ∀ {vs : List (κ × V)} {ws : List (κ × W)}, KR K η H vs ws → (ws.all fun p => p.2.below n) = true → KR K (η.tk n) H vs ws
  | _, _, .nil, _ => .nil
  | _, _, .cons r t, b => by
    rw [List.all_cons, Bool.and_eq_true] at b
    exact .cons (r.tk b.1) (KR.tk t b.2)
theorem OR.tk {a : Addr} {o : O} (h : OR K ca η H a o) (b : o.below n = true) : OR K ca (η.tk n) H a o := by
  cases o with
  | lst _ => obtain ⟨vs, q, r⟩ := h; exact ⟨vs, q, r.tk b⟩
  | dk _ => obtain ⟨vs, q, r⟩ := h; exact ⟨vs, q, r.tk b⟩
  | dt _ => obtain ⟨vs, q, r⟩ := h; exact ⟨vs, q, r.tk b⟩
  | ins _ _ => obtain ⟨dx, vs, q, r⟩ := h; exact ⟨dx, vs, q, r.tk b⟩
theorem take_at {α : Type} {l : List α} {i : Nat} {a : α} (h : (l.take n)[i]? = some a) : i < n ∧ l[i]? = some a := by
  have hi := (List.getElem?_eq_some_iff.mp h).1
  rw [List.length_take] at hi
  have hn : i < n := by omega
  rw [List.getElem?_take_of_lt hn] at h
  exact ⟨hn, h⟩
theorem SR.tk {S : Sto} (h : SR K ca η H S) (b : (S.take n).all (O.below n) = true) : SR K ca (η.tk n) H (S.take n) := by
  refine ⟨by rw [List.length_take, List.length_take, h.len], h.nd.sublist (List.take_sublist _ _), fun a m => ?_, fun i a o e1 e2 => ?_⟩
  · obtain ⟨x, y⟩ := h.tmp a m
    exact ⟨fun z => x (List.mem_of_mem_take z), y⟩
  · obtain ⟨_, e1⟩ := take_at e1
    exact (h.obj i a o e1 (take_at e2).2).tk (List.all_eq_true.mp b o (List.mem_of_getElem? e2))
theorem qW.left {Q : VK} {w : W} {S : Sto} (h : qW K ca η H Q w (leave η.l.length w S)) {η' : Zs} {H' : Hp} (g : Grow η H η' H') (sr : SR K ca η' H' S) {v : V} (r : RW K η' H' v w) : Q v H' := by
  unfold leave at h
  split at h
  · exact h v H' η' g sr r
  · cases w with
    | r _ => exact h v H' η' g sr r
    | d x =>
      dsimp only at h
      split at h
      · rename_i b
        refine h v H' (η'.tk η.l.length) ⟨?_, fun a o e n => ?_, fun a o e n n2 => g.tm a o e n n2, g.tk⟩ (sr.tk b) (r.tk rfl)
        · obtain ⟨m, e⟩ := g.pre
          refine ⟨[], ?_⟩
          show η'.l.take _ = _
          rw [e, List.take_left', List.append_nil]
          rfl
        · obtain ⟨q, m⟩ := g.keep a o e n
          exact ⟨q, fun z => m (List.mem_of_mem_take z)⟩
      · exact h v H' η' g sr r
end

/-! ### a def's promise -/
structure Gn (P : Program) (w : World) (K : PySem.W.Frag) (mg : Str → Option Value) (base : Heap) (ca : Nat → Addr) (k : Nat) (f : Addr) (fd : FuncData) (ps : List Str) (m : List W → M W) : Prop where
  len : ∀ ws S r, m ws S = some r → ws.length = ps.length
  run : ∀ (A : Around) (outer : List Env) (s : Shared) (H : Hp) (args : Args) (us : List Value) (vs : List V) (Q : VK), Room k A → A.guards = some [] → Env0 P w K mg base A outer s H → BindsTo s fd args (ps.zip us) → Vals vs us →
    (∃ η S ws, SR K ca η H S ∧ RWs K η H vs ws ∧ post (m ws S) (qW K ca η H Q)) → codeAny (model P w) A (.call (.ref f) args) (CR CX0 outer P w H s Q E0) s
/-- a global name that calls it -/
structure Cl (P : Program) (w : World) (K : PySem.W.Frag) (mg : Str → Option Value) (base : Heap) (ca : Nat → Addr) (k : Nat) (x : Str) (m : List W → M W) : Prop where
  ex : ∃ (f : Addr) (fd : FuncData) (ps : List Str), Gn P w K mg base ca k f fd ps m ∧ mg x = some (.ref f) ∧ PySem.W.keepIn K (.ref f) = true ∧ Binds K fd ps []
section
variable {X : Cx} {ca : Nat → Addr} {k : Nat} {x : Str} {pos p : Pos} {m : List W → M W} {ms : Sl → M (List W)} {e : Expr} {es : List Expr}
theorem Gn.mono {P : Program} {w : World} {K : PySem.W.Frag} {mg : Str → Option Value} {base : Heap} {j : Nat} {f : Addr} {fd : FuncData} {ps : List Str} (G : Gn P w K mg base ca j f fd ps m) (h : j ≤ k) : Gn P w K mg base ca k f fd ps m :=
  ⟨G.len, fun A o s H a us vs Q r => G.run A o s H a us vs Q (r.mono h)⟩
theorem Cl.mono {P : Program} {w : World} {K : PySem.W.Frag} {mg : Str → Option Value} {base : Heap} {j : Nat} (C : Cl P w K mg base ca j x m) (h : j ≤ k) : Cl P w K mg base ca k x m := by
  obtain ⟨f, fd, ps, G, a, b, c⟩ := C.ex
  exact ⟨f, fd, ps, G.mono h, a, b, c⟩
theorem run_gn {pins : List (Addr × Obj)} {σ : Sg} {H : Hp} {s : Shared} {Q : VK} {us : List Value} {vs : List V} {f : Addr} {fd : FuncData} {ps : List Str} (ck : Ck X) (G : Gn X.prog X.w X.K X.mg X.base ca k f fd ps m) (room : Room k X.A) (bd : Binds X.K fd ps [])
    (I : Inv X pins σ H s) (r : Vals vs us) (h : ∃ η S ws, SR X.K ca η H S ∧ RWs X.K η H vs ws ∧ post (m ws S) (qW X.K ca η H Q)) : wpAny (model X.prog X.w) X.A (call (.ref f) us) (EP X pins σ Q) X.xe s := by
  have lu : us.length = ps.length := by
    obtain ⟨η, S, ws, _, rr, h⟩ := h
    obtain ⟨a, S', e, _⟩ := post_ok h
    rw [← r.length, rr.length]
    exact G.len ws S _ e
  have b0 := bd s us I.kIn (by rw [List.append_nil]; exact lu)
  rw [List.append_nil] at b0
  refine wpAny_call (codeAny_mono (G.run X.A X.stack s H ⟨us, []⟩ us vs Q room ck.gd I.env0 b0 r h) fun res s' hq => ?_)
  match res, hq with
  | .error _, hq => exact hq.elim
  | .ok (.ret u), hq => exact I.after hq
  | .ok .next, hq => exact hq.elim
  | .ok .brk, hq => exact hq.elim
  | .ok .cont, hq => exact hq.elim
theorem e_call (ck : Ck X) (C : Cl X.prog X.w X.K X.mg X.base ca k x m) (room : Room k X.A) (hg : Gl X x) (ha : PA X (e :: es) (tA X.K ca ms)) (hdb : (x == ("__debug__" : Str)) = false)
    (he : starEach (e :: es) X.env = (false, eval e X.env) :: starEach es X.env) (hpl : (backTo pos (starEach es X.env)).any (·.1) = false) : PE X (.Call (.Name x p) (e :: es) [] pos) (tE X.K ca fun ρ => bnd (ms ρ) m) := by
  obtain ⟨f, fd, ps, G, hm, hk, bd⟩ := C.ex
  refine ⟨fun pins s σ H Q I q => ?_⟩
  obtain ⟨ρ, S, η, er, sr, q⟩ := q
  have q' : tA X.K ca ms σ H fun vs H1 => ∃ η S ws, SR X.K ca η H1 S ∧ RWs X.K η H1 vs ws ∧ post (m ws S) (qW X.K ca η H1 Q) :=
    tA_seq er sr q fun ws S1 vs H1 η1 g er1 sr1 r1 q1 => ⟨η1, S1, ws, sr1, r1, q1.imp fun _ _ z => z.mono g⟩
  refine wpAny_Call_Name_kw (ld_glob I hg hm ?_ hdb)
  refine PySem.W.callWith_K (h₀ := X.base) I.ok.mod.kin hk (thn (ha.run pos pins s σ H _ I q') fun us s1 ⟨vs, H1, I1, r, q1⟩ => ⟨I1.kIn, ?_⟩) he hpl
  exact run_gn ck G room bd I1 r q1
theorem e_call0 (ck : Ck X) (C : Cl X.prog X.w X.K X.mg X.base ca k x m) (room : Room k X.A) (hg : Gl X x) (hdb : (x == ("__debug__" : Str)) = false) : PE X (.Call (.Name x p) [] [] pos) (tE X.K ca fun _ => m []) := by
  obtain ⟨f, fd, ps, G, hm, hk, bd⟩ := C.ex
  refine ⟨fun pins s σ H Q I q => ?_⟩
  obtain ⟨ρ, S, η, er, sr, q⟩ := q
  refine wpAny_Call_Name_kw (ld_glob I hg hm ?_ hdb)
  exact PySem.W.callWith_K0 I.kIn hk (run_gn (us := []) (vs := []) ck G room bd I .nil ⟨η, S, [], sr, .nil, q⟩)
end

/-! ### from the body to the promise -/
theorem er_start {K : PySem.W.Frag} {η : Zs} {H : Hp} {N : List Str} {vs : List V} {ws : List W} (r : RWs K η H vs ws) : ER K η H (L2.start N vs) (ws.map some ++ List.replicate (N.length - ws.length) none) := by
  unfold L2.start
  refine ⟨by simp [r.length], fun i w e => ?_⟩
  by_cases hi : i < ws.length
  · rw [List.getElem?_append_left (by simpa using hi), List.getElem?_map] at e
    cases q : ws[i]? with
    | none => rw [q] at e; cases e
    | some w' =>
      rw [q] at e
      cases e
      obtain ⟨v, ev, rv⟩ := r.get q
      refine ⟨v, ?_, rv⟩
      rw [List.getElem?_append_left (by rw [List.length_map, r.length]; exact hi), List.getElem?_map, ev]
      rfl
  · rw [List.getElem?_append_right (by simpa using hi), List.getElem?_replicate] at e
    split at e <;> cases e
section
variable {P : Program} {w : World} {K : PySem.W.Frag} {mg : Str → Option Value} {base : Heap} {ca : Nat → Addr}
/-- the surroundings of a def's body -/
abbrev cxF (P : Program) (w : World) (K : PySem.W.Frag) (mg : Str → Option Value) (base : Heap) (N : List Str) (qual : Str) (st : Stmt) (f : Addr) (cdv : Value) (A : Around) (outer : List Env) (s : Shared) (H : Hp) : Cx :=
  (cxOf CX0 P w K mg base N qual (defScope st) f cdv A outer s H E0).nox
theorem Gn.of {x qual : Str} {st : Stmt} {f : Addr} {fd : FuncData} {N ps : List Str} {k np nsl : Nat} {body : Sl → M Fl} (F : Fun K x qual st f fd) (sc : FnScope N ps (defScope st)) (hnp : ps.length = np) (hns : N.length = nsl)
    (hb : ∀ (cdv : Value) (A : Around) (outer : List Env) (s : Shared) (H : Hp), Room k (cxF P w K mg base N qual st f cdv A outer s H).A → Ck (cxF P w K mg base N qual st f cdv A outer s H) → PSs (cxF P w K mg base N qual st f cdv A outer s H) (defBody st) (tS K ca body)) :
    Gn P w K mg base ca (k + 1) f fd ps (fnB np nsl body) := by
  obtain ⟨c1, d1, v1, v2, v3, a1, cdv, v4, sl, efd, look, code⟩ := F.ex
  subst efd; subst hnp; subst hns
  have ln : ∀ ws S r, fnB ps.length N.length body ws S = some r → ws.length = ps.length := fun ws S r h => by
    unfold fnB at h
    by_cases c : ws.length = ps.length
    · exact c
    · rw [if_neg c] at h; cases h
  refine ⟨ln, fun A outer s H args us vs Q room gd env bind rel hq => ?_⟩
  obtain ⟨η, S, ws, sr, rs, hq⟩ := hq
  have lw : ws.length = ps.length := by
    obtain ⟨_, _, e, _⟩ := post_ok hq
    exact ln _ _ _ e
  have lv : vs.length = ps.length := by rw [rs.length, lw]
  have inK : K.In s.heap := env.mod.kin.keeps fun b o e => (env.bs b o e).1
  have noL : s.heap.NoLimit := env.mod.nolimit.keeps fun b o e => (env.bs b o e).1
  have kinds : ∀ y ∈ ps.zip us, (defScope st).names.lookup y.1 = some .local ∨ ((defScope st).names.lookup y.1 = some .cell ∧ ((cellsFrom (s.heap.objs.size + 1) (defScope st).names []).lookup y.1).isSome = true) := by
    rintro ⟨n, v⟩ hy
    rcases sc.par n (List.of_mem_zip hy).1 with z | z
    · exact Or.inl z
    · exact Or.inr ⟨z, PySem.W.cellsFrom_some _ _ _ (Or.inl z)⟩
  refine codeAny_call_function room.depth (inK _ _ look) rfl sc.co sc.gen rfl (PySem.W.codeRec_of inK code) (bind _ _ _ _ ?_)
  refine wpAny_newFunctionEnv_cells sc.kind kinds fun env' he s1 x1 => ?_
  subst he
  refine ⟨noL.keeps x1.toInCall.keep, codeAny_func ?_⟩
  have room' : Room k (A.deeper (envOfC qual (defScope st) s.heap.objs.size f cdv)) := room.deeper _
  have ck : Ck (cxF P w K mg base N qual st f cdv A outer s H) := by
    refine ⟨rfl, sc.nd, ?_, gd⟩
    have := room'.un
    show (A.deeper (envOfC qual (defScope st) s.heap.objs.size f cdv)).units + 150 < cLine
    omega
  have I0 : Inv (cxOf CX0 P w K mg base N qual (defScope st) f cdv A outer s H E0) [] (L2.start N vs) H s1 := inv_start sc room.hd env lv rel x1
  have hq2 : tS K ca body { nx := fun _ H' => Q .non H', rt := Q } (L2.start N vs) H := by
    refine ⟨_, S, η, er_start rs, sr, ?_⟩
    unfold fnB at hq
    rw [if_pos lw, post_bnd] at hq
    refine hq.imp fun fl S1 z H1 η1 g sr1 => ?_
    rw [← sr.len] at z
    cases fl with
    | nx ρ1 => exact fun σ1 er1 => qW.left (K := K) (ca := ca) z g sr1 (.d .non)
    | rt w1 => exact fun v r => qW.left (K := K) (ca := ca) z g sr1 r
    | bk _ => exact z.elim
    | ct _ => exact z.elim
  refine wpAny_mono (((hb cdv A outer s H room' ck).nox).run [] s1 (L2.start N vs) H _ I0 hq2) (fun fl s' hs => ?_) fun _ _ z => z
  match fl, hs with
  | .ret u, hs => obtain ⟨v, σ', H', J, rv, q⟩ := hs; exact ⟨v, H', J.os, J.bare, J.base, J.hok, rv, q⟩
  | .next, hs => obtain ⟨σ', H', J, q⟩ := hs; exact ⟨.non, H', J.os, J.bare, J.base, J.hok, rfl, q⟩
  | .brk, hs => obtain ⟨_, _, _, q⟩ := hs; exact q.elim
  | .cont, hs => obtain ⟨_, _, _, q⟩ := hs; exact q.elim
end
theorem hns_ok {X : Cx} (h : X.xe = fun _ _ => False) : PassesOwn (model X.prog X.w) X.A X.env X.xe := by rw [h]; exact PassesOwn.never
end MP

/-! A law's end. -/
namespace MP
open PySem L2 PySem.Spec PyProof.Rows
theorem rp_ints {K : PySem.W.Frag} {η : Zs} {H : Hp} : ∀ ns : List Int, RpAll K η H (ns.map V.int) (ns.map PyData.int)
  | [] => .nil
  | n :: ns => .cons (.int n) (rp_ints ns)
/-- what the caller is told of the law's call -/
abbrev Told (s : Shared) : Result → Shared → Prop := fun r s' => r = .ok (.ret (.bool true)) ∧ OldK s.heap s'.heap ∧ s'.os = s.os ∧ AllBare s'.gens
section
variable {P : Program} {w : World} {K : PySem.W.Frag} {mg mb : Str → Option Value} {ca : Nat → Addr} {k : Nat} {fa a : Addr} {fd : FuncData} {x : Str} {m : List W → M W} {s : Shared} {vs : List Value} {ns : List Int}
/-- over a heap in which at most the script is followed -/
theorem told_of {H : Hp} (inK : K.In s.heap) (gl : s.heap.Ns mainGlobals mg) (bl : s.heap.Ns builtinsNs mb) (bb : ∀ x : Str, x ≠ "__name__" → mb x = bootBuiltins x) (nl : s.heap.NoLimit) (ng : s.gens = #[])
    (ea : s.heap.get? a = some { cls := .type "list", data := .seq vs.toArray }) (room : Room k callerA)
    (F : ∀ base : Heap, K.In base → base.Ns mainGlobals mg → Gn P w K mg base ca k fa fd [x] m) (bd : ∀ (s : Shared) (u : Value), BindsTo s fd ⟨[u], []⟩ [(x, u)])
    (fz : Only H) (at' : LstAt K ⟨[], []⟩ H a (ns.map V.int)) (hok : HOk P w H s.heap) (only : ∀ b, H b ≠ none → b = a) (nk : H a ≠ none → K.lookup a = none)
    (hm : ∃ S, m [.d (.list (ns.map .int))] [] = some (.ok (.d (.bool true)) S)) : codeAny (model P w) callerA (.call (.ref fa) ⟨[.ref a], []⟩) (Told s) s := by
  have dictFree : ∀ {b : Addr} {o : Obj} {es : Array DictEntry} {ep : Nat}, s.heap.get? b = some o → o.data = .dict es ep → H b = none := by
    intro b o es ep e d
    by_cases z : H b = none
    · exact z
    · have eb := only b z
      subst eb
      rw [ea] at e
      cases e
      exact (nomatch (show Data.seq vs.toArray _ = Data.dict es ep from d))
  have nsH : ∀ {b : Addr} {f : Str → Option Value}, s.heap.Ns b f → (hidT s.heap H).Ns b f := by
    intro b f h
    obtain ⟨o, es, ep, e, d, r⟩ := h
    exact ⟨o, es, ep, hidT_get e (dictFree e d), d, r⟩
  have inH : K.In (hidT s.heap H) := by
    intro b o e
    refine hidT_get (inK b o e) ?_
    by_cases z : H b = none
    · exact z
    · have eb := only b z
      subst eb
      rw [nk z] at e
      cases e
  have mod : Mod K mg (hidT s.heap H) := ⟨inH, nsH gl, ⟨mb, nsH bl, bb⟩, let ⟨c, h1, h2⟩ := nl; ⟨c, nsH h1, h2⟩⟩
  have env : Env0 P w K mg (hidT s.heap H) callerA [] s H :=
    { frames := rfl, mod := mod, bs := fun b o e => of_hidT e, bsz := Nat.le_of_eq (hidT_size _ _), funs := trivial, frf := fun b z => absurd (show b ∈ ([] : List Addr) from z) (by simp), hok := hok, bare := .of_eq ng }
  have want : ∃ η S ws, SR K ca η H S ∧ RWs K η H [.ref a] ws ∧ post (m ws S) (qW K ca η H fun v _ => v = .bl true) := by
    obtain ⟨S, e⟩ := hm
    refine ⟨⟨[], []⟩, [], [.d (.list (ns.map .int))], ⟨rfl, List.nodup_nil, fun b z => absurd z (by simp), fun i b o e => by simp at e⟩, .cons (.d (.lst at' (rp_ints ns))) .nil, ?_⟩
    rw [e]
    intro v H' η' _ _ r
    cases r with
    | d r => cases r; rfl
  refine codeAny_mono ((F _ inH (nsH gl)).run callerA [] s H ⟨[.ref a], []⟩ [.ref a] [.ref a] _ room rfl env (bd s (.ref a)) (.cons rfl .nil) want) fun r s' h => ?_
  match r, h with
  | .error _, h => exact h.elim
  | .ok .next, h => exact h.elim
  | .ok .brk, h => exact h.elim
  | .ok .cont, h => exact h.elim
  | .ok (.ret u), h =>
    obtain ⟨v, H', os, bare, un, hok', rv, q⟩ := h
    cases (show v = .bl true from q)
    cases (show u = Value.bool true from rv)
    refine ⟨rfl, OldK.of_keep fun b o e => ?_, os, bare⟩
    rcases fz b with z | ⟨ob, xs, z⟩
    · exact un.keep b o e z (fun h => absurd (show b ∈ ([] : List Addr) from h) (by simp)) (by simp)
    · obtain ⟨p1, _⟩ := hok b _ z
      obtain ⟨p2, _⟩ := hok' b _ (un.frzs b ob _ z)
      rw [e] at p1
      cases p1
      exact p2
theorem told (inK : K.In s.heap) (gl : s.heap.Ns mainGlobals mg) (bl : s.heap.Ns builtinsNs mb) (bb : ∀ x : Str, x ≠ "__name__" → mb x = bootBuiltins x) (nl : s.heap.NoLimit) (ng : s.gens = #[])
    (ea : s.heap.get? a = some { cls := .type "list", data := .seq vs.toArray }) (hi : IntsAre vs ns) (small : ns.length ≤ sizeLine) (room : Room k callerA)
    (F : ∀ base : Heap, K.In base → base.Ns mainGlobals mg → Gn P w K mg base ca k fa fd [x] m) (bd : ∀ (s : Shared) (u : Value), BindsTo s fd ⟨[u], []⟩ [(x, u)])
    (hm : ∃ S, m [.d (.list (ns.map .int))] [] = some (.ok (.d (.bool true)) S)) : codeAny (model P w) callerA (.call (.ref fa) ⟨[.ref a], []⟩) (Told s) s := by
  have rel := vals_ints hi
  have len := hi.length
  cases look : K.lookup a with
  | some o =>
    have e := inK a o look
    rw [ea] at e
    cases e
    refine told_of (H := fun _ => none) inK gl bl bb nl ng ea room F bd (fun _ => Or.inl rfl) (.inr (.inr ⟨_, vs.toArray, _, look, rfl, rfl, rfl, ?_, by simpa using rel⟩)) (fun b u z => nomatch (show (none : Option HO) = some u from z)) (fun b z => absurd rfl z) (fun z => absurd rfl z) hm
    rw [List.size_toArray, len]
    exact small
  | none =>
    let G : Hp := fun b => if b = a then some (.frz { cls := .type "list", data := .seq vs.toArray } (.lst (ns.map V.int))) else none
    have Ga : G a = some (.frz { cls := .type "list", data := .seq vs.toArray } (.lst (ns.map V.int))) := if_pos rfl
    have Gn' : ∀ b, b ≠ a → G b = none := fun b z => if_neg z
    have only : ∀ b, G b ≠ none → b = a := fun b z => Classical.byContradiction fun y => z (Gn' b y)
    refine told_of (H := G) inK gl bl bb nl ng ea room F bd (fun b => ?_) (.inl ⟨.inr ⟨_, Ga⟩, by simp, by simp⟩) (fun b u z => ?_) only (fun _ => look) hm
    · by_cases z : b = a
      · exact Or.inr ⟨_, _, by rw [z]; exact Ga⟩
      · exact Or.inl (Gn' b z)
    · have eb := only b (by rw [z]; simp)
      subst eb
      rw [Ga] at z
      cases z
      exact ⟨ea, by rw [List.length_map]; exact small, vs, _, rel, ea⟩
end
/-- the goal that the head leaves -/
theorem end_of {l : PySem.W.OpenLaw} {n k : Nat} {q : Program} {loose : List Str} {XP : (Str → Option Value) → Heap → Prop} {YP : World → Heap → Prop} {d : DefRec} {K : Params → PySem.W.Frag} {ca : Nat → Addr} {x : Str} {m : List W → M W}
    (hn : l.most = some n) (hn2 : n ≤ sizeLine) (hdf : d.params.defaults = []) (room : Room k callerA) (hY : ∀ (w : World) (h : Heap), YP w h → (K w.params).In h)
    (F : ∀ (w : World) (mg : Str → Option Value) (fa : Addr) (h : Heap), (K w.params).In h → h.Ns mainGlobals mg → mg d.name = some (.ref fa) →
      ∃ fd : FuncData, (∀ (s : Shared) (u : Value), BindsTo s fd ⟨[u], []⟩ [(x, u)]) ∧ ∀ base : Heap, (K w.params).In base → base.Ns mainGlobals mg → Gn l.prog w (K w.params) mg base ca k fa fd [x] m)
    (hm : ∀ ns : List Int, ns.length ≤ n → ∃ S, m [.d (.list (ns.map .int))] [] = some (.ok (.d (.bool true)) S)) :
    PySem.W.WalkO q loose XP YP l.row.toRowW d [] (fun f vs => PySem.call f vs) := by
  refine Att.attach_call hn hdf fun w s₀ s mg mb fa o pm cd doc a vs ns G Y ho hd hcd hmg hobj hints hlen hg => ?_
  have inK := hY w _ Y
  obtain ⟨fd, bd, hF⟩ := F w mg fa _ inK G.T.g hmg
  exact told inK G.T.g G.T.b G.T.builtins G.T.nolimit hg hobj hints (Nat.le_trans hlen hn2) room hF bd (hm ns hlen)
end MP

/-! The rules in short. -/
namespace MP
open PySem L2 PySem.Spec PyProof.Rows
abbrev EM := Sl → M W
abbrev AM := Sl → M (List W)
abbrev SM := Sl → M Fl
def kM (d : D) : EM := fun _ => ret (.d d)
def vM (i : Nat) : EM := fun ρ => getV ρ i
def binM (o : B2) (a b : EM) : EM := fun ρ => bnd (a ρ) fun x => bnd (b ρ) fun y => binW o x y
def cmpM (o : C2) (a b : EM) : EM := fun ρ => bnd (a ρ) fun x => bnd (b ρ) fun y => cmpV o x y
def chM (o1 o2 : C2) (a b c : EM) : EM := fun ρ => bnd (a ρ) fun x => bnd (b ρ) fun y => bnd (cmpW o1 x y) fun t => if t = true then bnd (c ρ) fun z => cmpV o2 y z else ret (.d (.bool false))
def negM (a : EM) : EM := fun ρ => bnd (a ρ) fun x => negW x
def notM (a : EM) : EM := fun ρ => bnd (a ρ) fun x => bnd (truW x) fun t => ret (.d (.bool (!t)))
def andM (a b : EM) : EM := fun ρ => bnd (a ρ) fun x => bnd (truW x) fun t => if t = true then b ρ else ret x
def orM (a b : EM) : EM := fun ρ => bnd (a ρ) fun x => bnd (truW x) fun t => if t = true then ret x else b ρ
def iteM (c a b : EM) : EM := fun ρ => bnd (c ρ) fun x => bnd (truW x) fun t => if t = true then a ρ else b ρ
def tupM (ms : AM) : EM := fun ρ => bnd (ms ρ) fun ws => match dataOf ws with
    | some xs => if xs.length ≤ SZ then ret (.d (.tuple xs)) else bad
    | none => bad
def lstM (ms : AM) : EM := fun ρ => bnd (ms ρ) fun ws => match dataOf ws with
    | some xs => if xs.length ≤ SZ then ret (.d (.list xs)) else bad
    | none => bad
def nlM (ms : AM) : EM := fun ρ => bnd (ms ρ) fun ws => if ws.length ≤ SZ then alloc (.lst ws) else bad
def ndkM : EM := fun _ => alloc (.dk [])
def subM (a b : EM) : EM := fun ρ => bnd (a ρ) fun x => bnd (b ρ) fun y => subW x y
def noM : Sl → M (Option W) := fun _ => ret none
def soM (a : EM) : Sl → M (Option W) := fun ρ => bnd (a ρ) fun w => ret (some w)
def slcM (a : EM) (lo hi : Sl → M (Option W)) : EM := fun ρ => bnd (a ρ) fun x => bnd (lo ρ) fun l => bnd (hi ρ) fun h => match asOI l, asOI h with
      | some l, some h => slcW x l h
      | _, _ => bad
def nilM : AM := fun _ => ret []
def consM (a : EM) (r : AM) : AM := fun ρ => bnd (a ρ) fun w => bnd (r ρ) fun ws => ret (w :: ws)
def callM (m : List W → M W) (ms : AM) : EM := fun ρ => bnd (ms ρ) m
def call0M (m : List W → M W) : EM := fun _ => m []
def biM (f : B1) (ms : AM) : EM := fun ρ => bnd (ms ρ) fun ws => b1W f ws
def isiM (T : String) (a : EM) : EM := fun ρ => bnd (a ρ) fun w => b1W (.isI T) [w]
def appM (o a : EM) : EM := fun ρ => bnd (o ρ) fun x => bnd (rcv .append x) fun _ => bnd (a ρ) fun w => meW .append x [w]
def sdM (o a b : EM) : EM := fun ρ => bnd (o ρ) fun x => bnd (rcv .setdefault x) fun _ => bnd (a ρ) fun y => bnd (b ρ) fun z => meW .setdefault x [y, z]
def fmtM (a : EM) : EM := fun ρ => bnd (a ρ) fun w => b1W .fmt [w]
def fsM (ms : AM) : EM := fun ρ => bnd (ms ρ) fun ws => bnd (joinM ws Str.empty) fun z => ret (.d (.str z))
def yesM : Sl → M Bool := fun _ => ret true
/-- what is walked -/
def seqI (a : EM) : Sl → M (List D) := fun ρ => bnd (a ρ) fun w => opt (itemsOf .seq [w])
def rng1I (ms : AM) : Sl → M (List D) := fun ρ => bnd (ms ρ) fun ws => match ws with
      | [w] => opt (itemsOf .rng [w])
      | _ => bad
def rng2I (ms : AM) : Sl → M (List D) := fun ρ => bnd (ms ρ) fun ws => match ws with
      | [w, u] => opt (itemsOf .rng [w, u])
      | _ => bad
def enumI (ms : AM) : Sl → M (List D) := fun ρ => bnd (ms ρ) fun ws => opt (itemsOf .enum ws)
def zipI (ms : AM) : Sl → M (List D) := fun ρ => bnd (ms ρ) fun ws => opt (itemsOf .zip ws)
/-- statements -/
def skM : SM := fun ρ => ret (.nx ρ)
def brkM : SM := fun ρ => ret (.bk ρ)
def cntM : SM := fun ρ => ret (.ct ρ)
def badM : SM := fun _ => bad
def exM (a : EM) : SM := fun ρ => bnd (a ρ) fun _ => ret (.nx ρ)
def retM (a : EM) : SM := fun ρ => bnd (a ρ) fun w => ret (.rt w)
def retN : SM := fun _ => ret (.rt (.d .none))
def ifM (c : EM) (a b : SM) : SM := fun ρ => bnd (tst c ρ) fun t => if t = true then a ρ else b ρ
def asgM (p : P) (a : EM) : SM := fun ρ => bnd (a ρ) fun w => bnd (opt (bindP p w ρ)) fun ρ' => ret (.nx ρ')
def par2M (i j : Nat) (ms : AM) : SM := fun ρ => bnd (ms ρ) fun ws => match ws with
      | [w1, w2] => ret (.nx ((ρ.set i (some w1)).set j (some w2)))
      | _ => bad
def par3M (i j l : Nat) (ms : AM) : SM := fun ρ => bnd (ms ρ) fun ws => match ws with
      | [w1, w2, w3] => ret (.nx (((ρ.set i (some w1)).set j (some w2)).set l (some w3)))
      | _ => bad
def setM (o i e : EM) : SM := fun ρ => bnd (e ρ) fun w => bnd (o ρ) fun x => bnd (i ρ) fun y => bnd (setW x y w) fun _ => ret (.nx ρ)
def whM (c : EM) (b : SM) : SM := fun ρ => whileM (tst c) b WF ρ
def foM (p : P) (mi : Sl → M (List D)) (b : SM) : SM := fun ρ => bnd (mi ρ) fun items => forM p b items ρ
theorem Ck.blk {X : Cx} (h : Ck X) {s : Shared} {H : Hp} {sc : Scope} {ce : Env} {fp : List Addr} : Ck (X.blk s H sc ce fp) := ⟨h.calm, h.nd, h.hu, h.gd⟩
/-- a global constant -/
structure Gc (K : PySem.W.Frag) (mg : Str → Option Value) (x : Str) (d : D) : Prop where
  ex : ∃ v u, mg x = some u ∧ RelV v u ∧ ∀ η H, Rp K η H v d
theorem Gc.int {K : PySem.W.Frag} {mg : Str → Option Value} {x : Str} {i : Int} {t : Tok} (h : mg x = some (.int i t)) : Gc K mg x (.int i) := ⟨⟨.int i, _, h, ⟨t, rfl⟩, fun _ _ => .int i⟩⟩
section
variable {X : Cx} {ca : Nat → Addr} {a b c e : Expr} {ma mb mc : EM} {ms : AM} {pos p p2 : Pos} {es : List Expr} {x : Str} {st : Stmt} {sa sb : List Stmt} {na nb : SM}
theorem r_int {i : Int} {j} : PE X (.Constant (.int i) j pos) (tE X.K ca (kM (.int i))) := e_k pe_int fun _ _ => .int i
theorem r_str {z : Str} {j} : PE X (.Constant (.str z) j pos) (tE X.K ca (kM (.str z))) := e_k pe_str fun _ _ => .str z
theorem r_bl {z : Bool} {j} : PE X (.Constant (.bool z) j pos) (tE X.K ca (kM (.bool z))) := e_k pe_bl fun _ _ => .bl z
theorem r_non {j} : PE X (.Constant .none j pos) (tE X.K ca (kM .none)) := e_k pe_non fun _ _ => .non
theorem r_gc {d : D} (h : Gc X.K X.mg x d) (hg : Gl X x := by rfl) (hd : (x == ("__debug__" : Str)) = false := by decide) : PE X (.Name x pos) (tE X.K ca (kM d)) := by
  obtain ⟨v, u, h1, h2, h3⟩ := h.ex
  exact e_k (pe_glob hg h1 h2 hd) h3
theorem r_v (i : Nat) (hN : X.N[i]? = some x := by rfl) (hv : Vis X.env.scope x := by first | exact Or.inl rfl | exact Or.inr (Or.inl rfl) | exact Or.inr (Or.inr rfl)) (hd : (x == ("__debug__" : Str)) = false := by decide) (hcd : (x == ("__classdict__" : Str)) = false := by decide) :
    PE X (.Name x pos) (tE X.K ca (vM i)) := e_v (pe_var hN hv hd hcd)
theorem r_bin {op : Operator} {o : B2} (ho : opOf op = some o) (ha : PE X a (tE X.K ca ma)) (hb : PE X b (tE X.K ca mb)) : PE X (.BinOp a op b pos) (tE X.K ca (binM o ma mb)) := e_bin ho ha hb
theorem r_cmp (ck : Ck X) {op : CmpOp} {o : C2} (ho : cmpOf op = some o) (ha : PE X a (tE X.K ca ma)) (hb : PE X b (tE X.K ca mb)) (hm : behindInMarks op b = false := by first | exact nomark _ | rfl | with_unfolding_all rfl) : PE X (.Compare a [op] [b] pos) (tE X.K ca (cmpM o ma mb)) := e_cmp ck ho hm ha hb
theorem r_ch (ck : Ck X) {op op' : CmpOp} {o1 o2 : C2} (h1 : cmpOf op = some o1) (h2 : cmpOf op' = some o2) (ha : PE X a (tE X.K ca ma)) (hb : PE X b (tE X.K ca mb)) (hc : PE X c (tE X.K ca mc)) (hm : lastMarks [op, op'] [b, c] = false := by first | rfl | with_unfolding_all rfl) :
    PE X (.Compare a [op, op'] [b, c] pos) (tE X.K ca (chM o1 o2 ma mb mc)) := e_chain ck h1 h2 hm ha hb hc
theorem r_neg (ha : PE X a (tE X.K ca ma)) : PE X (.UnaryOp .USub a pos) (tE X.K ca (negM ma)) := e_neg ha
theorem r_not (ha : PE X a (tE X.K ca ma)) : PE X (.UnaryOp .Not a pos) (tE X.K ca (notM ma)) := e_not ha
theorem r_b1 {op} (ha : PE X a (tE X.K ca ma)) : PE X (.BoolOp op [a] pos) (tE X.K ca ma) := pe_one ha
theorem r_and (ha : PE X a (tE X.K ca ma)) (hb : PE X (.BoolOp .And (b :: es) pos) (tE X.K ca mb)) : PE X (.BoolOp .And (a :: b :: es) pos) (tE X.K ca (andM ma mb)) := e_and ha hb
theorem r_or (ha : PE X a (tE X.K ca ma)) (hb : PE X (.BoolOp .Or (b :: es) pos) (tE X.K ca mb)) : PE X (.BoolOp .Or (a :: b :: es) pos) (tE X.K ca (orM ma mb)) := e_or ha hb
theorem r_ite (hc : PT X c (tT X.K ca (tst mc))) (ha : PE X a (tE X.K ca ma)) (hb : PE X b (tE X.K ca mb)) : PE X (.IfExp c a b pos) (tE X.K ca (iteM mc ma mb)) := e_ite hc ha hb
theorem r_tup {k : Nat} (h : PA X es (tA X.K ca ms)) : PE X (.Tuple es k pos) (tE X.K ca (tupM ms)) := e_tup h
theorem r_lst (h : PA X es (tA X.K ca ms)) : PE X (.List es pos) (tE X.K ca (lstM ms)) := e_lst h
theorem r_nl (h : PA X es (tA X.K ca ms)) : PE X (.List es pos) (tE X.K ca (nlM ms)) := e_nl h
theorem r_ndk : PE X (.Dict [] [] pos) (tE X.K ca ndkM) := e_ndk
theorem r_sub (ck : Ck X) (ha : PE X a (tE X.K ca ma)) (hb : PE X b (tE X.K ca mb)) (hs : PlainIx b := by exact fun _ _ => rfl) : PE X (.Subscript a b pos) (tE X.K ca (subM ma mb)) := e_sub ck hs ha hb
theorem r_slc {lo hi : Option Expr} {ml mh : Sl → M (Option W)} (ha : PE X a (tE X.K ca ma)) (hl : (lo = none ∧ ml = noM) ∨ ∃ e' m', lo = some e' ∧ ml = soM m' ∧ PE X e' (tE X.K ca m')) (hh : (hi = none ∧ mh = noM) ∨ ∃ e' m', hi = some e' ∧ mh = soM m' ∧ PE X e' (tE X.K ca m')) :
    PE X (.Subscript a (.Slice lo hi none p2) pos) (tE X.K ca (slcM ma ml mh)) := e_slc ha hl hh
theorem r_nil : PA X [] (tA X.K ca nilM) := a_nil
theorem r_cons (ha : PE X a (tE X.K ca ma)) (hr : PA X es (tA X.K ca ms)) (hs : starEach (a :: es) X.env = (false, eval a X.env) :: starEach es X.env := by rfl) : PA X (a :: es) (tA X.K ca (consM ma ms)) := a_cons ha hr hs
theorem r_call (ck : Ck X) {m : List W → M W} {k j : Nat} (room : Room k X.A) (C : Cl X.prog X.w X.K X.mg X.base ca j x m) (ha : PA X (e :: es) (tA X.K ca ms)) (hk : j ≤ k := by decide) (hg : Gl X x := by rfl) (hdb : (x == ("__debug__" : Str)) = false := by decide)
    (he : starEach (e :: es) X.env = (false, eval e X.env) :: starEach es X.env := by rfl) (hpl : (backTo pos (starEach es X.env)).any (·.1) = false := by rfl) : PE X (.Call (.Name x p) (e :: es) [] pos) (tE X.K ca (callM m ms)) := e_call ck (C.mono hk) room hg ha hdb he hpl
theorem r_call0 (ck : Ck X) {m : List W → M W} {k j : Nat} (room : Room k X.A) (C : Cl X.prog X.w X.K X.mg X.base ca j x m) (hk : j ≤ k := by decide) (hg : Gl X x := by rfl) (hdb : (x == ("__debug__" : Str)) = false := by decide) : PE X (.Call (.Name x p) [] [] pos) (tE X.K ca (call0M m)) := e_call0 ck (C.mono hk) room hg hdb
theorem r_biB {f : B1} {id : String} (hc : CallR X (.builtin id) (rWs X.K ca (b1W f))) (hm : X.mg x = none) (ha : PA X (a :: es) (tA X.K ca ms)) (hv : bootBuiltins x = some (.builtin id) := by decide +kernel) (hg : Gl X x := by rfl) (hn : x ≠ "__name__" := by decide) (hdb : (x == ("__debug__" : Str)) = false := by decide)
    (he : starEach (a :: es) X.env = (false, eval a X.env) :: starEach es X.env := by rfl) (hpl : (backTo pos (starEach es X.env)).any (·.1) = false := by rfl) : PE X (.Call (.Name x p) (a :: es) [] pos) (tE X.K ca (biM f ms)) := e_biB hc hg hm hv ha hn hdb he hpl
theorem r_biT {f : B1} {T : String} (hc : CallR X (.type T) (rWs X.K ca (b1W f))) (hm : X.mg x = none) (ha : PA X (a :: es) (tA X.K ca ms)) (hv : bootBuiltins x = some (.type T) := by decide +kernel) (hg : Gl X x := by rfl) (hn : x ≠ "__name__" := by decide) (hdb : (x == ("__debug__" : Str)) = false := by decide)
    (he : starEach (a :: es) X.env = (false, eval a X.env) :: starEach es X.env := by rfl) (hpl : (backTo pos (starEach es X.env)).any (·.1) = false := by rfl) : PE X (.Call (.Name x p) (a :: es) [] pos) (tE X.K ca (biM f ms)) := e_biT hc hg hm hv ha hn hdb he hpl
theorem r_isi {T : String} (hm : X.mg "isinstance" = none) (hm2 : X.mg x = none) (ha : PE X a (tE X.K ca ma)) (hv : bootBuiltins x = some (.type T) := by decide +kernel) (hb : bootBuiltins "isinstance" = some (.builtin "isinstance") := by decide +kernel) (hg : Gl X "isinstance" := by rfl) (hg2 : Gl X x := by rfl) (hn : x ≠ "__name__" := by decide) (hdb : (x == ("__debug__" : Str)) = false := by decide)
    (he : starEach [a, .Name x p2] X.env = (false, eval a X.env) :: starEach [.Name x p2] X.env := by rfl) (he2 : starEach [.Name x p2] X.env = (false, eval (.Name x p2) X.env) :: starEach [] X.env := by rfl) (hpl : (backTo pos (starEach [.Name x p2] X.env)).any (·.1) = false := by rfl) :
    PE X (.Call (.Name "isinstance" p) [a, .Name x p2] [] pos) (tE X.K ca (isiM T ma)) := e_isi hg hm hb hg2 hm2 hv hn hdb ha he he2 hpl
theorem r_app {o : Expr} {mo : EM} {apos : Pos} (ho : PE X o (tE X.K ca mo)) (ha : PE X a (tE X.K ca ma)) (hs1 : starEach [a] X.env = (false, eval a X.env) :: starEach [] X.env := by rfl) (hbase : attributeBase o "append" X.env (eval o X.env) = eval o X.env := by rfl)
    (hfew : ((backTo pos (starEach [a] X.env)).all (fun x => !x.1) && (backToKw pos (keywordEach [] X.env)).all (fun x => x.1.isSome) && decide (([a] : List Expr).length + ([] : List Keyword).length + (if ([] : List Keyword).isEmpty then 0 else 1) < 30)) = true := by rfl)
    (hline : (apos.endLine == pos.line) = true := by rfl) (hplain : (backTo pos (starEach [] X.env)).any (·.1) = false := by rfl) : PE X (.Call (.Attribute o "append" apos) [a] [] pos) (tE X.K ca (appM mo ma)) := e_app ho ha hs1 hbase hfew hline hplain
theorem r_sd {o : Expr} {mo : EM} {apos : Pos} (ho : PE X o (tE X.K ca mo)) (ha : PE X a (tE X.K ca ma)) (hb : PE X b (tE X.K ca mb)) (m : M2 X o "setdefault" apos a b pos := by exact ⟨rfl, rfl, rfl, rfl⟩) : PE X (.Call (.Attribute o "setdefault" apos) [a, b] [] pos) (tE X.K ca (sdM mo ma mb)) := e_sd ho ha hb m
theorem r_fmt (ha : PE X a (tE X.K ca ma)) : PE X (.FormattedValue a (-1) none pos) (tE X.K ca (fmtM ma)) := e_fmt ha
theorem r_jn : PJs X ca [] nilM := .nil
theorem r_jc (ha : PE X a (tE X.K ca ma)) (hr : PJs X ca es ms) : PJs X ca (a :: es) (consM ma ms) := .cons ha hr
theorem r_fs (h : PJs X ca (a :: b :: es) ms) : PE X (.JoinedStr (a :: b :: es) pos) (tE X.K ca (fsM ms)) := e_fs h
theorem r_fs1 (h : PE X a (tE X.K ca ma)) : PE X (.JoinedStr [a] pos) (tE X.K ca ma) := e_fs1 h
/-! tests -/
theorem t_val (ha : PE X a (tE X.K ca ma)) (he : ∀ whole, isTrue a X.env whole = (do let v ← whole; standAt a.pos; holding [v] (truthy v)) := by exact fun _ => rfl) : PT X a (tT X.K ca (tst ma)) := p_val ha he
theorem t_cmp (ck : Ck X) {op : CmpOp} {o : C2} (ho : cmpOf op = some o) (ha : PE X a (tE X.K ca ma)) (hb : PE X b (tE X.K ca mb)) (hm : behindInMarks op b = false := by first | exact nomark _ | rfl | with_unfolding_all rfl) : PT X (.Compare a [op] [b] pos) (tT X.K ca (tst (cmpM o ma mb))) := p_cmp ck ho hm ha hb
theorem t_ch (ck : Ck X) {op op' : CmpOp} {o1 o2 : C2} (h1 : cmpOf op = some o1) (h2 : cmpOf op' = some o2) (ha : PE X a (tE X.K ca ma)) (hb : PE X b (tE X.K ca mb)) (hc : PE X c (tE X.K ca mc)) (hm : lastMarks [op, op'] [b, c] = false := by first | rfl | with_unfolding_all rfl) :
    PT X (.Compare a [op, op'] [b, c] pos) (tT X.K ca (tst (chM o1 o2 ma mb mc))) := p_chain ck h1 h2 hm ha hb hc
theorem t_not (ha : PT X a (tT X.K ca (tst ma))) : PT X (.UnaryOp .Not a pos) (tT X.K ca (tst (notM ma))) := p_not ha
theorem w_and1 (ha : PT X a (tT X.K ca (tst ma))) : PW X (.BoolOp .And [a] pos) (tT X.K ca (tst ma)) := pw_and1 ha
theorem w_or1 (ha : PT X a (tT X.K ca (tst ma))) : PW X (.BoolOp .Or [a] pos) (tT X.K ca (tst ma)) := pw_or1 ha
theorem w_and (ha : PT X a (tT X.K ca (tst ma))) (hb : PW X (.BoolOp .And (b :: es) pos) (tT X.K ca (tst mb))) : PW X (.BoolOp .And (a :: b :: es) pos) (tT X.K ca (tst (andM ma mb))) := p_and ha hb
theorem w_or (ha : PT X a (tT X.K ca (tst ma))) (hb : PW X (.BoolOp .Or (b :: es) pos) (tT X.K ca (tst mb))) : PW X (.BoolOp .Or (a :: b :: es) pos) (tT X.K ca (tst (orM ma mb))) := p_or ha hb
/-! sources -/
section
variable {tg : Expr} {elts : List Expr} {kk : Nat} {tpos : Pos}
theorem q_seq (he : PE X e (tE X.K ca ma)) : PI X tg e (iW X.K ca (seqI ma)) := i_seq he
theorem q_rng1 (hm : X.mg "range" = none) (ha : PA X [a] (tA X.K ca ms)) (hg : Gl X "range" := by rfl) (hs : starEach [a] X.env = [(false, eval a X.env)] := by rfl) : PI X tg (.Call (.Name "range" p) [a] [] pos) (iW X.K ca (rng1I ms)) := i_rng1 hg hm ha hs
theorem q_rng2 (hm : X.mg "range" = none) (ha : PA X [a, b] (tA X.K ca ms)) (hg : Gl X "range" := by rfl) (hs : starEach [a, b] X.env = [(false, eval a X.env), (false, eval b X.env)] := by rfl) (hs2 : starEach [b] X.env = [(false, eval b X.env)] := by rfl) : PI X tg (.Call (.Name "range" p) [a, b] [] pos) (iW X.K ca (rng2I ms)) := i_rng2 hg hm ha hs hs2
theorem q_enum (hm : X.mg "enumerate" = none) (ha : PA X [a] (tA X.K ca ms)) (hg : Gl X "enumerate" := by rfl) (hs : starEach [a] X.env = [(false, eval a X.env)] := by rfl) : PI X (.Tuple elts kk tpos) (.Call (.Name "enumerate" p) [a] [] pos) (iW X.K ca (enumI ms)) := i_enum hg hm ha hs
theorem q_zip (hm : X.mg "zip" = none) (ha : PA X [a, b] (tA X.K ca ms)) (hg : Gl X "zip" := by rfl) (hs : starEach [a, b] X.env = (false, eval a X.env) :: starEach [b] X.env := by rfl) (hpl : (backTo pos (starEach [b] X.env)).any (·.1) = false := by rfl) :
    PI X (.Tuple elts kk tpos) (.Call (.Name "zip" p) [a, b] [] pos) (iW X.K ca (zipI ms)) := i_zip hg hm ha hs hpl
end
/-! targets -/
theorem x_nm (ck : Ck X) (i : Nat) (hi : X.N[i]? = some x := by rfl) (hx : Loc X.env.scope x := by first | exact Or.inl rfl | exact Or.inr rfl) (hf : X.fn x = true ∨ X.env.scope.names.lookup x = some .local := by first | exact Or.inl rfl | exact Or.inr rfl) : PG X (.Name x pos) (gW X.K (.nm i)) := g_nm ck.nd hi hx hf
theorem x_nil : PGs X [] (gL []) := gs_nil
theorem x_cons (ck : Ck X) (i : Nat) {is : List Nat} (h2 : PGs X es (gL is)) (hi : X.N[i]? = some x := by rfl) (hx : Loc X.env.scope x := by first | exact Or.inl rfl | exact Or.inr rfl) (hf : X.fn x = true ∨ X.env.scope.names.lookup x = some .local := by first | exact Or.inl rfl | exact Or.inr rfl)
    (hs : (assignEach (.Name x p :: es) X.env).map (·.2) = assign (.Name x p) X.env :: (assignEach es X.env).map (·.2) := by rfl) : PGs X (.Name x p :: es) (gL (i :: is)) := gs_cons ck.nd hi hx hf h2 hs
theorem x_tup (ck : Ck X) {k n : Nat} {is : List Nat} (h : PGs X es (gL is)) (hl : is.length = n := by rfl) (hn : (assignEach es X.env).length = n := by rfl) (hst : (assignEach es X.env).findIdx? (·.1) = none := by rfl) : PG X (.Tuple es k pos) (gW X.K (.tup is)) := g_tup ck h hl hn hst
/-! comprehensions -/
theorem r_lc (ck : Ck X) {elt tg iter : Expr} {ifs : List Expr} {scope : Scope} (own : List (Str × Nat)) {p : P} {mi : Sl → M (List D)} {mt : Sl → M Bool} {me : EM} {vs : List Nat} (hi : PI X tg iter (iW X.K ca mi))
    (hg : ∀ (s : Shared) (H : Hp) (C : Addr) (cl : List (Str × Addr)) (fp : List Addr), PG (X.blk s H scope (compEnvC scope cl C X.env) fp) tg (gW X.K p)) (ht : ∀ (s : Shared) (H : Hp) (C : Addr) (cl : List (Str × Addr)) (fp : List Addr), PTs (X.blk s H scope (compEnvC scope cl C X.env) fp) ifs (tT X.K ca mt))
    (he : ∀ (s : Shared) (H : Hp) (C : Addr) (cl : List (Str × Addr)) (fp : List Addr), PE (X.blk s H scope (compEnvC scope cl C X.env) fp) elt (tE X.K ca me)) (hv : own.map (·.2) = vs := by rfl) (ok : blkC X.N X.env.scope scope own = true := by first | decide +kernel | (dsimp only [cxF, Cx.nox, Cx.wish, cxOf, envOfC]; decide +kernel) | rfl) (hp : ∀ i ∈ p.slots, i ∈ vs := by decide) (hs : ∀ x, foldedSetIterable iter X.env x = pure x := by exact fun _ => rfl) :
    PE X (.ListComp elt [⟨tg, iter, ifs, 0⟩] scope pos) (tE X.K ca (lcE mi p vs mt me)) := by
  subst hv
  exact e_lc ck hi (blkOk_by ok) hp hg ht he hs
theorem s_lc (ck : Ck X) (i : Nat) {y : Str} {py spos : Pos} {elt tg iter : Expr} {ifs : List Expr} {scope : Scope} (own : List (Str × Nat)) {p : P} {mi : Sl → M (List D)} {mt : Sl → M Bool} {me : EM} {vs : List Nat} (hi : PI X tg iter (iW X.K ca mi))
    (hg : ∀ (s : Shared) (H : Hp) (C : Addr) (cl : List (Str × Addr)) (fp : List Addr), PG (X.blk s H scope (compEnvC scope cl C X.env) fp) tg (gW X.K p)) (ht : ∀ (s : Shared) (H : Hp) (C : Addr) (cl : List (Str × Addr)) (fp : List Addr), PTs (X.blk s H scope (compEnvC scope cl C X.env) fp) ifs (tT X.K ca mt))
    (he : ∀ (s : Shared) (H : Hp) (C : Addr) (cl : List (Str × Addr)) (fp : List Addr), PE (X.blk s H scope (compEnvC scope cl C X.env) fp) elt (tE X.K ca me)) (hv : own.map (·.2) = vs := by rfl) (hy : X.N[i]? = some y := by rfl) (hyl : X.env.scope.names.lookup y = some .local := by rfl)
    (hsw : swapsWith (.ListComp elt [⟨tg, iter, ifs, 0⟩] scope pos) (some (.Name y py)) spos.line X.env = pure true := by rfl) (ok : blkC X.N X.env.scope scope own = true := by first | decide +kernel | (dsimp only [cxF, Cx.nox, Cx.wish, cxOf, envOfC]; decide +kernel) | rfl) (hp : ∀ i ∈ p.slots, i ∈ vs := by decide) (hs : ∀ x, foldedSetIterable iter X.env x = pure x := by exact fun _ => rfl) :
    PS X (.Assign [.Name y py] (.ListComp elt [⟨tg, iter, ifs, 0⟩] scope pos) spos) (tS X.K ca (asgM (.nm i) (lcE mi p vs mt me))) := by
  subst hv
  exact s_setLc ck hy hyl hsw hi (blkOk_by ok) hp hg ht he hs
/-! statements -/
theorem z_nil : PSs X [] (tS X.K ca skM) := s_nil
theorem z_cons (h1 : PS X st (tS X.K ca na)) (h2 : PSs X sa (tS X.K ca nb)) : PSs X (st :: sa) (tS X.K ca (sq na nb)) := s_cons h1 h2
theorem z_one (h1 : PS X st (tS X.K ca na)) : PSs X [st] (tS X.K ca na) := s_one h1
theorem z_pass : PS X (.Pass pos) (tS X.K ca skM) := s_pass
theorem z_brk : PS X (.Break pos) (tS X.K ca brkM) := s_brk
theorem z_cnt : PS X (.Continue pos) (tS X.K ca cntM) := s_cont
theorem z_bad : PS X st (tS X.K ca badM) := s_bad
theorem z_ex (he : PE X e (tE X.K ca ma)) (hs : swapsWith e none pos.line X.env = pure false := by rfl) : PS X (.Expr e pos) (tS X.K ca (exM ma)) := s_ex he hs
theorem z_ret (he : PE X e (tE X.K ca ma)) : PS X (.Return (some e) pos) (tS X.K ca (retM ma)) := s_ret he
theorem z_retN : PS X (.Return none pos) (tS X.K ca retN) := s_retN
theorem z_if (hc : PT X e (tT X.K ca (tst ma))) (ha : PSs X sa (tS X.K ca na)) (hb : PSs X sb (tS X.K ca nb)) : PS X (.If e sa sb pos) (tS X.K ca (ifM ma na nb)) := s_if hc ha hb
theorem z_asg {tg : Expr} {p : P} (hg : PG X tg (gW X.K p)) (he : PE X e (tE X.K ca ma)) (hs : swapsWithSole [tg] e pos.line X.env = pure false := by rfl) (hw : swappedStores [tg] e X.env = pure none := by rfl)
    (h1 : (assignEach [tg] X.env).map (·.2) = [assign tg X.env] := by rfl) : PS X (.Assign [tg] e pos) (tS X.K ca (asgM p ma)) := s_asg he hg hs hw h1
theorem z_par2 (ck : Ck X) (i j : Nat) {x y : Str} {px py pt : Pos} {kt k2 pt2} (ha : PA X [a, b] (tA X.K ca ms)) (hi : X.N[i]? = some x := by rfl) (hj : X.N[j]? = some y := by rfl) (hij : i ≠ j := by decide) (hx : X.env.scope.names.lookup x = some .local := by rfl) (hy : X.env.scope.names.lookup y = some .local := by rfl)
    (hw : swappedStores [.Tuple [.Name x px, .Name y py] kt pt] (.Tuple [a, b] k2 pt2) X.env = pure (some [x, y]) := by rfl)
    (hs : swapsWithSole [.Tuple [.Name x px, .Name y py] kt pt] (.Tuple [a, b] k2 pt2) pos.line X.env = pure false := by rfl) :
    PS X (.Assign [.Tuple [.Name x px, .Name y py] kt pt] (.Tuple [a, b] k2 pt2) pos) (tS X.K ca (par2M i j ms)) := s_par2 ck hi hj hij hx hy ha hw hs
theorem z_par3 (ck : Ck X) (i j l : Nat) {x y z : Str} {px py pz pt : Pos} {kt k2 pt2} (ha : PA X [a, b, c] (tA X.K ca ms)) (hi : X.N[i]? = some x := by rfl) (hj : X.N[j]? = some y := by rfl) (hl : X.N[l]? = some z := by rfl) (hij : i ≠ j := by decide) (hil : i ≠ l := by decide) (hjl : j ≠ l := by decide)
    (hx : X.env.scope.names.lookup x = some .local := by rfl) (hy : X.env.scope.names.lookup y = some .local := by rfl) (hz : X.env.scope.names.lookup z = some .local := by rfl)
    (hw : swappedStores [.Tuple [.Name x px, .Name y py, .Name z pz] kt pt] (.Tuple [a, b, c] k2 pt2) X.env = pure (some [x, y, z]) := by rfl)
    (hs : swapsWithSole [.Tuple [.Name x px, .Name y py, .Name z pz] kt pt] (.Tuple [a, b, c] k2 pt2) pos.line X.env = pure false := by rfl) :
    PS X (.Assign [.Tuple [.Name x px, .Name y py, .Name z pz] kt pt] (.Tuple [a, b, c] k2 pt2) pos) (tS X.K ca (par3M i j l ms)) := s_par3 ck hi hj hl hij hil hjl hx hy hz ha hw hs
theorem z_set (ck : Ck X) {o i : Expr} {mo mi : EM} {tp : Pos} (ho : PE X o (tE X.K ca mo)) (hi : PE X i (tE X.K ca mi)) (he : PE X e (tE X.K ca ma))
    (ha : ∀ v, assign (.Subscript o i tp) X.env v = (do
      let ov ← holding [v] (eval o X.env)
      let iv ← holding [v, ov] (eval i X.env)
      standAt tp
      holding [v, ov, iv] (setItem ov iv v)
      release [v, ov, iv] []) := by exact fun _ => rfl)
    (hs : swapsWithSole [.Subscript o i tp] e pos.line X.env = pure false := by rfl) (hw : swappedStores [.Subscript o i tp] e X.env = pure none := by rfl)
    (h1 : (assignEach [.Subscript o i tp] X.env).map (·.2) = [assign (.Subscript o i tp) X.env] := by rfl) : PS X (.Assign [.Subscript o i tp] e pos) (tS X.K ca (setM mo mi ma)) := s_setI ck he ho hi ha hs hw h1
theorem z_wh (hp : PassesOwn (model X.prog X.w) X.A X.env X.xe) (hc : PT X e (tT X.K ca (tst ma))) (hb : PSs X sa (tS X.K ca na)) : PS X (.While e sa [] pos) (tS X.K ca (whM ma na)) := s_whl hp hc hb WF
theorem z_for (ck : Ck X) (hp : PassesOwn (model X.prog X.w) X.A X.env X.xe) {tg iter : Expr} {p : P} {mi : Sl → M (List D)} (hi : PI X tg iter (iW X.K ca mi)) (hg : PG X tg (gW X.K p)) (hb : PSs X sa (tS X.K ca na))
    (hs : ∀ x, foldedSetIterable iter X.env x = pure x := by exact fun _ => rfl) : PS X (.For tg iter sa [] pos) (tS X.K ca (foM p mi na)) := s_for ck hp hi hg hb hs
end
end MP

/-! Reckoning with the core. -/
namespace MP
open PySem L2 PySem.Spec PyProof.Rows
section
variable {S : Sto} {ρ : Sl} {q : W → Sto → Prop}
theorem post_some {α : Type} (a : α) (q : α → Sto → Prop) : post (some (Out.ok a S)) q = q a S := rfl
theorem post_none {α : Type} (q : α → Sto → Prop) : post (none : Option (Out α)) q = False := rfl
theorem post_fn {np nsl : Nat} {body : SM} {ws : List W} (h : ws.length = np)
    (k : post (body (ws.map some ++ List.replicate (nsl - np) none) S) (fun f S' => match f with
      | .nx _ => q (.d .none) (leave S.length (.d .none) S')
      | .rt w => q w (leave S.length w S')
      | _ => False)) : post (fnB np nsl body ws S) q := by
  unfold fnB
  rw [if_pos h, post_bnd, h]
  refine k.imp fun f S' z => ?_
  cases f <;> exact z
theorem leave_same {n : Nat} {w : W} {S : Sto} (h : S.length ≤ n) : leave n w S = S := if_pos h
theorem leave_cut {n : Nat} {x : D} {R : Sto} (hn : n = S.length) (h : S.all (O.below n) = true) : leave n (.d x) (S ++ R) = S := by
  subst hn
  unfold leave
  by_cases c : (S ++ R).length ≤ S.length
  · rw [if_pos c]
    rw [List.length_append] at c
    rw [List.eq_nil_of_length_eq_zero (show R.length = 0 by omega), List.append_nil]
  · rw [if_neg c]
    dsimp only
    rw [List.take_left', if_pos h]
    rfl
theorem opt_some {α : Type} (a : α) : opt (some a) = ret a := rfl
theorem opt_none {α : Type} : (opt none : M α) = bad := rfl
theorem sq_ap (a b : SM) (q : Fl → Sto → Prop) : post (sq a b ρ S) q = post (a ρ S) (fun f S' => match f with
    | .nx ρ' => post (b ρ' S') q
    | .rt w => q (.rt w) S'
    | .bk r => q (.bk r) S'
    | .ct r => q (.ct r) S') := by
  unfold sq
  rw [post_bnd]
  congr 1
  funext f S'
  cases f <;> rfl
/-! expressions -/
theorem a_k (d : D) : post (kM d ρ S) q = q (.d d) S := rfl
theorem a_v (i : Nat) : post (vM i ρ S) q = post (getV ρ i S) q := rfl
theorem getV_cons0 (w : W) (r : Sl) : getV (some w :: r) 0 = ret w := rfl
theorem getV_cons (x : Option W) (r : Sl) (i : Nat) : getV (x :: r) (i + 1) = getV r i := rfl
theorem a_bin (o : B2) (a b : EM) : post (binM o a b ρ S) q = post (a ρ S) fun x S1 => post (b ρ S1) fun y S2 => post (binW o x y S2) q := by
  unfold binM; rw [post_bnd]; congr 1; funext x S1; rw [post_bnd]
theorem a_cmp (o : C2) (a b : EM) : post (cmpM o a b ρ S) q = post (a ρ S) fun x S1 => post (b ρ S1) fun y S2 => post (cmpW o x y S2) fun t S3 => q (.d (.bool t)) S3 := by
  unfold cmpM cmpV; rw [post_bnd]; congr 1; funext x S1; rw [post_bnd]; congr 1; funext y S2; rw [post_bnd]; rfl
theorem a_ch (o1 o2 : C2) (a b c : EM) : post (chM o1 o2 a b c ρ S) q = post (a ρ S) fun x S1 => post (b ρ S1) fun y S2 => post (cmpW o1 x y S2) fun t S3 => if t = true then post (c ρ S3) fun z S4 => post (cmpW o2 y z S4) fun t S5 => q (.d (.bool t)) S5 else q (.d (.bool false)) S3 := by
  unfold chM; rw [post_bnd]; congr 1; funext x S1; rw [post_bnd]; congr 1; funext y S2; rw [post_bnd]; congr 1; funext t S3
  cases t
  · rfl
  · rw [if_pos rfl, if_pos rfl, post_bnd]; congr 1; funext z S4; unfold cmpV; rw [post_bnd]; rfl
theorem a_neg (a : EM) : post (negM a ρ S) q = post (a ρ S) fun x S1 => post (negW x S1) q := by unfold negM; rw [post_bnd]
theorem a_not (a : EM) : post (notM a ρ S) q = post (a ρ S) fun x S1 => post (truW x S1) fun t S2 => q (.d (.bool (!t))) S2 := by unfold notM; rw [post_bnd]; congr 1; funext x S1; rw [post_bnd]; rfl
theorem post_ite {α : Type} (t : Bool) (a b : M α) (S : Sto) (q : α → Sto → Prop) : post ((if t = true then a else b) S) q = if t = true then post (a S) q else post (b S) q := by cases t <;> rfl
theorem a_and (a b : EM) : post (andM a b ρ S) q = post (a ρ S) fun x S1 => post (truW x S1) fun t S2 => if t = true then post (b ρ S2) q else q x S2 := by
  unfold andM; rw [post_bnd]; congr 1; funext x S1; rw [post_bnd]; congr 1; funext t S2; rw [post_ite]; rfl
theorem a_or (a b : EM) : post (orM a b ρ S) q = post (a ρ S) fun x S1 => post (truW x S1) fun t S2 => if t = true then q x S2 else post (b ρ S2) q := by
  unfold orM; rw [post_bnd]; congr 1; funext x S1; rw [post_bnd]; congr 1; funext t S2; rw [post_ite]; rfl
theorem a_ite (c a b : EM) : post (iteM c a b ρ S) q = post (c ρ S) fun x S1 => post (truW x S1) fun t S2 => if t = true then post (a ρ S2) q else post (b ρ S2) q := by
  unfold iteM; rw [post_bnd]; congr 1; funext x S1; rw [post_bnd]; congr 1; funext t S2; rw [post_ite]
theorem a_sub (a b : EM) : post (subM a b ρ S) q = post (a ρ S) fun x S1 => post (b ρ S1) fun y S2 => post (subW x y S2) q := by
  unfold subM; rw [post_bnd]; congr 1; funext x S1; rw [post_bnd]
theorem a_slc (a : EM) (lo hi : Sl → M (Option W)) : post (slcM a lo hi ρ S) q = post (a ρ S) fun x S1 => post (lo ρ S1) fun l S2 => post (hi ρ S2) fun h S3 => match asOI l, asOI h with
    | some l, some h => post (slcW x l h S3) q
    | _, _ => False := by
  unfold slcM; rw [post_bnd]; congr 1; funext x S1; rw [post_bnd]; congr 1; funext l S2; rw [post_bnd]; congr 1; funext h S3
  cases asOI l <;> cases asOI h <;> rfl
theorem a_no (q : Option W → Sto → Prop) : post (noM ρ S) q = q none S := rfl
theorem a_so (a : EM) (q : Option W → Sto → Prop) : post (soM a ρ S) q = post (a ρ S) fun w S1 => q (some w) S1 := by unfold soM; rw [post_bnd]; rfl
theorem a_nil' (q : List W → Sto → Prop) : post (nilM ρ S) q = q [] S := rfl
theorem a_cons' (a : EM) (r : AM) (q : List W → Sto → Prop) : post (consM a r ρ S) q = post (a ρ S) fun w S1 => post (r ρ S1) fun ws S2 => q (w :: ws) S2 := by unfold consM; rw [post_bnd]; congr 1; funext w S1; rw [post_bnd]; rfl
theorem a_tup (ms : AM) : post (tupM ms ρ S) q = post (ms ρ S) fun ws S1 => ∃ xs, dataOf ws = some xs ∧ xs.length ≤ SZ ∧ q (.d (.tuple xs)) S1 := by
  unfold tupM; rw [post_bnd]; congr 1; funext ws S1
  cases dataOf ws with
  | none => exact propext ⟨fun h => h.elim, fun ⟨_, h, _⟩ => by cases h⟩
  | some xs =>
    by_cases c : xs.length ≤ SZ
    · simp only [if_pos c]; exact propext ⟨fun h => ⟨xs, rfl, c, h⟩, fun ⟨_, h, _, k⟩ => by cases h; exact k⟩
    · simp only [if_neg c]; exact propext ⟨fun h => h.elim, fun ⟨_, h, c', _⟩ => by cases h; exact c c'⟩
theorem a_lst (ms : AM) : post (lstM ms ρ S) q = post (ms ρ S) fun ws S1 => ∃ xs, dataOf ws = some xs ∧ xs.length ≤ SZ ∧ q (.d (.list xs)) S1 := by
  unfold lstM; rw [post_bnd]; congr 1; funext ws S1
  cases dataOf ws with
  | none => exact propext ⟨fun h => h.elim, fun ⟨_, h, _⟩ => by cases h⟩
  | some xs =>
    by_cases c : xs.length ≤ SZ
    · simp only [if_pos c]; exact propext ⟨fun h => ⟨xs, rfl, c, h⟩, fun ⟨_, h, _, k⟩ => by cases h; exact k⟩
    · simp only [if_neg c]; exact propext ⟨fun h => h.elim, fun ⟨_, h, c', _⟩ => by cases h; exact c c'⟩
theorem a_nl (ms : AM) : post (nlM ms ρ S) q = post (ms ρ S) fun ws S1 => ws.length ≤ SZ ∧ q (.r S1.length) (S1 ++ [.lst ws]) := by
  unfold nlM; rw [post_bnd]; congr 1; funext ws S1
  by_cases c : ws.length ≤ SZ
  · rw [if_pos c]; exact propext ⟨fun h => ⟨c, h⟩, fun h => h.2⟩
  · rw [if_neg c]; exact propext ⟨fun h => h.elim, fun h => c h.1⟩
theorem a_ndk : post (ndkM ρ S) q = q (.r S.length) (S ++ [.dk []]) := rfl
theorem a_call (m : List W → M W) (ms : AM) : post (callM m ms ρ S) q = post (ms ρ S) fun ws S1 => post (m ws S1) q := by unfold callM; rw [post_bnd]
theorem a_bi (f : B1) (ms : AM) : post (biM f ms ρ S) q = post (ms ρ S) fun ws S1 => post (b1W f ws S1) q := by unfold biM; rw [post_bnd]
theorem a_isi (T : String) (a : EM) : post (isiM T a ρ S) q = post (a ρ S) fun w S1 => post (b1W (.isI T) [w] S1) q := by unfold isiM; rw [post_bnd]
theorem a_app (o a : EM) : post (appM o a ρ S) q = post (o ρ S) fun x S1 => post (rcv .append x S1) fun _ S2 => post (a ρ S2) fun w S3 => post (meW .append x [w] S3) q := by
  unfold appM; rw [post_bnd]; congr 1; funext x S1; rw [post_bnd]; congr 1; funext u S2; rw [post_bnd]
theorem a_sd (o a b : EM) : post (sdM o a b ρ S) q = post (o ρ S) fun x S1 => post (rcv .setdefault x S1) fun _ S2 => post (a ρ S2) fun y S3 => post (b ρ S3) fun z S4 => post (meW .setdefault x [y, z] S4) q := by
  unfold sdM; rw [post_bnd]; congr 1; funext x S1; rw [post_bnd]; congr 1; funext u S2; rw [post_bnd]; congr 1; funext y S3; rw [post_bnd]
theorem a_tst (m : EM) (q : Bool → Sto → Prop) : post (tst m ρ S) q = post (m ρ S) fun w S1 => post (truW w S1) q := by unfold tst; rw [post_bnd]
/-! statements -/
variable {Q : Fl → Sto → Prop}
theorem a_sk : post (skM ρ S) Q = Q (.nx ρ) S := rfl
theorem a_brk : post (brkM ρ S) Q = Q (.bk ρ) S := rfl
theorem a_cnt : post (cntM ρ S) Q = Q (.ct ρ) S := rfl
theorem a_bad : post (badM ρ S) Q = False := rfl
theorem a_ex (a : EM) : post (exM a ρ S) Q = post (a ρ S) fun _ S1 => Q (.nx ρ) S1 := by unfold exM; rw [post_bnd]; rfl
theorem a_ret (a : EM) : post (retM a ρ S) Q = post (a ρ S) fun w S1 => Q (.rt w) S1 := by unfold retM; rw [post_bnd]; rfl
theorem a_retN : post (retN ρ S) Q = Q (.rt (.d .none)) S := rfl
theorem a_if (c : EM) (a b : SM) : post (ifM c a b ρ S) Q = post (c ρ S) fun w S1 => post (truW w S1) fun t S2 => if t = true then post (a ρ S2) Q else post (b ρ S2) Q := by
  unfold ifM; rw [post_bnd, a_tst]; congr 1; funext w S1; congr 1; funext t S2; rw [post_ite]
theorem a_asg (i : Nat) (a : EM) : post (asgM (.nm i) a ρ S) Q = post (a ρ S) fun w S1 => Q (.nx (ρ.set i (some w))) S1 := by unfold asgM; rw [post_bnd]; rfl
theorem a_asgT (is : List Nat) (a : EM) : post (asgM (.tup is) a ρ S) Q = post (a ρ S) fun w S1 => ∃ ρ', bindP (.tup is) w ρ = some ρ' ∧ Q (.nx ρ') S1 := by
  unfold asgM; rw [post_bnd]; congr 1; funext w S1; rw [post_bnd]
  cases bindP (.tup is) w ρ with
  | none => exact propext ⟨fun h => h.elim, fun ⟨_, h, _⟩ => by cases h⟩
  | some r => exact propext ⟨fun h => ⟨r, rfl, h⟩, fun ⟨_, h, k⟩ => by cases h; exact k⟩
theorem a_par2 (i j : Nat) (a b : EM) : post (par2M i j (consM a (consM b nilM)) ρ S) Q = post (a ρ S) fun x S1 => post (b ρ S1) fun y S2 => Q (.nx ((ρ.set i (some x)).set j (some y))) S2 := by
  unfold par2M; rw [post_bnd, a_cons']; congr 1; funext x S1; rw [a_cons']; rfl
theorem a_par3 (i j l : Nat) (a b c : EM) : post (par3M i j l (consM a (consM b (consM c nilM))) ρ S) Q = post (a ρ S) fun x S1 => post (b ρ S1) fun y S2 => post (c ρ S2) fun z S3 => Q (.nx (((ρ.set i (some x)).set j (some y)).set l (some z))) S3 := by
  unfold par3M; rw [post_bnd, a_cons']; congr 1; funext x S1; rw [a_cons']; congr 1; funext y S2; rw [a_cons']; rfl
theorem a_set (o i e : EM) : post (setM o i e ρ S) Q = post (e ρ S) fun w S1 => post (o ρ S1) fun x S2 => post (i ρ S2) fun y S3 => post (setW x y w S3) fun _ S4 => Q (.nx ρ) S4 := by
  unfold setM; rw [post_bnd]; congr 1; funext w S1; rw [post_bnd]; congr 1; funext x S2; rw [post_bnd]; congr 1; funext y S3; rw [post_bnd]; rfl
theorem a_for (p : P) (mi : Sl → M (List D)) (b : SM) : post (foM p mi b ρ S) Q = post (mi ρ S) fun items S1 => post (forM p b items ρ S1) Q := by unfold foM; rw [post_bnd]
theorem for_nil (p : P) (b : SM) : post (forM p b [] ρ S) Q = Q (.nx ρ) S := rfl
theorem for_cons (p : P) (b : SM) (x : D) (r : List D) : post (forM p b (x :: r) ρ S) Q = ∃ ρ', bindP p (.d x) ρ = some ρ' ∧ post (b ρ' S) (fun f S1 => match f with
    | .nx ρ2 => post (forM p b r ρ2 S1) Q
    | .ct ρ2 => post (forM p b r ρ2 S1) Q
    | .bk ρ2 => Q (.nx ρ2) S1
    | .rt w => Q (.rt w) S1) := by
  conv => lhs; unfold forM
  rw [post_bnd]
  cases bindP p (.d x) ρ with
  | none => exact propext ⟨fun h => h.elim, fun ⟨_, h, _⟩ => by cases h⟩
  | some r' =>
    have e : post (opt (some r') S) (fun a S' => post ((bnd (b a) fun f => match f with
      | .nx ρ2 => forM p b r ρ2
      | .ct ρ2 => forM p b r ρ2
      | .bk ρ2 => ret (.nx ρ2)
      | .rt w => ret (.rt w)) S') Q) = post (b r' S) (fun f S1 => match f with
      | .nx ρ2 => post (forM p b r ρ2 S1) Q
      | .ct ρ2 => post (forM p b r ρ2 S1) Q
      | .bk ρ2 => Q (.nx ρ2) S1
      | .rt w => Q (.rt w) S1) := by
      show post ((bnd (b r') _) S) Q = _
      rw [post_bnd]; congr 1; funext f S1; cases f <;> rfl
    exact propext ⟨fun h => ⟨r', rfl, Eq.mp e h⟩, fun ⟨_, h, k⟩ => by cases h; exact Eq.mpr e k⟩
/-- a loop by an invariant -/
theorem for_inv {p : P} {b : SM} {Q : Fl → Sto → Prop} (I : Nat → Sl → Sto → Prop) : ∀ (items : List D) (n : Nat), (∀ (i : Nat) (x : D) ρ S, items[i]? = some x → I (n + i) ρ S → ∃ ρ', bindP p (.d x) ρ = some ρ' ∧ post (b ρ' S) (fun f S1 => match f with
    | .nx ρ2 => I (n + i + 1) ρ2 S1
    | .ct ρ2 => I (n + i + 1) ρ2 S1
    | .bk ρ2 => False
    | .rt w => False)) → (∀ ρ S, I (n + items.length) ρ S → Q (.nx ρ) S) → ∀ ρ S, I n ρ S → post (forM p b items ρ S) Q
  | [], n, _, fin, ρ, S, h => fin ρ S h
  | x :: r, n, turn, fin, ρ, S, h => by
    rw [for_cons]
    obtain ⟨ρ', e, k⟩ := turn 0 x ρ S rfl h
    refine ⟨ρ', e, k.imp fun f S1 z => ?_⟩
    have go : ∀ ρ2, I (n + 1) ρ2 S1 → post (forM p b r ρ2 S1) Q := fun ρ2 h2 => for_inv I r (n + 1) (fun i x ρ S e h => by
        have q := turn (i + 1) x ρ S (by simpa using e) (by rw [← Nat.add_assoc, Nat.add_right_comm]; exact h)
        rw [show n + 1 + i + 1 = n + (i + 1) + 1 by omega]; exact q) (fun ρ S h => fin ρ S (by rw [List.length_cons, show n + (r.length + 1) = n + 1 + r.length by omega]; exact h)) ρ2 S1 h2
    cases f with
    | nx ρ2 => exact go ρ2 z
    | ct ρ2 => exact go ρ2 z
    | bk _ => exact z.elim
    | rt _ => exact z.elim
theorem a_seq (a : EM) (q : List D → Sto → Prop) : post (seqI a ρ S) q = post (a ρ S) fun w S1 => ∃ xs, itemsOf .seq [w] = some xs ∧ q xs S1 := by
  unfold seqI; rw [post_bnd]; congr 1; funext w S1
  cases itemsOf .seq [w] with
  | none => exact propext ⟨fun h => h.elim, fun ⟨_, h, _⟩ => by cases h⟩
  | some r => exact propext ⟨fun h => ⟨r, rfl, h⟩, fun ⟨_, h, k⟩ => by cases h; exact k⟩
theorem a_enum (ms : AM) (q : List D → Sto → Prop) : post (enumI ms ρ S) q = post (ms ρ S) fun w S1 => ∃ xs, itemsOf .enum w = some xs ∧ q xs S1 := by
  unfold enumI; rw [post_bnd]; congr 1; funext w S1
  cases itemsOf .enum w with
  | none => exact propext ⟨fun h => h.elim, fun ⟨_, h, _⟩ => by cases h⟩
  | some r => exact propext ⟨fun h => ⟨r, rfl, h⟩, fun ⟨_, h, k⟩ => by cases h; exact k⟩
theorem a_rng1 (a : EM) (q : List D → Sto → Prop) : post (rng1I (consM a nilM) ρ S) q = post (a ρ S) fun w S1 => ∃ xs, itemsOf .rng [w] = some xs ∧ q xs S1 := by
  unfold rng1I; rw [post_bnd, a_cons']; congr 1; funext w S1
  show post (opt (itemsOf .rng [w]) S1) q = _
  cases itemsOf .rng [w] with
  | none => exact propext ⟨fun h => h.elim, fun ⟨_, h, _⟩ => by cases h⟩
  | some r => exact propext ⟨fun h => ⟨r, rfl, h⟩, fun ⟨_, h, k⟩ => by cases h; exact k⟩
theorem a_rng2 (a b : EM) (q : List D → Sto → Prop) : post (rng2I (consM a (consM b nilM)) ρ S) q = post (a ρ S) fun w S1 => post (b ρ S1) fun u S2 => ∃ xs, itemsOf .rng [w, u] = some xs ∧ q xs S2 := by
  unfold rng2I; rw [post_bnd, a_cons']; congr 1; funext w S1; rw [a_cons']; congr 1; funext u S2
  show post (opt (itemsOf .rng [w, u]) S2) q = _
  cases itemsOf .rng [w, u] with
  | none => exact propext ⟨fun h => h.elim, fun ⟨_, h, _⟩ => by cases h⟩
  | some r => exact propext ⟨fun h => ⟨r, rfl, h⟩, fun ⟨_, h, k⟩ => by cases h; exact k⟩
theorem a_lc (mi : Sl → M (List D)) (p : P) (own : List Nat) (mt : Sl → M Bool) (me : EM) : post (lcE mi p own mt me ρ S) q = post (mi ρ S) fun items S1 => post (lcM (lcT p own mt me ρ) items S1) fun ys S2 => ys.length ≤ SZ ∧ q (.d (.list ys)) S2 := by
  unfold lcE; rw [post_bnd]; congr 1; funext items S1; rw [post_bnd]; congr 1; funext ys S2
  unfold sizeOk
  by_cases c : ys.length ≤ SZ
  · rw [if_pos c]; exact propext ⟨fun h => ⟨c, h⟩, fun h => h.2⟩
  · rw [if_neg c]; exact propext ⟨fun h => h.elim, fun h => c h.1⟩
/-- a comprehension without a test, turn by turn -/
theorem lc_inv {turn : D → M (Option D)} {q : List D → Sto → Prop} (I : List D → Sto → Prop) (R : Nat → D → Prop) : ∀ (items : List D) (n : Nat) (acc : List D), (∀ (i : Nat) (x : D) acc S, items[i]? = some x → I acc S → acc.length = n + i → post (turn x S) (fun y S1 => ∃ z, y = some z ∧ I (acc ++ [z]) S1)) → acc.length = n →
    (∀ acc S, I acc S → acc.length = n + items.length → q acc S) → ∀ S, I acc S → post (lcM turn items S) (fun ys S1 => q (acc ++ ys) S1)
  | [], n, acc, _, hl, fin, S, h => by
    show q (acc ++ []) S
    rw [List.append_nil]
    exact fin acc S h hl
  | x :: r, n, acc, step, hl, fin, S, h => by
    unfold lcM
    rw [post_bnd]
    refine (step 0 x acc S rfl h hl).imp fun y S1 z => ?_
    obtain ⟨d, rfl, h1⟩ := z
    rw [post_bnd]
    have go := lc_inv (q := q) I R r (n + 1) (acc ++ [d]) (fun i x acc S e h hl => step (i + 1) x acc S (by simpa using e) h (by omega)) (by simp [hl]) (fun acc S h hl => fin acc S h (by rw [List.length_cons]; omega)) S1 h1
    refine go.imp fun ys S2 k => ?_
    show q (acc ++ d :: ys) S2
    rw [List.append_cons]
    exact k
/-! values -/
theorem v_add (i j : Int) : post (binW .add (.d (.int i)) (.d (.int j)) S) q = q (.d (.int (i + j))) S := rfl
theorem v_sub (i j : Int) : post (binW .sub (.d (.int i)) (.d (.int j)) S) q = q (.d (.int (i - j))) S := rfl
theorem v_band (i j : Int) : post (binW .band (.d (.int i)) (.d (.int j)) S) q = q (.d (.int (Builtin.bitAnd i j))) S := rfl
theorem bin_pos {o : B2} {x y z : D} (h : binD o x y = some z) : post (binW o (.d x) (.d y) S) q = q (.d z) S := by
  show post (bnd (opt (binD o x y)) (fun z => ret (.d z)) S) q = _
  rw [h]; rfl
theorem v_mul {i j : Int} (h : (-(2 ^ 64) < i ∧ i < 2 ^ 64) ∨ (-(2 ^ 64) < j ∧ j < 2 ^ 64)) : post (binW .mul (.d (.int i)) (.d (.int j)) S) q = q (.d (.int (i * j))) S := bin_pos (if_pos h)
theorem v_fdiv {i j : Int} (h : 0 < j ∧ j < 18446744073709551616) : post (binW .fdiv (.d (.int i)) (.d (.int j)) S) q = q (.d (.int (i / j))) S := bin_pos (if_pos h)
theorem v_mod {i j : Int} (h : 0 < j) : post (binW .mod (.d (.int i)) (.d (.int j)) S) q = q (.d (.int (i % j))) S := bin_pos (if_pos h)
theorem v_pow {i j : Int} (h : 0 ≤ j ∧ j ≤ 1000000 ∧ i.natAbs < 2 ^ 64) : post (binW .pow (.d (.int i)) (.d (.int j)) S) q = q (.d (.int (i ^ j.toNat))) S := bin_pos (if_pos h)
theorem v_cat {xs ys : List D} (h : xs.length + ys.length ≤ SZ) : post (binW .add (.d (.tuple xs)) (.d (.tuple ys)) S) q = q (.d (.tuple (xs ++ ys))) S := bin_pos (if_pos h)
theorem v_catL {xs ys : List D} (h : xs.length + ys.length ≤ SZ) : post (binW .add (.d (.list xs)) (.d (.list ys)) S) q = q (.d (.list (xs ++ ys))) S := bin_pos (if_pos h)
theorem v_rep {xs : List D} {k : Int} (h : xs ≠ [] ∧ 2 ≤ k ∧ (xs.length : Int) * k ≤ 1000000) : post (binW .mul (.d (.tuple xs)) (.d (.int k)) S) q = q (.d (.tuple (List.replicate k.toNat xs).flatten)) S := bin_pos (if_pos h)
theorem v_neg (i : Int) : post (negW (.d (.int i)) S) q = q (.d (.int (-i))) S := rfl
section
variable {qb : Bool → Sto → Prop}
theorem v_trB (b : Bool) : post (truW (.d (.bool b)) S) qb = qb b S := rfl
theorem v_trI (i : Int) : post (truW (.d (.int i)) S) qb = qb (i != 0) S := rfl
theorem v_trN : post (truW (.d .none) S) qb = qb false S := rfl
theorem v_lt (i j : Int) : post (cmpW .lt (.d (.int i)) (.d (.int j)) S) qb = qb (decide (i < j)) S := rfl
theorem v_le (i j : Int) : post (cmpW .le (.d (.int i)) (.d (.int j)) S) qb = qb (decide (i ≤ j)) S := rfl
theorem v_gt (i j : Int) : post (cmpW .gt (.d (.int i)) (.d (.int j)) S) qb = qb (decide (j < i)) S := rfl
theorem v_ge (i j : Int) : post (cmpW .ge (.d (.int i)) (.d (.int j)) S) qb = qb (decide (j ≤ i)) S := rfl
theorem v_eqI (i j : Int) : post (cmpW .eq (.d (.int i)) (.d (.int j)) S) qb = qb (i == j) S := rfl
theorem v_neI (i j : Int) : post (cmpW .ne (.d (.int i)) (.d (.int j)) S) qb = qb (!(i == j)) S := rfl
theorem v_eqS (x y : Str) : post (cmpW .eq (.d (.str x)) (.d (.str y)) S) qb = qb (x == y) S := rfl
theorem v_neS (x y : Str) : post (cmpW .ne (.d (.str x)) (.d (.str y)) S) qb = qb (!(x == y)) S := rfl
theorem v_isn (x : W) : post (cmpW .isn x (.d .none) S) qb = qb (isNone x) S := by cases x with
  | r _ => rfl
  | d x => cases x <;> rfl
theorem v_isnn (x : W) : post (cmpW .isnn x (.d .none) S) qb = qb (!isNone x) S := by cases x with
  | r _ => rfl
  | d x => cases x <;> rfl
theorem v_eqD {x y : D} {b : Bool} (h : eqD x y = some b) : post (cmpW .eq (.d x) (.d y) S) qb = qb b S := by
  show post ((eqD x y).map fun b => .ok b S) qb = _
  rw [h]; rfl
theorem v_neD {x y : D} {b : Bool} (h : eqD x y = some b) : post (cmpW .ne (.d x) (.d y) S) qb = qb (!b) S := by
  show post ((eqD x y).map fun b => .ok (!b) S) qb = _
  rw [h]; rfl
end
theorem v_ixT {xs : List D} {k : Int} {x : D} (h : L2.atI xs k = some x) : post (subW (.d (.tuple xs)) (.d (.int k)) S) q = q (.d x) S := by
  show post ((L2.atI xs k).map fun x => .ok (.d x) S) q = _
  rw [h]; rfl
theorem v_ixL {xs : List D} {k : Int} {x : D} (h : L2.atI xs k = some x) : post (subW (.d (.list xs)) (.d (.int k)) S) q = q (.d x) S := by
  show post ((L2.atI xs k).map fun x => .ok (.d x) S) q = _
  rw [h]; rfl
theorem v_ixR {i : Nat} {xs : List W} {k : Int} {x : W} (e : S[i]? = some (.lst xs)) (h : L2.atI xs k = some x) : post (subW (.r i) (.d (.int k)) S) q = q x S := by
  unfold subW
  simp only [e, h]
  rfl
theorem v_setR {i j : Nat} {xs : List W} {k : Int} {w : W} {qu : Unit → Sto → Prop} (e : S[i]? = some (.lst xs)) (h : ixN xs.length k = some j) : post (setW (.r i) (.d (.int k)) w S) qu = qu () (S.set i (.lst (xs.set j w))) := by
  unfold setW
  simp only [e, h]
  rfl
theorem v_b1 {f : B1} {xs : List D} {y : D} (h1 : f ≠ .len) (h2 : f ≠ .tuple) (h : b1D f xs = some y) : post (b1W f (xs.map .d) S) q = q (.d y) S := by
  rw [b1_only h1 h2]
  have e : dataOf (xs.map W.d) = some xs := by
    clear h
    induction xs with
    | nil => rfl
    | cons x r ih => show (dataOf (r.map W.d)).map (x :: ·) = _; rw [ih]; rfl
  rw [e]
  show post ((b1D f xs).map fun y => .ok (.d y) S) q = _
  rw [h]; rfl
theorem v_int (i : Int) : post (b1W .int [.d (.int i)] S) q = q (.d (.int i)) S := rfl
theorem v_abs (i : Int) : post (b1W .abs [.d (.int i)] S) q = q (.d (.int (if i < 0 then -i else i))) S := rfl
theorem v_lenT (xs : List D) : post (b1W .len [.d (.tuple xs)] S) q = q (.d (.int xs.length)) S := rfl
theorem v_lenL (xs : List D) : post (b1W .len [.d (.list xs)] S) q = q (.d (.int xs.length)) S := rfl
theorem v_tupL (xs : List D) : post (b1W .tuple [.d (.list xs)] S) q = q (.d (.tuple xs)) S := rfl
theorem v_lstL (xs : List D) : post (b1W .list [.d (.list xs)] S) q = q (.d (.list xs)) S := rfl
theorem v_repr {x : D} {z : Str} (h : reprD x = some z) : post (b1W .repr [.d x] S) q = q (.d (.str z)) S := by
  have e : b1D .repr [x] = some (.str z) := by
    show (reprD x).map PyData.str = _
    rw [h]; rfl
  exact v_b1 (xs := [x]) (by decide) (by decide) e
end
end MP

/-! Tables; texts of tuples. -/
namespace MP
open PySem L2 PySem.Spec PyProof.Rows
theorem v_isi {S : Sto} {q : W → Sto → Prop} {T : String} {x : D} {b : Bool} (h : isI T x = some b) : post (b1W (.isI T) [.d x] S) q = q (.d (.bool b)) S := by
  have e : b1D (.isI T) [x] = some (.bool b) := by
    show (isI T x).map PyData.bool = _
    rw [h]; rfl
  exact v_b1 (xs := [x]) (by intro z; cases z) (by intro z; cases z) e
/-! ### a table of ints -/
abbrev Tab := List (Int × Int)
def tabK (t : Tab) : List (Key × W) := t.map fun p => (.inl p.1, .d (.int p.2))
theorem look_tab (k : Int) : ∀ t : Tab, look (Sum.inl k : Key) (tabK t) = (look k t).map fun v => W.d (.int v)
  | [] => rfl
  | (j, v) :: t => by
    show (if (Sum.inl j : Key) = Sum.inl k then some (W.d (.int v)) else look (Sum.inl k : Key) (tabK t)) = (if j = k then some v else look k t).map _
    by_cases e : j = k
    · rw [if_pos (by rw [e]), if_pos e]; rfl
    · rw [if_neg (fun z => e (Sum.inl.inj z)), if_neg e, look_tab k t]
def sd (t : Tab) (k v : Int) : Tab := if (look k t).isSome = true then t else t ++ [(k, v)]
theorem sd_len (t : Tab) (k v : Int) : (sd t k v).length ≤ t.length + 1 := by
  unfold sd
  split
  · omega
  · simp
theorem look_app (k j v : Int) : ∀ t : Tab, look k (t ++ [(j, v)]) = (look k t).or (if j = k then some v else none)
  | [] => by show (if j = k then some v else look k []) = _; rfl
  | (i, u) :: t => by
    show (if i = k then some u else look k (t ++ [(j, v)])) = (if i = k then some u else look k t).or _
    by_cases e : i = k
    · rw [if_pos e, if_pos e]; rfl
    · rw [if_neg e, if_neg e, look_app k j v t]
theorem look_sd (k j v : Int) (t : Tab) : look k (sd t j v) = (look k t).or (if j = k then some v else none) := by
  unfold sd
  split
  · rename_i h
    by_cases e : j = k
    · subst e
      obtain ⟨w, hw⟩ := Option.isSome_iff_exists.mp h
      rw [hw]; rfl
    · rw [if_neg e]; simp
  · exact look_app k j v t
/-- what is written from place p on -/
def addO (t : Tab) (p : Int) : List Int → Tab
  | [] => t
  | o :: r => addO (sd t p o) (p + 1) r
theorem addO_len : ∀ (os : List Int) (t : Tab) (p : Int), (addO t p os).length ≤ t.length + os.length
  | [], t, p => Nat.le_refl _
  | o :: r, t, p => by
    have h1 := addO_len r (sd t p o) (p + 1)
    have h2 := sd_len t p o
    show (addO (sd t p o) (p + 1) r).length ≤ t.length + (r.length + 1)
    omega
theorem look_addO (k : Int) : ∀ (os : List Int) (t : Tab) (p : Int), look k (addO t p os) = (look k t).or (if p ≤ k then os[(k - p).toNat]? else none)
  | [], t, p => by show look k t = _; simp
  | o :: r, t, p => by
    show look k (addO (sd t p o) (p + 1) r) = _
    rw [look_addO k r, look_sd, Option.or_assoc]
    congr 1
    by_cases e : p = k
    · subst e
      rw [if_pos rfl, if_pos (Int.le_refl _), Int.sub_self]
      rfl
    · rw [if_neg e, Option.none_or]
      by_cases c : p ≤ k
      · rw [if_pos (by omega), if_pos c, show (k - p).toNat = (k - (p + 1)).toNat + 1 by omega, List.getElem?_cons_succ]
      · rw [if_neg (by omega), if_neg c]
def okT (t : Tab) : Prop := ∀ p ∈ t, 0 ≤ p.2 ∧ p.2 < 256
theorem okT.sd {t : Tab} {k v : Int} (h : okT t) (hv : 0 ≤ v ∧ v < 256) : okT (sd t k v) := by
  unfold MP.sd
  split
  · exact h
  · intro p hp
    rcases List.mem_append.mp hp with m | m
    · exact h p m
    · rw [List.mem_singleton.mp m]; exact hv
theorem okT.addO : ∀ {os : List Int} {t : Tab} {p : Int}, okT t → (∀ o ∈ os, 0 ≤ o ∧ o < 256) → okT (addO t p os)
  | [], t, p, h, _ => h
  | o :: r, t, p, h, ho => okT.addO (os := r) (h.sd (ho o List.mem_cons_self)) fun x m => ho x (List.mem_cons_of_mem _ m)
theorem okT.look {t : Tab} {k v : Int} (h : okT t) (e : look k t = some v) : 0 ≤ v ∧ v < 256 := by
  induction t with
  | nil => cases e
  | cons p t ih =>
    obtain ⟨j, u⟩ := p
    unfold MP.look at e
    by_cases c : j = k
    · rw [if_pos c] at e; cases e; exact h _ List.mem_cons_self
    · rw [if_neg c] at e; exact ih (fun p m => h p (List.mem_cons_of_mem _ m)) e
/-- how many stand in a row from n on -/
def cnt (t : Tab) : Nat → Nat → Nat
  | 0, n => n
  | d + 1, n => if (look (n : Int) t).isSome = true then cnt t d (n + 1) else n
theorem cnt_le (t : Tab) : ∀ d n, n ≤ cnt t d n ∧ cnt t d n ≤ n + d
  | 0, n => ⟨Nat.le_refl _, Nat.le_refl _⟩
  | d + 1, n => by
    unfold cnt
    obtain ⟨h1, h2⟩ := cnt_le t d (n + 1)
    split
    · exact ⟨by omega, by omega⟩
    · exact ⟨by omega, by omega⟩
theorem cnt_in (t : Tab) : ∀ d n i, n ≤ i → i < cnt t d n → (look (i : Int) t).isSome = true
  | 0, n, i, h1, h2 => by unfold cnt at h2; omega
  | d + 1, n, i, h1, h2 => by
    unfold cnt at h2
    split at h2
    · rename_i h
      by_cases e : n = i
      · subst e; exact h
      · exact cnt_in t d (n + 1) i (by omega) h2
    · omega
theorem cnt_ge (t : Tab) : ∀ d n m, n ≤ m → m ≤ n + d → (∀ i : Nat, n ≤ i → i < m → (look (i : Int) t).isSome = true) → m ≤ cnt t d n
  | 0, n, m, h1, h2, _ => by unfold cnt; omega
  | d + 1, n, m, h1, h2, h => by
    unfold cnt
    by_cases e : n = m
    · subst e
      split
      · exact Nat.le_of_succ_le (cnt_le t d (n + 1)).1
      · exact Nat.le_refl _
    · rw [if_pos (h n (Nat.le_refl _) (by omega))]
      exact cnt_ge t d (n + 1) m (by omega) (by omega) fun i a b => h i (by omega) b
def res (t : Tab) : List Int := (List.range (cnt t 65535 0)).map fun (i : Nat) => (look (i : Int) t).getD 0
theorem res_ok {t : Tab} (h : okT t) : (∀ x ∈ res t, 0 ≤ x ∧ x < 256) ∧ (res t).length ≤ 65535 := by
  refine ⟨fun x m => ?_, ?_⟩
  · obtain ⟨i, hi, rfl⟩ := List.mem_map.mp m
    have e := cnt_in t 65535 0 i (Nat.zero_le _) (List.mem_range.mp hi)
    obtain ⟨v, hv⟩ := Option.isSome_iff_exists.mp e
    rw [hv]
    exact h.look hv
  · unfold res
    rw [List.length_map, List.length_range]
    have := (cnt_le t 65535 0).2
    omega
/-! ### the text of a tuple of octets -/
theorem small_text : ∀ n : Fin 256, ((toString ((n.val : Int)) : Str)).length ≤ 3 := by decide +kernel
theorem small_text' {i : Int} (h : 0 ≤ i ∧ i < 256) : ((toString i : Str)).length ≤ 3 := by
  have q := small_text ⟨i.toNat, by omega⟩
  have e : ((i.toNat : Nat) : Int) = i := Int.toNat_of_nonneg h.1
  simpa only [e] using q
theorem repr_octs {xs : List Int} (h : ∀ x ∈ xs, 0 ≤ x ∧ x < 256) (hl : xs.length ≤ 100000) : ∃ z, reprD (.tuple (xs.map .int)) = some z := by
  refine ⟨_, if_pos ⟨?_, ?_, ?_, ?_⟩⟩
  · show PyData.showableAll _ = true
    clear hl
    induction xs with
    | nil => rfl
    | cons x r ih =>
      show (decide (x.natAbs.log2 < 1920) && PyData.showableAll (r.map .int)) = true
      rw [ih fun y m => h y (List.mem_cons_of_mem _ m), Bool.and_true]
      have h0 := h x List.mem_cons_self
      refine decide_eq_true ?_
      by_cases z : x.natAbs = 0
      · rw [z]; decide
      · have := (Nat.log2_lt z (k := 8)).mpr (by omega)
        omega
  · show PyData.hasDictAll _ = false
    clear hl h
    induction xs with
    | nil => rfl
    | cons x r ih => show (false || PyData.hasDictAll (r.map .int)) = false; rw [ih]; rfl
  · show PyData.depthAll _ + 1 ≤ 60
    have : PyData.depthAll (xs.map PyData.int) = 0 := by
      clear hl h
      induction xs with
      | nil => rfl
      | cons x r ih => show max 0 (PyData.depthAll (r.map .int)) = 0; rw [ih]; rfl
    omega
  · show (tupleText (PyData.shownAll (xs.map .int))).length ≤ SZ
    have e : PyData.shownAll (xs.map PyData.int) = xs.map fun i => (toString i : Str) := by
      clear hl h
      induction xs with
      | nil => rfl
      | cons x r ih => show _ :: PyData.shownAll (r.map .int) = _; rw [ih]; rfl
    rw [e]
    unfold tupleText
    rw [Str.length_append, Str.length_append]
    have j := StrLaws.join_length_le ((", " : String) : Str) (xs.map fun i => (toString i : Str))
    have b : ((xs.map fun i => (toString i : Str)).map (·.length)).sum ≤ 3 * xs.length := by
      clear j e hl
      induction xs with
      | nil => simp
      | cons x r ih =>
        have h1 := ih fun y m => h y (List.mem_cons_of_mem _ m)
        have h2 := small_text' (h x List.mem_cons_self)
        rw [List.map_cons, List.map_cons, List.sum_cons, List.length_cons]
        omega
    have l1 : (("(" : String) : Str).length = 1 := rfl
    have l2 : ((", " : String) : Str).length = 2 := rfl
    have l3 : ((if (xs.map fun i => (toString i : Str)).length == 1 then ",)" else ")" : String) : Str).length ≤ 2 := by
      split <;> decide
    rw [l2, List.length_map] at j
    show _ ≤ 16777216
    omega
theorem lay_ints : ∀ xs : List Int, PyData.canLayAll0 (xs.map .int) = true
  | [] => rfl
  | x :: r => by show (true && PyData.canLayAll0 (r.map .int)) = true; rw [lay_ints r]; rfl
theorem depth_ints : ∀ xs : List Int, PyData.depthAll (xs.map .int) = 0
  | [] => rfl
  | x :: r => by show max 0 (PyData.depthAll (r.map .int)) = 0; rw [depth_ints r]; rfl
theorem shaped_ints (xs : List Int) : SeqAt.shaped (.tuple (xs.map .int)) = true := by
  have e : (PyData.tuple (xs.map .int)).depth = 1 := by
    show PyData.depthAll _ + 1 = 1
    rw [depth_ints]
  unfold SeqAt.shaped
  rw [e, show (PyData.tuple (xs.map .int)).canLay0 = true from lay_ints xs]
  rfl
theorem eq_ints {xs ys : List Int} (h : xs = ys) : eqD (.tuple (xs.map .int)) (.tuple (ys.map .int)) = some true := by
  subst h
  show (if SeqAt.shaped (.tuple (xs.map .int)) = true ∧ SeqAt.shaped (.tuple (xs.map .int)) = true then some (PyData.eqv (.tuple (xs.map .int)) (.tuple (xs.map .int))) else none) = some true
  rw [if_pos ⟨shaped_ints xs, shaped_ints xs⟩]
  congr 1
  exact SeqAt.eqv_refl _ (show PyData.canLayAll0 _ = true from lay_ints xs)
end MP

/-! Constants of the module; op=; sums of lists. -/
namespace MP
open PySem L2 PySem.Spec PyProof.Rows
theorem Gc.str {K : PySem.W.Frag} {mg : Str → Option Value} {x z : Str} {t : Tok} (h : mg x = some (.str z t)) : Gc K mg x (.str z) := ⟨⟨.str z, _, h, ⟨t, rfl⟩, fun _ _ => .str z⟩⟩
theorem Gc.tup {K : PySem.W.Frag} {mg : Str → Option Value} {x : Str} {a : Addr} {dd : Option Addr} {its : Array Value} {n : Nat} {sl : Array (Option Value)} (is : List Int) (h : mg x = some (.ref a)) (hl : K.lookup a = some ⟨.type "tuple", dd, .seq its n, sl⟩) (hz : its.size ≤ sizeLine)
    (hv : Vals (is.map V.int) its.toList) : Gc K mg x (.tuple (is.map .int)) :=
  ⟨⟨.ref a, _, h, rfl, fun _ _ => .tup (.inr (.inr ⟨_, its, n, hl, rfl, rfl, hz, hv⟩)) (rp_ints is)⟩⟩
/-! ### dicts of the module -/
/-- a plain datum and its value -/
inductive FlV : Value → D → Prop
  | int (i : Int) (t : Tok) : FlV (.int i t) (.int i)
  | str (x : Str) (t : Tok) : FlV (.str x t) (.str x)
theorem FlV.rel {u : Value} {d : D} (h : FlV u d) {K : PySem.W.Frag} {η : Zs} {H : Hp} : ∃ v, RelV v u ∧ Rp K η H v d := by
  cases h with
  | int i t => exact ⟨.int i, ⟨t, rfl⟩, .int i⟩
  | str x t => exact ⟨.str x, ⟨t, rfl⟩, .str x⟩
def TblOk (w : World) : List DictEntry → List (Key × D) → Prop
  | [], [] => True
  | e :: r, (k, d) :: t => keyIs k e.key = true ∧ e.hash = keyH w k ∧ FlV e.val d ∧ TblOk w r t
  | _, _ => False
structure Gd (K : PySem.W.Frag) (w : World) (mg : Str → Option Value) (x : Str) (t : List (Key × D)) : Prop where
  ex : ∃ a es n, mg x = some (.ref a) ∧ K.lookup a = some ⟨.type "dict", none, .dict es n, #[]⟩ ∧ (a == sysModules) = false ∧ TblOk w es.toList t
theorem keyIs_eq {P : Program} {w : World} {k k' : Key} {v : Value} (h : keyIs k v = true) : keyIs k' v = decide (k' = k) := KeyKind.is_eq_decide (knd := mixKind P w) h k'
theorem tbl_find {P : Program} {w : World} (k : Key) : ∀ {l : List DictEntry} {t : List (Key × D)}, TblOk w l t →
    (∀ d, look k t = some d → ∃ u, (l.find? fun e => keyIs k e.key).map (·.val) = some u ∧ FlV u d) ∧ (look k t = none → (l.find? fun e => keyIs k e.key).map (·.val) = none)
  | [], [], _ => ⟨fun d (e : none = some d) => (nomatch e), fun _ => rfl⟩
  | [], _ :: _, h => h.elim
  | _ :: _, [], h => h.elim
  | e :: r, (j, x) :: t, h => by
    obtain ⟨h1, h2, h3, h4⟩ := h
    obtain ⟨i1, i2⟩ := tbl_find (P := P) k h4
    have hk := keyIs_eq (P := P) (w := w) (k' := k) h1
    rw [List.find?_cons, hk]
    unfold look
    by_cases c : j = k
    · rw [if_pos c, decide_eq_true c.symm]
      exact ⟨fun d e => by cases e; exact ⟨_, rfl, h3⟩, fun e => by cases e⟩
    · rw [if_neg c, decide_eq_false fun z => c z.symm]
      exact ⟨i1, i2⟩
theorem tbl_keys {w : World} : ∀ {l : List DictEntry} {t : List (Key × D)}, TblOk w l t → ∀ e ∈ l, ∃ k, keyIs k e.key = true ∧ e.hash = keyH w k
  | [], [], _, e, m => by cases m
  | [], _ :: _, h, _, _ => h.elim
  | _ :: _, [], h, _, _ => h.elim
  | x :: r, (j, y) :: t, h, e, m => by
    obtain ⟨h1, h2, h3, h4⟩ := h
    rcases List.mem_cons.mp m with z | z
    · subst z; exact ⟨j, h1, h2⟩
    · exact tbl_keys h4 e z
theorem tbl_map {P : Program} {w : World} {K : PySem.W.Frag} {h : Heap} {a : Addr} {es : Array DictEntry} {n : Nat} {t : List (Key × D)} (X : K.In h) (hl : K.lookup a = some ⟨.type "dict", none, .dict es n, #[]⟩) (ht : TblOk w es.toList t) :
    h.MapOf (mixKind P w) a (fun k => (es.toList.find? fun e => keyIs k e.key).map (·.val)) :=
  ⟨_, es, n, X _ _ hl, ⟨rfl, rfl, rfl⟩, rfl, fun e he => tbl_keys ht e (Array.mem_toList_iff.mpr he), fun k => by
    obtain ⟨l⟩ := es
    unfold findBy
    rw [List.find?_toArray]
    rfl⟩
/-- t[k], k in t for a table of the module -/
def wKey : W → Option Key
  | .d x => keyD x
  | .r _ => none
def tsubW (t : List (Key × D)) (y : W) : M W := opt ((wKey y).bind fun k => (look k t).map .d)
def tinW (t : List (Key × D)) (y : W) : M Bool := opt ((wKey y).map fun k => (look k t).isSome)
def tsubM (t : List (Key × D)) (b : EM) : EM := fun ρ => bnd (b ρ) fun y => tsubW t y
def tinM (t : List (Key × D)) (b : EM) : EM := fun ρ => bnd (b ρ) fun y => bnd (tinW t y) fun c => ret (.d (.bool c))
def tninM (t : List (Key × D)) (b : EM) : EM := fun ρ => bnd (b ρ) fun y => bnd (tinW t y) fun c => ret (.d (.bool (!c)))
section
variable {X : Cx} {ca : Nat → Addr} {a b c e : Expr} {ma mb mc : EM} {ms : AM} {pos p p2 : Pos} {es : List Expr} {x : Str} {st : Stmt} {sa sb : List Stmt} {na nb : SM} {t : List (Key × D)}
theorem keyV_is {K : PySem.W.Frag} {η : Zs} {H : Hp} {y : V} {d : D} {k : Key} {u : Value} (r : Rp K η H y d) (e : keyD d = some k) (ry : RelV y u) : keyIs k u = true := by
  cases r with
  | int i => cases e; obtain ⟨t, rfl⟩ := ry; exact keyIs_int i t
  | str z => cases e; obtain ⟨t, rfl⟩ := ry; exact keyIs_str z t
  | _ => cases e
theorem wKey_is {K : PySem.W.Frag} {η : Zs} {H : Hp} {y : V} {w : W} {k : Key} {u : Value} (r : RW K η H y w) (e : wKey w = some k) (ry : RelV y u) : keyIs k u = true := by
  cases r with
  | r _ => cases e
  | d r => exact keyV_is r e ry
theorem r_tsub (h : Gd X.K X.w X.mg x t) (hb : PE X b (tE X.K ca mb)) (hg : Gl X x := by rfl) (hd : (x == ("__debug__" : Str)) = false := by decide) (hs : PlainIx b := by exact fun _ _ => rfl) : PE X (.Subscript (.Name x p) b pos) (tE X.K ca (tsubM t mb)) := by
  obtain ⟨a, es, n, hm, hl, low, ht⟩ := h.ex
  refine ⟨fun pins s σ H Q I q => ?_⟩
  obtain ⟨ρ, S, η, er, sr, q⟩ := q
  refine Subscript_ (ld_glob I hg hm ?_ hd)
  refine thn (hb.run pins s σ H _ I (tE_seq er sr q fun w S1 v H1 η1 g er1 sr1 r1 q1 => (⟨η1, S1, w, g, sr1, r1, q1⟩ : ∃ η1 S1 w, Grow η H η1 H1 ∧ SR X.K ca η1 H1 S1 ∧ RW X.K η1 H1 v w ∧ post (tsubW t w S1) (qW X.K ca η H Q)))) fun u s1 ⟨y, H1, I1, ry, η1, S1, w, g, sr1, r1, q1⟩ => ?_
  obtain ⟨w0, ew, q1⟩ := post_opt1 q1
  obtain ⟨kk, ek, ew⟩ := Option.bind_eq_some_iff.mp ew
  obtain ⟨d, el, rfl⟩ := Option.map_eq_some_iff.mp ew
  obtain ⟨u0, hf, fl⟩ := (tbl_find (P := X.prog) kk ht).1 d el
  obtain ⟨v0, rv, rp⟩ := fl.rel (K := X.K) (η := η1) (H := H1)
  have hmap := tbl_map (P := X.prog) (w := X.w) I1.kIn hl ht
  exact tail_any hmap.typeIs slot_dict_getitem.lookup (wpAny_getItem_of (knd := mixKind X.prog X.w) (wKey_is r1 ek ry) hmap hf ⟨v0, H1, I1.tok _, rv, q1 v0 H1 η1 g sr1 (.d rp)⟩) (hs _ _)
theorem tin_op (neg : Bool) (h : Gd X.K X.w X.mg x t) : ∃ a, X.mg x = some (.ref a) ∧ OpR X (compareOp (if neg = true then .NotIn else .In)) (fun v y H Q => y = .ref a ∧ ∃ w c η S, RW X.K η H v w ∧ SR X.K ca η H S ∧ (wKey w).map (fun k => (look k t).isSome) = some c ∧ Q (.bl (if neg = true then !c else c)) H) := by
  obtain ⟨a, es, n, hm, hl, low, ht⟩ := h.ex
  refine ⟨a, hm, ?_⟩
  intro pins s σ H v y u1 u2 Q I r1 r2 hq
  obtain ⟨rfl, w, c, η, S, rw', sr, e, q⟩ := hq
  obtain ⟨k, ek, ec⟩ := Option.map_eq_some_iff.mp e
  have hmap := tbl_map (P := X.prog) (w := X.w) I.kIn hl ht
  cases r2
  have hf : ((es.toList.find? fun e => keyIs k e.key).map (·.val)).isSome = c := by
    rw [← ec]
    cases el : look k t with
    | none => rw [(tbl_find (P := X.prog) k ht).2 el]; rfl
    | some d =>
      obtain ⟨u0, hf, _⟩ := (tbl_find (P := X.prog) k ht).1 d el
      rw [hf]; rfl
  cases neg with
  | true =>
    refine wpAny_notIn_of (knd := mixKind X.prog X.w) (wKey_is rw' ek r1) low hmap ?_
    refine ⟨.bl (!c), H, I.tok _, ?_, q⟩
    rw [hf]; rfl
  | false =>
    refine wpAny_in_of (knd := mixKind X.prog X.w) (wKey_is rw' ek r1) low hmap ?_
    refine ⟨.bl c, H, I.tok _, ?_, q⟩
    rw [hf]; rfl
theorem post_tin {w : W} {S : Sto} {q : W → Sto → Prop} {f : Bool → Bool} (h : post (bnd (tinW t w) (fun c => ret (.d (.bool (f c)))) S) q) : ∃ c, (wKey w).map (fun k => (look k t).isSome) = some c ∧ q (.d (.bool (f c))) S := by
  rw [post_bnd] at h
  exact post_opt1 h
theorem tin_tE {neg : Bool} {av : Addr} {K : PySem.W.Frag} {σ : Sg} {H : Hp} {Q : VK} (q : tE K ca (fun ρ => bnd (ma ρ) fun y => bnd (tinW t y) fun c => ret (.d (.bool (if neg = true then !c else c)))) σ H Q) :
    tOp (fun v y H Q => y = .ref av ∧ ∃ w c η S, RW K η H v w ∧ SR K ca η H S ∧ (wKey w).map (fun k => (look k t).isSome) = some c ∧ Q (.bl (if neg = true then !c else c)) H) (tE K ca ma) (tC (.ref av)) σ H Q := by
  obtain ⟨ρ, S, η, er, sr, q⟩ := q
  refine tE_seq er sr q fun w S1 v H1 η1 g er1 sr1 r1 q1 => ?_
  obtain ⟨c, ec, q2⟩ := post_tin q1
  exact ⟨rfl, w, c, η1, S1, r1, sr1, ec, q2 _ H1 η1 g sr1 (.d (.bl _))⟩
theorem tin_bool {neg : Bool} {ρ : Sl} {S S' : Sto} {w : W} (e : (fun ρ => bnd (ma ρ) fun y => bnd (tinW t y) fun c => ret (.d (.bool (if neg = true then !c else c))) : EM) ρ S = some (.ok w S')) : ∃ b, w = .d (.bool b) := by
  obtain ⟨_, _, _, e⟩ := ok_bnd e
  obtain ⟨c, _, _, e⟩ := ok_bnd e
  cases e
  exact ⟨_, rfl⟩
theorem r_tin (h : Gd X.K X.w X.mg x t) (ha : PE X a (tE X.K ca ma)) (hg : Gl X x := by rfl) (hd : (x == ("__debug__" : Str)) = false := by decide) : PE X (.Compare a [.In] [.Name x p] pos) (tE X.K ca (tinM t ma)) := by
  obtain ⟨av, hm, ho⟩ := tin_op (ca := ca) false h
  exact PE.of (pe_cmpR ho ha (pe_glob (v := .ref av) hg hm rfl hd) (by first | rfl | with_unfolding_all rfl)) fun σ H Q q => tin_tE (neg := false) q
theorem r_tnin (h : Gd X.K X.w X.mg x t) (ha : PE X a (tE X.K ca ma)) (hg : Gl X x := by rfl) (hd : (x == ("__debug__" : Str)) = false := by decide) : PE X (.Compare a [.NotIn] [.Name x p] pos) (tE X.K ca (tninM t ma)) := by
  obtain ⟨av, hm, ho⟩ := tin_op (ca := ca) true h
  exact PE.of (pe_cmpR ho ha (pe_glob (v := .ref av) hg hm rfl hd) (by first | rfl | with_unfolding_all rfl)) fun σ H Q q => tin_tE (neg := true) q
theorem t_tin (h : Gd X.K X.w X.mg x t) (ha : PE X a (tE X.K ca ma)) (hg : Gl X x := by rfl) (hd : (x == ("__debug__" : Str)) = false := by decide) : PT X (.Compare a [.In] [.Name x p] pos) (tT X.K ca (tst (tinM t ma))) := by
  obtain ⟨av, hm, ho⟩ := tin_op (ca := ca) false h
  exact PT.of (pt_cmpR ho ha (pe_glob (v := .ref av) hg hm rfl hd) (by first | rfl | with_unfolding_all rfl)) fun σ H Q q => tst_bool (fun Q' q => tin_tE (neg := false) q) (fun ρ S w S' e => tin_bool (neg := false) e) q
theorem t_tnin (h : Gd X.K X.w X.mg x t) (ha : PE X a (tE X.K ca ma)) (hg : Gl X x := by rfl) (hd : (x == ("__debug__" : Str)) = false := by decide) : PT X (.Compare a [.NotIn] [.Name x p] pos) (tT X.K ca (tst (tninM t ma))) := by
  obtain ⟨av, hm, ho⟩ := tin_op (ca := ca) true h
  exact PT.of (pt_cmpR ho ha (pe_glob (v := .ref av) hg hm rfl hd) (by first | rfl | with_unfolding_all rfl)) fun σ H Q q => tst_bool (fun Q' q => tin_tE (neg := true) q) (fun ρ S w S' e => tin_bool (neg := true) e) q
end
end MP

/-! Dicts made, sorted, sums of lists, op=, comprehensions of two sources. -/
namespace MP
open PySem L2 PySem.Spec PyProof.Rows
/-! ### something that was made becomes an object of the store -/
def Zs.fin (z : Zs) (p : Addr) : Zs := ⟨z.l ++ [p], z.t.filter fun a => decide (a ≠ p)⟩
section
variable {K : PySem.W.Frag} {ca : Nat → Addr} {η : Zs} {H : Hp} {p : Addr} {o : HO}
theorem fr_fin {a : Addr} (hp : p ∈ η.t) (h : η.fr a) : (η.fin p).fr a := by
  have ne : a ≠ p := fun z => h.2 (by rw [z]; exact hp)
  refine ⟨fun m => ?_, fun m => h.2 (List.mem_filter.mp m).1⟩
  rcases List.mem_append.mp m with m | m
  · exact h.1 m
  · exact ne (List.mem_singleton.mp m)
mutual
theorem Rp.fin (hp : p ∈ η.t) : ∀ (d : D) (v : V), Rp K η H v d → Rp K (η.fin p) (upd H p o) v d
  | .none, _, h => by cases h; exact .non
  | .bool b, _, h => by cases h; exact .bl b
  | .int i, _, h => by cases h; exact .int i
  | .str x, _, h => by cases h; exact .str x
  | .list ds, _, h => by
    cases h with
    | @lst a _ _ x b =>
      refine .lst ?_ (RpAll.fin hp ds _ b)
      rcases x with ⟨r, n⟩ | r
      · have ne : a ≠ p := fun z => n.2 (by rw [z]; exact hp)
        rcases r with r | ⟨ob, r⟩
        · exact .inl ⟨.inl (by rw [upd_ne ne]; exact r), fr_fin hp n⟩
        · exact .inl ⟨.inr ⟨ob, by rw [upd_ne ne]; exact r⟩, fr_fin hp n⟩
      · exact .inr r
  | .tuple ds, _, h => by
    cases h with
    | @tup a _ _ x b =>
      refine .tup ?_ (RpAll.fin hp ds _ b)
      rcases x with ⟨r, n⟩ | r
      · have ne : a ≠ p := fun z => n.2 (by rw [z]; exact hp)
        exact .inl ⟨by rw [upd_ne ne]; exact r, fr_fin hp n⟩
      · exact .inr r
  | .dict _, _, h => by cases h
theorem RpAll.fin (hp : p ∈ η.t) : ∀ (ds : List D) (vs : List V), RpAll K η H vs ds → RpAll K (η.fin p) (upd H p o) vs ds
  | [], _, h => by cases h; exact .nil
  | d :: ds, _, h => by
    cases h with
    | cons a b => exact .cons (Rp.fin hp d _ a) (RpAll.fin hp ds _ b)
end
theorem RW.fin (hp : p ∈ η.t) {v : V} {w : W} (h : RW K η H v w) : RW K (η.fin p) (upd H p o) v w := by
  cases h with
  | d r => exact .d (Rp.fin hp _ _ r)
  | @r i a e =>
    refine .r ?_
    show (η.l ++ [p])[i]? = some a
    rw [List.getElem?_append_left (List.getElem?_eq_some_iff.mp e).1]
    exact e
theorem RWs.fin (hp : p ∈ η.t) : ∀ {vs : List V} {ws : List W}, RWs K η H vs ws → RWs K (η.fin p) (upd H p o) vs ws
  | _, _, .nil => .nil
  | _, _, .cons a b => .cons (a.fin hp) (RWs.fin hp b)
theorem KR.fin {κ : Type} (hp : p ∈ η.t) : ∀ {vs : List (κ × V)} {ws : List (κ × W)}, KR K η H vs ws → KR K (η.fin p) (upd H p o) vs ws
  | _, _, .nil => .nil
  | _, _, .cons a b => .cons (a.fin hp) (KR.fin hp b)
theorem OR.fin (hp : p ∈ η.t) {a : Addr} {u : O} (ne : a ≠ p) (h : OR K ca η H a u) : OR K ca (η.fin p) (upd H p o) a u := by
  cases u with
  | lst _ => obtain ⟨vs, q, r⟩ := h; exact ⟨vs, by rw [upd_ne ne]; exact q, r.fin hp⟩
  | dk _ => obtain ⟨vs, q, r⟩ := h; exact ⟨vs, by rw [upd_ne ne]; exact q, r.fin hp⟩
  | dt _ => obtain ⟨vs, q, r⟩ := h; exact ⟨vs, by rw [upd_ne ne]; exact q, r.fin hp⟩
  | ins _ _ => obtain ⟨dx, vs, q, r⟩ := h; exact ⟨dx, vs, by rw [upd_ne ne]; exact q, r.fin hp⟩
theorem SR.fin {S : Sto} (h : SR K ca η H S) (hp : p ∈ η.t) {u : O} (hu : OR K ca (η.fin p) (upd H p o) p u) : SR K ca (η.fin p) (upd H p o) (S ++ [u]) := by
  obtain ⟨np, _⟩ := h.tmp p hp
  refine ⟨?_, ?_, fun a m => ?_, fun i a v e1 e2 => ?_⟩
  · show (η.l ++ [p]).length = _
    rw [List.length_append, List.length_append, h.len]; rfl
  · show (η.l ++ [p]).Nodup
    rw [List.nodup_append]
    refine ⟨h.nd, by simp, fun a ha b hb => ?_⟩
    rw [List.mem_singleton.mp hb]
    intro e
    rw [e] at ha
    exact np ha
  · obtain ⟨m1, m2⟩ := List.mem_filter.mp m
    have ne : a ≠ p := of_decide_eq_true m2
    obtain ⟨n, u, e⟩ := h.tmp a m1
    refine ⟨fun m3 => ?_, u, by rw [upd_ne ne]; exact e⟩
    rcases List.mem_append.mp m3 with m3 | m3
    · exact n m3
    · exact ne (List.mem_singleton.mp m3)
  · have e1 : (η.l ++ [p])[i]? = some a := e1
    by_cases hi : i < η.l.length
    · rw [List.getElem?_append_left hi] at e1
      rw [List.getElem?_append_left (by rw [← h.len]; exact hi)] at e2
      exact (h.obj i a v e1 e2).fin hp fun z => np (by rw [← z]; exact List.mem_of_getElem? e1)
    · have hi' : i = η.l.length := by
        have hb : i < (η.l ++ [p]).length := (List.getElem?_eq_some_iff.mp e1).1
        rw [List.length_append, List.length_singleton] at hb
        omega
      subst hi'
      rw [List.getElem?_append_right (Nat.le_refl _), Nat.sub_self] at e1
      rw [h.len, List.getElem?_append_right (Nat.le_refl _), Nat.sub_self] at e2
      cases e1
      cases e2
      exact hu
theorem grow_fin {η0 : Zs} {H0 : Hp} (g : Grow η0 H0 η H) (hp0 : H0 p = none) (hp : p ∉ η0.t) : Grow η0 H0 (η.fin p) (upd H p o) := by
  obtain ⟨m, e⟩ := g.pre
  refine ⟨⟨m ++ [p], by show η.l ++ [p] = _; rw [e, List.append_assoc]⟩, fun a u ea n => ?_, fun a u ea n n2 m => g.tm a u ea n n2 (List.mem_filter.mp m).1, fun a m => List.mem_filter.mpr ⟨g.tk a m, decide_eq_true fun z => hp (by rw [← z]; exact m)⟩⟩
  have ne : a ≠ p := ne_of_none ea hp0
  obtain ⟨k1, k2⟩ := g.keep a u ea n
  refine ⟨by rw [upd_ne ne]; exact k1, fun m => ?_⟩
  rcases List.mem_append.mp m with m | m
  · exact k2 m
  · exact ne (List.mem_singleton.mp m)
end
/-! ### {k: v, ..} -/
def mrg (kvs more : List (Key × W)) : List (Key × W) := more.foldl (fun acc kv => put acc kv.1 kv.2) kvs
theorem KR.mrg {K : PySem.W.Frag} {η : Zs} {H : Hp} : ∀ {vs us : List (Key × V)} {ws ys : List (Key × W)}, KR K η H vs ws → KR K η H us ys → KR K η H (mergeK vs us) (MP.mrg ws ys)
  | _, _, _, _, h, .nil => h
  | vs, _, ws, _, h, .cons (k := k) (v := v) (w := w) (vs := us) (ws := ys) r t => by
    have q := KR.mrg (vs := putK vs k v) (us := us) (ws := MP.put ws k w) (ys := ys) (KR.put r h) t
    exact q
theorem KR.zip {K : PySem.W.Frag} {η : Zs} {H : Hp} : ∀ (ks : List Key) {vs : List V} {ws : List W}, RWs K η H vs ws → KR K η H (ks.zip vs) (ks.zip ws)
  | [], _, _, _ => .nil
  | _ :: _, _, _, .nil => .nil
  | _ :: ks, _, _, .cons r t => .cons r (KR.zip ks t)
def dispM (ks : List Key) (ms : AM) : EM := fun ρ => bnd (ms ρ) fun ws => if ks.length = ws.length ∧ ks.length ≤ 15 then alloc (.dk (mrg [] (ks.zip ws))) else bad
section
variable {X : Cx} {ca : Nat → Addr} {a b c e : Expr} {ma mb mc : EM} {ms : AM} {pos p p2 : Pos} {es : List Expr} {x : Str} {st : Stmt} {sa sb : List Stmt} {na nb : SM}
inductive PKs (X : Cx) (ca : Nat → Addr) : List (Option Expr) → List Expr → List Key → AM → Prop
  | nil : PKs X ca [] [] [] nilM
  | int {i : Int} {j} {pos : Pos} {v : Expr} {mv : EM} {ks vs kk ms} : PE X v (tE X.K ca mv) → PKs X ca ks vs kk ms → PKs X ca (some (.Constant (.int i) j pos) :: ks) (v :: vs) (.inl i :: kk) (consM mv ms)
  | str {z : Str} {j} {pos : Pos} {v : Expr} {mv : EM} {ks vs kk ms} : PE X v (tE X.K ca mv) → PKs X ca ks vs kk ms → PKs X ca (some (.Constant (.str z) j pos) :: ks) (v :: vs) (.inr z :: kk) (consM mv ms)
theorem pks_go {ks : List (Option Expr)} {vs : List Expr} {kk : List Key} {ms : AM} (pos : Pos) (h : PKs X ca ks vs kk ms) : ∃ trs, PPs X pos ks vs trs ∧ ks.all (·.isSome) = true ∧ ks.length = vs.length ∧ ks.length = kk.length ∧
    ∀ (σ : Sg) (ρ : Sl) (S : Sto) (η : Zs) (H : Hp) (q : List W → Sto → Prop) (R : List (V × V) → Hp → Prop), ER X.K η H σ ρ → SR X.K ca η H S → post (ms ρ S) q →
      (∀ ws S' us H' η', Grow η H η' H' → SR X.K ca η' H' S' → RWs X.K η' H' us ws → us.length = kk.length → q ws S' → R ((kk.zip us).map fun kv => (kV kv.1, kv.2)) H') → tPairs trs σ H R := by
  induction h with
  | nil => exact ⟨[], pps_nil, rfl, rfl, rfl, fun σ ρ S η H q R er sr h k => k [] S [] H η (Grow.refl _ _) sr .nil rfl h⟩
  | @int i j pos' v mv ks vs kk ms hv _ ih =>
    obtain ⟨trs, h1, h2, h3, h4, h5⟩ := ih
    refine ⟨_, pps_cons pe_int hv h1, by rw [List.all_cons, h2]; rfl, by rw [List.length_cons, List.length_cons, h3], by rw [List.length_cons, List.length_cons, h4], fun σ ρ S η H q R er sr h k => ?_⟩
    rw [show consM mv ms ρ = bnd (mv ρ) (fun w => bnd (ms ρ) fun ws => ret (w :: ws)) from rfl] at h
    show tE X.K ca mv σ H _
    refine tE_seq er sr h fun w S1 u H1 η1 g1 er1 sr1 r1 q1 => ?_
    rw [post_bnd] at q1
    refine h5 σ ρ S1 η1 H1 _ _ er1 sr1 q1 fun ws S2 us H2 η2 g2 sr2 r2 hl q2 => ?_
    exact k (w :: ws) S2 (u :: us) H2 η2 (g1.trans g2) sr2 (.cons (r1.grow g2) r2) (by rw [List.length_cons, List.length_cons, hl]) q2
  | @str z j pos' v mv ks vs kk ms hv _ ih =>
    obtain ⟨trs, h1, h2, h3, h4, h5⟩ := ih
    refine ⟨_, pps_cons pe_str hv h1, by rw [List.all_cons, h2]; rfl, by rw [List.length_cons, List.length_cons, h3], by rw [List.length_cons, List.length_cons, h4], fun σ ρ S η H q R er sr h k => ?_⟩
    rw [show consM mv ms ρ = bnd (mv ρ) (fun w => bnd (ms ρ) fun ws => ret (w :: ws)) from rfl] at h
    show tE X.K ca mv σ H _
    refine tE_seq er sr h fun w S1 u H1 η1 g1 er1 sr1 r1 q1 => ?_
    rw [post_bnd] at q1
    refine h5 σ ρ S1 η1 H1 _ _ er1 sr1 q1 fun ws S2 us H2 η2 g2 sr2 r2 hl q2 => ?_
    exact k (w :: ws) S2 (u :: us) H2 η2 (g1.trans g2) sr2 (.cons (r1.grow g2) r2) (by rw [List.length_cons, List.length_cons, hl]) q2
theorem r_disp {ks : List (Option Expr)} {vs : List Expr} {kk : List Key} (h : PKs X ca ks vs kk ms) (h0 : ks ≠ [] := by exact fun z => by cases z) (h15 : ks.length ≤ 15 := by decide) : PE X (.Dict ks vs pos) (tE X.K ca (dispM kk ms)) := by
  obtain ⟨trs, h1, h2, h3, h4, h5⟩ := pks_go pos h
  refine PE.of (pe_disp h1 h2 h3 h0 h15) fun σ H Q q p hp => ?_
  obtain ⟨ρ, S, η, er, sr, q⟩ := q
  rw [show dispM kk ms ρ = bnd (ms ρ) (fun ws => if kk.length = ws.length ∧ kk.length ≤ 15 then alloc (.dk (mrg [] (kk.zip ws))) else bad) from rfl, post_bnd] at q
  have gt := grow_tmp (η := η) (o := .dK []) hp
  have npt : p ∉ η.t := fun m => by
    obtain ⟨_, u, e⟩ := sr.tmp p m
    rw [hp] at e; cases e
  refine h5 σ ρ S (η.tmp p) _ _ _ (er.grow gt) (sr.up hp) q fun ws S1 us H1 η1 g1 sr1 r1 hl q1 => ?_
  have mp : p ∈ η1.t := g1.tk p List.mem_cons_self
  have ep : H1 p = some (.dK []) := (g1.keep p _ upd_same (sr.fresh hp).1).1
  by_cases c : kk.length = ws.length ∧ kk.length ≤ 15
  · rw [if_pos c] at q1
    have q1 : qW X.K ca η H Q (.r S1.length) (S1 ++ [.dk (mrg [] (kk.zip ws))]) := q1
    refine ⟨ep, kk.zip us, rfl, by rw [List.length_zip]; omega, ?_⟩
    refine q1 (.ref p) _ (η1.fin p) (grow_fin (gt.trans g1) hp npt) (sr1.fin mp ⟨_, upd_same, ?_⟩) (.r ?_)
    · exact KR.mrg .nil (KR.zip kk (r1.fin mp))
    · show (η1.l ++ [p])[S1.length]? = some p
      rw [← sr1.len, List.getElem?_append_right (Nat.le_refl _), Nat.sub_self]
      rfl
  · rw [if_neg c] at q1
    exact q1.elim
/-! ### list(d.items()) -/
def kD : Key → D
  | .inl i => .int i
  | .inr x => .str x
theorem rp_key {K : PySem.W.Frag} {η : Zs} {H : Hp} : ∀ k : Key, Rp K η H (kV k) (kD k)
  | .inl i => .int i
  | .inr x => .str x
def kvData : List (Key × W) → Option (List D)
  | [] => some []
  | (k, .d x) :: r => (kvData r).map (.tuple [kD k, x] :: ·)
  | (_, .r _) :: _ => none
def itemsLW (w : W) : M W := fun S => match w with
  | .r i => match S[i]? with
    | some (.dk kvs) => (kvData kvs).map fun ds => .ok (.d (.list ds)) S
    | _ => none
  | .d _ => none
def itemsLM (mo : EM) : EM := fun ρ => bnd (mo ρ) itemsLW
theorem SR.ext {K : PySem.W.Frag} {η : Zs} {H H' : Hp} {S : Sto} (h : SR K ca η H S) (k : ∀ b o, H b = some o → H' b = some o) : SR K ca η H' S := by
  have g : Grow η H η H' := ⟨⟨[], by simp⟩, fun a o e n => ⟨k a o e, n⟩, fun _ _ _ _ n => n, fun _ n => n⟩
  refine ⟨h.len, h.nd, fun a m => ?_, fun i a o e1 e2 => ?_⟩
  · obtain ⟨n, u, e⟩ := h.tmp a m
    exact ⟨n, u, k a u e⟩
  · have q := h.obj i a o e1 e2
    obtain ⟨z, ez⟩ := q.there
    exact q.grow g ((k a z ez).trans ez.symm)
theorem items_rel {K : PySem.W.Frag} {η : Zs} {H H' : Hp} (fr : ∀ t, H t = none → η.fr t) (g : Grow η H η H') : ∀ {kvs : List (Key × V)} {ws : List (Key × W)} {ts : List Addr} {ds : List D}, KR K η H kvs ws → (∀ t ∈ ts, H t = none) →
    Paired (fun (t : Addr) (q : Key × V) => H' t = some (.tup [kV q.1, q.2])) ts kvs → kvData ws = some ds → RpAll K η H' (ts.map V.ref) ds
  | _, _, _, _, .nil, _, .nil, e => by cases e; exact .nil
  | _, _, _, _, .cons (k := k) r t, ht, .cons hp p, e => by
    cases r with
    | r _ => cases e
    | d r =>
      obtain ⟨ds, e1, e2⟩ := Option.map_eq_some_iff.mp e
      subst e2
      exact .cons (.tup (.inl ⟨hp, fr _ (ht _ List.mem_cons_self)⟩) (.cons (rp_key k) (.cons (Rp.grow g _ _ r) .nil))) (items_rel fr g t (fun z m => ht z (List.mem_cons_of_mem _ m)) p e1)
theorem r_itemsL (ck : Ck X) {apos cpos : Pos} (hm : X.mg "list" = none) (he : PE X e (tE X.K ca ma)) (hg : Gl X "list" := by rfl) (hbase : attributeBase e "items" X.env (eval e X.env) = eval e X.env := by rfl) (hline : (apos.endLine == cpos.line) = true := by rfl)
    (hs : starEach [.Call (.Attribute e "items" apos) [] [] cpos] X.env = (false, eval (.Call (.Attribute e "items" apos) [] [] cpos) X.env) :: starEach [] X.env := by rfl) :
    PE X (.Call (.Name "list" p) [.Call (.Attribute e "items" apos) [] [] cpos] [] pos) (tE X.K ca (itemsLM ma)) := by
  refine PE.of (LiI.pe_listItems ck.calm he hg hm (by decide +kernel) hbase hline hs) fun σ H Q q => ?_
  obtain ⟨ρ, S, η, er, sr, q⟩ := q
  refine tE_seq er sr q fun w S1 v H1 η1 g1 er1 sr1 r1 q1 => ?_
  cases r1 with
  | d _ => exact q1.elim
  | @r i a ea =>
    unfold itemsLW at q1
    dsimp only at q1
    split at q1
    · rename_i kvs es
      obtain ⟨ds, ek, q2⟩ := post_map _ _ _ q1
      obtain ⟨vs, hv, kr⟩ := sr1.at ea es
      refine ⟨a, vs, rfl, hv, fun H' p ts k hp ht hpt hl hpd => ?_⟩
      have g : Grow η1 H1 η1 H' := ⟨⟨[], by simp⟩, fun a o e n => ⟨k a o e, n⟩, fun _ _ _ _ n => n, fun _ n => n⟩
      exact q2 (.ref p) H' η1 (g1.trans g) (sr1.ext k) (.d (.lst (.inl ⟨.inl hl, sr1.fresh hp⟩) (items_rel (fun t ht => sr1.fresh ht) g kr ht hpd ek)))
    · exact q1.elim
/-! ### dict(pairs), sorted -/
def kvOf : List D → Option (List (Key × W))
  | [] => some []
  | .tuple [k, x] :: r => match keyD k, kvOf r with
    | some k, some t => some ((k, .d x) :: t)
    | _, _ => none
  | _ :: _ => none
def dictW : List W → M W := fun ws S => match ws with
  | [.d (.list ds)] => match kvOf ds with
    | some kvs => some (.ok (.r S.length) (S ++ [.dk (mrg [] kvs)]))
    | none => none
  | _ => none
theorem pairs_rel {K : PySem.W.Frag} {η : Zs} {H : Hp} : ∀ {vs : List V} {ds : List D} {ws : List (Key × W)}, RpAll K η H vs ds → kvOf ds = some ws →
    ∃ (ps : List Addr) (kvs : List (Key × V)), vs = ps.map V.ref ∧ Paired (fun p kv => SqT K H p [kV kv.1, kv.2]) ps kvs ∧ KR K η H kvs ws
  | _, [], _, .nil, e => by cases e; exact ⟨[], [], rfl, .nil, .nil⟩
  | _, d :: ds, ws, .cons r t, e => by
    cases r with
    | @tup a xs es at' all =>
      cases all with
      | nil => cases e
      | cons r1 t1 => cases t1 with
        | nil => cases e
        | cons r2 t2 => cases t2 with
          | cons _ _ => cases e
          | nil =>
            unfold kvOf at e
            split at e
            · rename_i k rest ek er
              cases e
              obtain ⟨ps, kvs, e1, p1, k1⟩ := pairs_rel t er
              have ex := keyD_rel r1 ek
              subst ex
              exact ⟨a :: ps, (k, _) :: kvs, by rw [e1]; rfl, .cons at'.sq p1, .cons (.d r2) k1⟩
            · cases e
    | _ => cases e
theorem b1_dict (ck : Ck X) : CallR X (.type "dict") (rWs X.K ca dictW) := by
  refine CallR.of (call_dictP ck.calm) fun xs H Q h => ?_
  obtain ⟨η, S, ws, sr, r, h⟩ := h
  unfold dictW at h
  split at h
  · rename_i ds
    split at h
    · rename_i kvs ek
      obtain ⟨v, rfl, rp⟩ := rs_one r
      cases rp with
      | @lst a xs _ at' all =>
        obtain ⟨ps, kv, e1, p1, k1⟩ := pairs_rel all ek
        subst e1
        refine ⟨a, ps, kv, rfl, at'.sq, p1, fun p hp => ?_⟩
        have h : qW X.K ca η H Q (.r S.length) (S ++ [.dk (mrg [] kvs)]) := h
        refine h (.ref p) _ (η.add p) (grow_alloc sr hp) (sr.alloc hp ⟨_, upd_same, KR.mrg .nil (k1.grow (grow_alloc sr hp))⟩) (.r ?_)
        show (η.l ++ [p])[S.length]? = some p
        rw [← sr.len, List.getElem?_append_right (Nat.le_refl _), Nat.sub_self]
        rfl
    · exact h.elim
  · exact h.elim
def sortI (ns : List Int) : List Int := ns.mergeSort fun a b => decide (a ≤ b)
theorem sortI_perm (ns : List Int) : (sortI ns).Perm ns := List.mergeSort_perm _ _
theorem sortI_le (ns : List Int) : (sortI ns).Pairwise (· ≤ ·) := by
  have h := List.pairwise_mergeSort (le := fun a b : Int => decide (a ≤ b)) (fun a b c h1 h2 => by simp at *; omega) (fun a b => by simp; omega) ns
  exact h.imp fun h => of_decide_eq_true h
theorem same_sorted : ∀ {xs ys : List Int}, xs.Perm ys → xs.Pairwise (· ≤ ·) → ys.Pairwise (· ≤ ·) → xs = ys := fun hp h1 h2 => hp.eq_of_pairwise (fun a b _ _ h h' => Int.le_antisymm h h') h1 h2
def intKeys : List (Key × W) → Option (List Int)
  | [] => some []
  | (.inl i, _) :: r => (intKeys r).map (i :: ·)
  | (.inr _, _) :: _ => none
def sortedW : List W → M W := fun ws S => match ws with
  | [.d (.list ds)] => (intsOf ds).map fun ns => .ok (.d (.list ((sortI ns).map .int))) S
  | [.r i] => match S[i]? with
    | some (.dk kvs) => match intKeys kvs with
      | some ks => if ks.length < 64 then some (.ok (.d (.list ((sortI ks).map .int))) S) else none
      | none => none
    | _ => none
  | _ => none
theorem keys_rel {K : PySem.W.Frag} {η : Zs} {H : Hp} : ∀ {kvs : List (Key × V)} {ws : List (Key × W)} {ks : List Int}, KR K η H kvs ws → intKeys ws = some ks → kvs.map (·.1) = ks.map Sum.inl
  | _, _, _, .nil, e => by cases e; rfl
  | _, _, _, .cons (k := k) _ t, e => by
    cases k with
    | inr _ => cases e
    | inl i =>
      obtain ⟨ks, e1, e2⟩ := Option.map_eq_some_iff.mp e
      subst e2
      rw [List.map_cons, List.map_cons, keys_rel t e1]
theorem CallR.or {f : Value} {r r' : List V → Hp → VK → Prop} (h : CallR X f r) (h' : CallR X f r') : CallR X f (fun xs H Q => r xs H Q ∨ r' xs H Q) := fun pins s σ H xs us Q I rx q => q.elim (h pins s σ H xs us Q I rx) (h' pins s σ H xs us Q I rx)
theorem b1_sorted (ck : Ck X) : CallR X (.builtin "sorted") (rWs X.K ca sortedW) := by
  refine CallR.of (CallR.or cr_sortedI (call_sortedDI ck.calm)) fun xs H Q h => ?_
  obtain ⟨η, S, ws, sr, r, h⟩ := h
  unfold sortedW at h
  split at h
  · rename_i ds
    obtain ⟨ns, en, h⟩ := post_map _ _ _ h
    obtain ⟨v, rfl, rp⟩ := rs_one r
    cases rp with
    | @lst a xs _ at' all =>
      have ex := all.ints en
      subst ex
      refine .inl ⟨a, ns, rfl, at'.sq, fun ns' p hp hs hn => ?_⟩
      have e : ns' = sortI ns := same_sorted (hp.trans (sortI_perm ns).symm) hs (sortI_le ns)
      subst e
      exact h.lst sr (rp_ints _) hn
  · rename_i i
    split at h
    · rename_i kvs es
      split at h
      · rename_i ks ek
        split at h
        · rename_i h64
          cases r with
          | cons r1 t => cases t with
            | nil => cases r1 with
              | @r _ a ea =>
                obtain ⟨vs, hv, kr⟩ := sr.at ea es
                refine .inr ⟨a, vs, ks, rfl, .inl hv, keys_rel kr ek, h64, fun ys p hp hs hn => ?_⟩
                have e : ys = sortI ks := same_sorted (hp.trans (sortI_perm ks).symm) hs (sortI_le ks)
                subst e
                have h : qW X.K ca η H Q (.d (.list ((sortI ks).map .int))) S := h
                exact h.lst sr (rp_ints _) hn
        · exact h.elim
      · exact h.elim
    · exact h.elim
  · exact h.elim
/-! a built-in by its function -/
theorem tA_callW {K : PySem.W.Frag} {f : List W → M W} {σ : Sg} {H : Hp} {Q : VK} (q : tE K ca (fun ρ => bnd (ms ρ) f) σ H Q) : tCB (rWs K ca f) (tA K ca ms) σ H Q := by
  obtain ⟨ρ, S, η, er, sr, q⟩ := q
  exact tA_seq er sr q fun ws S1 vs H1 η1 g er1 sr1 r1 q1 => ⟨η1, S1, ws, sr1, r1, q1.imp fun _ _ z => z.mono g⟩
theorem r_bfB {m : List W → M W} {id : String} (hc : CallR X (.builtin id) (rWs X.K ca m)) (hm : X.mg x = none) (ha : PA X (a :: es) (tA X.K ca ms)) (hv : bootBuiltins x = some (.builtin id) := by decide +kernel) (hg : Gl X x := by rfl) (hn : x ≠ "__name__" := by decide) (hdb : (x == ("__debug__" : Str)) = false := by decide)
    (he : starEach (a :: es) X.env = (false, eval a X.env) :: starEach es X.env := by rfl) (hpl : (backTo pos (starEach es X.env)).any (·.1) = false := by rfl) : PE X (.Call (.Name x p) (a :: es) [] pos) (tE X.K ca (callM m ms)) := PE.of (pe_callB hc hg hm hv ha hn hdb he hpl) fun _ _ _ q => tA_callW q
theorem r_bfT {m : List W → M W} {T : String} (hc : CallR X (.type T) (rWs X.K ca m)) (hm : X.mg x = none) (ha : PA X (a :: es) (tA X.K ca ms)) (hv : bootBuiltins x = some (.type T) := by decide +kernel) (hg : Gl X x := by rfl) (hn : x ≠ "__name__" := by decide) (hdb : (x == ("__debug__" : Str)) = false := by decide)
    (he : starEach (a :: es) X.env = (false, eval a X.env) :: starEach es X.env := by rfl) (hpl : (backTo pos (starEach es X.env)).any (·.1) = false := by rfl) : PE X (.Call (.Name x p) (a :: es) [] pos) (tE X.K ca (callM m ms)) := PE.of (pe_callTy hc hg hm hv ha hn hdb he hpl) fun _ _ _ q => tA_callW q
/-! ### list + list, whatever they are; the sum an object of the store, or plain -/
def lstOf (w : W) : M (List W) := fun S => match w with
  | .d (.list xs) => some (.ok (xs.map .d) S)
  | .r i => match S[i]? with
    | some (.lst ws) => some (.ok ws S)
    | _ => none
  | _ => none
def catS (x y : W) : M W := bnd (lstOf x) fun a => bnd (lstOf y) fun b => if a.length + b.length ≤ SZ then alloc (.lst (a ++ b)) else bad
def catD (x y : W) : M W := bnd (lstOf x) fun a => bnd (lstOf y) fun b => match dataOf (a ++ b) with
  | some ds => if ds.length ≤ SZ then ret (.d (.list ds)) else bad
  | none => bad
theorem RpAll.ws {K : PySem.W.Frag} {η : Zs} {H : Hp} : ∀ {vs : List V} {ds : List D}, RpAll K η H vs ds → RWs K η H vs (ds.map .d)
  | _, _, .nil => .nil
  | _, _, .cons r t => .cons (.d r) (RpAll.ws t)
theorem lst_seq {K : PySem.W.Frag} {η : Zs} {H : Hp} {v : V} {w : W} {S : Sto} {α : Type} {f : List W → M α} {q : α → Sto → Prop} (sr : SR K ca η H S) (r : RW K η H v w) (h : post (bnd (lstOf w) f S) q) : ∃ a vs ws, v = .ref a ∧ SqL K H a vs ∧ RWs K η H vs ws ∧ post (f ws S) q := by
  rw [post_bnd] at h
  unfold lstOf at h
  split at h
  · cases r with
    | d r => cases r with
      | @lst a vs ds at' all => exact ⟨a, vs, _, rfl, at'.sq, all.ws, h⟩
  · split at h
    · rename_i ws es
      cases r with
      | @r _ a ea =>
        obtain ⟨vs, hv, kr⟩ := sr.at ea es
        exact ⟨a, vs, ws, rfl, .inl (.inl hv), kr, h⟩
    · exact h.elim
  · exact h.elim
theorem cat_s : OpR X (binaryOp .Add) (rW2 X.K ca catS) := by
  refine OpR.of op_catL fun x y H Q h => ?_
  obtain ⟨η, S, w1, w2, sr, r1, r2, h⟩ := h
  obtain ⟨l, vs, ws, e1, s1, q1, h⟩ := lst_seq sr r1 h
  obtain ⟨b, us, ys, e2, s2, q2, h⟩ := lst_seq sr r2 h
  by_cases c : ws.length + ys.length ≤ SZ
  · rw [if_pos c] at h
    have h : qW X.K ca η H Q (.r S.length) (S ++ [.lst (ws ++ ys)]) := h
    refine ⟨l, b, vs, us, e1, e2, s1, s2, szl (by rw [q1.length, q2.length]; exact c), fun p hp => ?_⟩
    have g := grow_alloc (o := .lst (vs ++ us)) sr hp
    refine h (.ref p) _ (η.add p) g (sr.alloc hp ⟨_, upd_same, (q1.grow g).append (q2.grow g)⟩) (.r ?_)
    show (η.l ++ [p])[S.length]? = some p
    rw [← sr.len, List.getElem?_append_right (Nat.le_refl _), Nat.sub_self]
    rfl
  · rw [if_neg c] at h
    exact h.elim
theorem cat_d : OpR X (binaryOp .Add) (rW2 X.K ca catD) := by
  refine OpR.of op_catL fun x y H Q h => ?_
  obtain ⟨η, S, w1, w2, sr, r1, r2, h⟩ := h
  obtain ⟨l, vs, ws, e1, s1, q1, h⟩ := lst_seq sr r1 h
  obtain ⟨b, us, ys, e2, s2, q2, h⟩ := lst_seq sr r2 h
  cases ed : dataOf (ws ++ ys) with
  | none => rw [ed] at h; exact h.elim
  | some ds =>
    rw [ed] at h
    have rd := (q1.append q2).data ed
    have h : post (if ds.length ≤ SZ then ret (.d (.list ds)) S else bad S) (qW X.K ca η H Q) := by
      by_cases c : ds.length ≤ SZ
      · rw [if_pos c]
        have h : post ((if ds.length ≤ SZ then ret (.d (.list ds)) else bad : M W) S) (qW X.K ca η H Q) := h
        rw [if_pos c] at h
        exact h
      · have h : post ((if ds.length ≤ SZ then ret (.d (.list ds)) else bad : M W) S) (qW X.K ca η H Q) := h
        rw [if_neg c] at h
        exact h.elim
    by_cases c : ds.length ≤ SZ
    · rw [if_pos c] at h
      have h : qW X.K ca η H Q (.d (.list ds)) S := h
      refine ⟨l, b, vs, us, e1, e2, s1, s2, szl ?_, fun p hp => h.lst sr rd hp⟩
      rw [← List.length_append, rd.length]; exact c
    · rw [if_neg c] at h
      exact h.elim
def op2M (m : W → W → M W) (a b : EM) : EM := fun ρ => bnd (a ρ) fun x => bnd (b ρ) fun y => m x y
theorem r_catS (ha : PE X a (tE X.K ca ma)) (hb : PE X b (tE X.K ca mb)) : PE X (.BinOp a .Add b pos) (tE X.K ca (op2M catS ma mb)) := e_op2 (r := fun t _ => t) (fun _ _ h1 h2 => pe_op cat_s h1 h2) ha hb
theorem r_catD (ha : PE X a (tE X.K ca ma)) (hb : PE X b (tE X.K ca mb)) : PE X (.BinOp a .Add b pos) (tE X.K ca (op2M catD ma mb)) := e_op2 (r := fun t _ => t) (fun _ _ h1 h2 => pe_op cat_d h1 h2) ha hb
end
end MP

/-! op= at a name; comprehensions of two sources. -/
namespace MP
open PySem L2 PySem.Spec PyProof.Rows
def isLst : D → Bool
  | .list _ => true
  | _ => false
/-- += where the left side is no list -/
def augD (x y : D) : Option D := if isLst x = true then none else binD .add x y
def augW : W → W → M W
  | .d x, .d y => bnd (opt (augD x y)) fun z => ret (.d z)
  | _, _ => bad
section
variable {prog : Program} {w : World} {A : Around} {E : Value → Shared → Prop} {s : Shared}
theorem noI_tuple_add : typeLookup (.type "tuple") (dunderI "add") = pure none := by rw [typeLookup_type, builtinLookup_eq_fast]; kernel_rfl
theorem icat_tup {t b : Addr} {vs ws : List Value} {Q : Value → Shared → Prop} (ht : IsTup s.heap t vs.toArray) (hb : IsTup s.heap b ws.toArray)
    (h0 : vs = [] → Q (.ref b) s) (h1 : vs ≠ [] → ws = [] → Q (.ref t) s) (h2 : vs ≠ [] → ws ≠ [] → Q (.ref s.heap.objs.size) { s with heap := s.heap.push { cls := .type "tuple", data := .seq (vs ++ ws).toArray } })
    (hsz : vs.length + ws.length ≤ sizeLine) : wpAny (model prog w) A (inplaceOp .Add (.ref t) (.ref b)) Q E s := by
  obtain ⟨⟨cls, dd, data, sl⟩, ho, hc, n, hd⟩ := id ht
  obtain ⟨⟨cls2, dd2, data2, sl2⟩, ho2, hc2, n2, hd2⟩ := id hb
  simp only at hc hd hc2 hd2
  subst hc hd hc2 hd2
  have e : vs.toArray ++ ws.toArray = (vs ++ ws).toArray := by simp
  by_cases hv : vs = []
  · exact PyProof.Rows.inplaceOp_concat ⟨_, ho, rfl⟩ ⟨_, ho2, rfl⟩ noI_tuple_add noFill_tuple_add seq_tuple_add (call_meets PySem.F.slot_tuple_add ⟨_, ho, rfl⟩ PySem.F.entry_tuple_add (PySem.F.args_tuple_add_2 _ _)
      (tuple_addW0 t b vs.toArray ws.toArray n n2 dd dd2 sl sl2 (by simp [hv])) ⟨ho, ho2, h0 hv⟩)
  · by_cases hw : ws = []
    · exact PyProof.Rows.inplaceOp_concat ⟨_, ho, rfl⟩ ⟨_, ho2, rfl⟩ noI_tuple_add noFill_tuple_add seq_tuple_add (call_meets PySem.F.slot_tuple_add ⟨_, ho, rfl⟩ PySem.F.entry_tuple_add (PySem.F.args_tuple_add_2 _ _)
        (tuple_addW1 t b vs.toArray ws.toArray n n2 dd dd2 sl sl2 (by simpa using hv) (by simp [hw])) ⟨ho, ho2, h1 hv hw⟩)
    · refine PyProof.Rows.inplaceOp_concat ⟨_, ho, rfl⟩ ⟨_, ho2, rfl⟩ noI_tuple_add noFill_tuple_add seq_tuple_add (call_meets PySem.F.slot_tuple_add ⟨_, ho, rfl⟩ PySem.F.entry_tuple_add (PySem.F.args_tuple_add_2 _ _)
        (tuple_addW2 t b vs.toArray ws.toArray n n2 dd dd2 sl sl2 (by simpa using hv) (by simpa using hw) (by rw [List.size_toArray, List.size_toArray]; exact hsz)) ⟨ho, ho2, ?_⟩)
      rw [e]
      exact h2 hv hw
end
section
variable {X : Cx} {ca : Nat → Addr} {a b c e : Expr} {ma mb mc : EM} {ms : AM} {pos p p2 : Pos} {es : List Expr} {x : Str} {st : Stmt} {sa sb : List Stmt} {na nb : SM}
theorem in_catT : PIp X .Add (rCatA X.K) := by
  intro pins s σ H x y v u Q I rx ry h
  obtain ⟨a, b, xs, ys, rfl, rfl, ha, hb, hz, q0, q1, q2⟩ := h
  cases rx
  cases ry
  obtain ⟨its, r1, p1, _⟩ := I.tuple ha
  obtain ⟨its2, r2, p2, _⟩ := I.tuple hb
  refine icat_tup p1 p2 (fun z => ⟨.ref b, H, I, rfl, q0 (r1.nil_iff.mp z)⟩) (fun z z2 => ⟨.ref a, H, I, rfl, q1 (fun y => z (r1.nil_iff.mpr y)) (r2.nil_iff.mp z2)⟩) (fun z z2 => ?_) (by rw [← r1.length, ← r2.length]; exact hz)
  refine ⟨.ref s.heap.objs.size, _, I.laid (t' := s.toks) (o := .tup (xs ++ ys)) (fun b ob q => Heap.get?_push_of_some _ q) (Nat.le_refl _) ?_, rfl, q2 (fun w => z (r1.nil_iff.mpr w)) (fun w => z2 (r2.nil_iff.mpr w)) _ (I.hok.fresh (Nat.le_refl _))⟩
  exact ⟨by rw [List.length_append]; exact hz, _, r1.append r2, IsTup.new _ _⟩
def rCatS : R2 := fun x y H Q => ∃ i j : Str, x = .str i ∧ y = .str j ∧ i.length + j.length ≤ sizeLine ∧ Q (.str (i ++ j)) H
theorem in_addS : PIp X .Add rCatS := fun pins s σ H x y v u Q I rx ry h => iop_add_str pins s σ H x y v u Q I rx ry h
theorem in_aug : PIp X .Add (rW2 X.K ca augW) := by
  intro pins s σ H x y v u Q I rx ry h
  obtain ⟨η, S, w1, w2, sr, r1, r2, h⟩ := h
  cases r1 with
  | r e => cases r2 <;> exact h.elim
  | d r1 => cases r2 with
    | r e => exact h.elim
    | d r2 =>
      obtain ⟨z, e, h⟩ := post_opt _ _ _ h
      have h : qW X.K ca η H Q (.d z) S := h
      cases r1 with
      | int i => cases r2 with
        | int j => cases e; exact L2.in_add pins s σ H _ _ v u Q I rx ry ⟨i, j, rfl, rfl, h.same sr (.d (.int _))⟩
        | _ => cases e
      | str i => cases r2 with
        | str j =>
          have e : binD .add (.str i) (.str j) = some z := e
          dsimp only [binD] at e
          split at e
          · cases e; exact in_addS pins s σ H _ _ v u Q I rx ry ⟨i, j, rfl, rfl, szl (by assumption), h.same sr (.d (.str _))⟩
          · cases e
        | _ => cases e
      | tup a1 b1 => cases r2 with
        | tup a2 b2 =>
          have e : (if _ then some _ else none) = some z := e
          obtain ⟨hz, ez⟩ := ite_some e
          subst ez
          refine in_catT pins s σ H _ _ v u Q I rx ry ⟨_, _, _, _, rfl, rfl, a1.sq, a2.sq, szl (by rw [b1.length, b2.length]; exact hz), fun e0 => ?_, fun _ e0 => ?_, fun _ _ p hp => ?_⟩
          · subst e0
            cases b1
            exact h.same sr (.d (.tup a2 b2))
          · subst e0
            cases b2
            rw [List.append_nil] at h
            exact h.same sr (.d (.tup a1 b1))
          · exact h.tup sr (b1.append b2) hp
        | _ => cases e
      | lst a1 b1 => cases e
      | _ => cases r2 <;> cases e
def augM (i : Nat) (a : EM) : SM := fun ρ => bnd (getV ρ i) fun x => bnd (a ρ) fun y => bnd (augW x y) fun z => ret (.nx (ρ.set i (some z)))
theorem z_aug (ck : Ck X) (i : Nat) {px : Pos} (he : PE X e (tE X.K ca ma)) (hi : X.N[i]? = some x := by rfl) (hx : Loc X.env.scope x := by first | exact Or.inl rfl | exact Or.inr rfl) (hf : X.fn x = true ∨ X.env.scope.names.lookup x = some .local := by first | exact Or.inl rfl | exact Or.inr rfl) :
    PS X (.AugAssign (.Name x px) .Add e pos) (tS X.K ca (augM i ma)) := by
  refine PS.of (ps_aug ck.nd hi hx he (in_aug (ca := ca)) hf) fun D σ H q => ?_
  obtain ⟨ρ, S, η, er, sr, q⟩ := q
  have q : post (bnd (getV ρ i) (fun x => bnd (ma ρ) fun y => bnd (augW x y) fun z => ret (.nx (ρ.set i (some z)))) S) (qS X.K ca η H D) := q
  rw [post_bnd] at q
  unfold getV at q
  cases eρ : ρ[i]? with
  | none => rw [eρ] at q; exact q.elim
  | some o => cases o with
    | none => rw [eρ] at q; exact q.elim
    | some w0 =>
      rw [eρ] at q
      have q : post (bnd (ma ρ) (fun y => bnd (augW w0 y) fun z => ret (.nx (ρ.set i (some z)))) S) (qS X.K ca η H D) := q
      obtain ⟨v, e1, r⟩ := er.2 i w0 eρ
      refine ⟨v, e1, ?_⟩
      refine tE_seq er sr q fun w1 S1 u H1 η1 g1 er1 sr1 r1 q1 => ?_
      rw [post_bnd] at q1
      refine ⟨η1, S1, w0, w1, sr1, r.grow g1, r1, q1.imp fun z S2 q2 v2 H2 η2 g2 sr2 r2 => ?_⟩
      have q2 : qS X.K ca η H D (.nx (ρ.set i (some z))) S2 := q2
      exact q2 H2 η2 (g1.trans g2) sr2 _ (((er1.grow g2)).set r2 i)
end
end MP

/-! Comprehensions of two sources. -/
namespace MP
open PySem L2 PySem.Spec PyProof.Rows
/-- one turn of the outer source -/
def lc2T (p : P) (own : List Nat) (mt : Sl → M Bool) (mi1 : Sl → M (List D)) (p1 : P) (own1 : List Nat) (mt1 : Sl → M Bool) (me : EM) (ρ : Sl) (x : D) : M (List D) := bnd (opt (bindP p (.d x) (wipeW ρ own))) fun ρ' =>
  bnd (mt ρ') fun t => if t = true then bnd (mi1 ρ') fun items1 => lcM (lcT p1 own1 mt1 me ρ') items1 else ret []
def lc2E (mi : Sl → M (List D)) (p : P) (own : List Nat) (mt : Sl → M Bool) (mi1 : Sl → M (List D)) (p1 : P) (own1 : List Nat) (mt1 : Sl → M Bool) (me : EM) : EM := fun ρ => bnd (mi ρ) fun items => bnd (lcM2 (lc2T p own mt mi1 p1 own1 mt1 me ρ) items) sizeOk
section
variable {X : Cx} {ca : Nat → Addr}
theorem post_sizeOk {K : PySem.W.Frag} {η : Zs} {H : Hp} {Q : VK} {ys : List D} {S : Sto} (h : post (sizeOk ys S) (qW K ca η H Q)) : ys.length ≤ SZ ∧ qW K ca η H Q (.d (.list ys)) S := by
  unfold sizeOk at h
  by_cases c : ys.length ≤ SZ
  · rw [if_pos c] at h; exact ⟨c, h⟩
  · rw [if_neg c] at h; exact h.elim
theorem RW.gro {K : PySem.W.Frag} {η η' : Zs} {H H' : Hp} (g : Gro η H η' H') {v : V} {w : W} (h : RW K η H v w) : RW K η' H' v w := by
  cases h with
  | d r => exact .d (Rp.gro g _ _ r)
  | @r i a e =>
    obtain ⟨m, e2⟩ := g.pre
    refine .r ?_
    rw [e2, List.getElem?_append_left (List.getElem?_eq_some_iff.mp e).1]
    exact e
theorem ER.gro {K : PySem.W.Frag} {η η' : Zs} {H H' : Hp} (g : Gro η H η' H') {σ : Sg} {ρ : Sl} (h : ER K η H σ ρ) : ER K η' H' σ ρ := ⟨h.1, fun i w e => let ⟨v, e1, r⟩ := h.2 i w e; ⟨v, e1, r.gro g⟩⟩
theorem Gro.wr {η η' : Zs} {H H' : Hp} {p : Addr} {u : HO} (g : Gro η H η' H') (hp : p ∈ η.t) : Gro η H η' (upd H' p u) := by
  refine ⟨g.pre, fun a o e n => ?_⟩
  have ne : a ≠ p := fun z => n.2 (by rw [z]; exact hp)
  rw [upd_ne ne]
  exact g.keep a o e n
/-- the list at L holds ad; what is left keeps the promise -/
def Made (K : PySem.W.Frag) (ca : Nat → Addr) (η1 : Zs) (H1 : Hp) (L : Addr) (R : List D → Sto → Prop) (H2 : Hp) : Prop :=
  ∃ S2 η2, Grow η1 H1 η2 H2 ∧ L ∈ η2.t ∧ SR K ca η2 H2 S2 ∧ ∃ av ad, H2 L = some (.lst av) ∧ RpAll K η2 H2 av ad ∧ R ad S2
theorem tLc2_of {K : PySem.W.Frag} {mi mi1 : Sl → M (List D)} {p p1 : P} {own own1 : List Nat} {mt mt1 : Sl → M Bool} {me : EM} (hp : ∀ i ∈ p.slots, i ∈ own) (hp1 : ∀ i ∈ p1.slots, i ∈ own1) (ho : ∀ i ∈ own1, i ∈ own) {σ : Sg} {H : Hp} {Q : VK} (q : tE K ca (lc2E mi p own mt mi1 p1 own1 mt1 me) σ H Q) :
    tLc2 (iW K ca mi) (gW K p) (tT K ca mt) (iW K ca mi1) (gW K p1) (tT K ca mt1) (tE K ca me) own own1 σ H Q := by
  obtain ⟨ρ, S, η, er, sr, q⟩ := q
  have q : post (bnd (mi ρ) (fun items => bnd (lcM2 (lc2T p own mt mi1 p1 own1 mt1 me ρ) items) sizeOk) S) (qW K ca η H Q) := q
  rw [post_bnd] at q
  generalize hT : lc2T p own mt mi1 p1 own1 mt1 me ρ = turn at q
  refine ⟨ρ, S, η, er, sr, q.imp fun items S1 q1 J H1 η1 g1 sr1 yl L hL => ?_⟩
  rw [post_bnd] at q1
  have gt := grow_tmp (η := η1) (o := .lst []) hL
  have nt : L ∉ η.t := fun m => by
    obtain ⟨_, u, e⟩ := sr1.tmp L (g1.tk L m)
    rw [hL] at e; cases e
  have gw : ∀ {η6 : Zs} {H6 : Hp} {u : HO}, Grow η1 H1 η6 H6 → Grow η1 H1 η6 (upd H6 L u) := by
    intro η6 H6 u g16
    refine ⟨g16.pre, fun a u e n => ?_, fun a u e n n2 => g16.tm a u e n n2, g16.tk⟩
    have ne : a ≠ L := fun z => by rw [z, hL] at e; cases e
    rw [upd_ne ne]
    exact g16.keep a u e n
  refine ⟨fun i n H2 => i + n = items.length ∧ Made K ca η1 H1 L (fun ad S2 => post (lcM2 turn (items.drop i) S2) (fun ys S3 => post (sizeOk (ad ++ ys) S3) (qW K ca η H Q))) H2,
    ⟨items.length, by omega, S1, η1.tmp L, gt, List.mem_cons_self, sr1.up hL, [], [], upd_same, .nil, q1⟩, fun i n H2 w => ?_⟩
  obtain ⟨hn, S2, η2, g12, mL, sr2, av, ad, eL, ra, q2⟩ := w
  obtain ⟨y1, y2⟩ := yl η2 H2 S2 g12.gro sr2 i
  by_cases hi : i < items.length
  · refine .inr ⟨(y2 hi).1, fun H3 => Made K ca η1 H1 L (fun ad S2 => post (lcM2 turn (items.drop (i + 1)) S2) (fun ys S3 => post (sizeOk (ad ++ ys) S3) (qW K ca η H Q))) H3, fun H3 w => ⟨n - 1, by omega, by omega, w⟩, fun x H3 y => ?_⟩
    obtain ⟨d, ed, g3, sr3, rd⟩ := (y2 hi).2 x H3 y
    have e0 : items.drop i = d :: items.drop (i + 1) := by
      rw [List.drop_eq_getElem_cons hi]
      rw [List.getElem?_eq_getElem hi] at ed
      rw [Option.some.inj ed]
    generalize items.drop (i + 1) = rest at e0 ⊢
    rw [e0] at q2
    unfold lcM2 at q2
    rw [post_bnd] at q2
    have q2 : post (bnd (opt (bindP p (W.d d) (wipeW ρ own))) (fun ρ' => bnd (mt ρ') fun t => if t = true then bnd (mi1 ρ') fun items1 => lcM (lcT p1 own1 mt1 me ρ') items1 else ret []) S2) (fun a S' => post (bnd (lcM2 turn rest) (fun ys => ret (a ++ ys)) S') fun ys S3 => post (sizeOk (ad ++ ys) S3) (qW K ca η H Q)) := by
      have e9 : turn d = bnd (opt (bindP p (W.d d) (wipeW ρ own))) (fun ρ' => bnd (mt ρ') fun t => if t = true then bnd (mi1 ρ') fun items1 => lcM (lcT p1 own1 mt1 me ρ') items1 else ret []) := by rw [← hT]; rfl
      rw [← e9]
      exact q2
    obtain ⟨ρ', eb, q3⟩ := post_opt _ _ _ q2
    have g13 := g12.trans g3
    have erw := ((er.grow g1).grow g13).wipe own
    refine ⟨.d d, wipeW ρ own, ρ', η2, .d rd, erw, eb, fun σ4 er4 hs => ⟨?_, ?_⟩⟩
    · refine wipe_same ?_ fun j hj => hs j fun z => hj (hp j z)
      rw [er4.1, bindP_len eb, wipeW_len, er.1]
    · refine tT_seq er4 sr3 q3 fun b S5 H5 η5 g5 er5 sr5 q5 => ?_
      have gH5 := g12.trans (g3.trans g5)
      have mL5 := (g3.trans g5).tk L mL
      have eL5 : H5 L = some (.lst av) := ((g3.trans g5).keep L _ eL (sr2.tmp L mL).1).1
      have ra5 := RpAll.grow (g3.trans g5) _ _ ra
      cases b with
      | false =>
        simp only [Bool.false_eq_true, if_false] at q5 ⊢
        have q5 : post (bnd (lcM2 turn rest) (fun ys => ret ([] ++ ys)) S5) (fun ys S3 => post (sizeOk (ad ++ ys) S3) (qW K ca η H Q)) := q5
        rw [post_bnd] at q5
        exact ⟨S5, η5, gH5, mL5, sr5, av, ad, eL5, ra5, q5⟩
      | true =>
        simp only [if_true] at q5 ⊢
        have q5 : post (bnd (mi1 ρ') (fun items1 => lcM (lcT p1 own1 mt1 me ρ') items1) S5) (fun y S' => post (bnd (lcM2 turn rest) (fun ys => ret (y ++ ys)) S') (fun ys S3 => post (sizeOk (ad ++ ys) S3) (qW K ca η H Q))) := q5
        rw [post_bnd] at q5
        refine ⟨ρ', S5, η5, er5, sr5, q5.imp fun items1 S6 q6 J1 H6 η6 g6 sr6 yl1 => ?_⟩
        have gH6 := gH5.trans g6
        have mL6 := g6.tk L mL5
        have eL6 : H6 L = some (.lst av) := (g6.keep L _ eL5 (sr5.tmp L mL5).1).1
        -- what is left, when y has been made of this turn
        refine ⟨fun j m H7 => j + m = items1.length ∧ ∃ S7 η7, Gro η6 H6 η7 H7 ∧ Grow η1 H1 η7 H7 ∧ L ∈ η7.t ∧ SR K ca η7 H7 S7 ∧ ∃ av' ad', H7 L = some (.lst av') ∧ RpAll K η7 H7 av' ad' ∧
            post (lcM (lcT p1 own1 mt1 me ρ') (items1.drop j) S7) (fun y S' => post (bnd (lcM2 turn rest) (fun ys => ret (y ++ ys)) S') (fun ys S3 => post (sizeOk (ad' ++ ys) S3) (qW K ca η H Q))),
          ⟨items1.length, by omega, S6, η6, (Grow.refl _ _).gro, gH6, mL6, sr6, av, ad, eL6, RpAll.grow g6 _ _ ra5, q6⟩, fun j m H7 w => ?_⟩
        obtain ⟨hm, S7, η7, g67, g17, mL7, sr7, av', ad', eL7, ra7, q7⟩ := w
        obtain ⟨z1, z2⟩ := yl1 η7 H7 S7 g67 sr7 j
        by_cases hj : j < items1.length
        · refine .inr ⟨(z2 hj).1, fun H8 => ∃ S8 η8, Gro η6 H6 η8 H8 ∧ Grow η1 H1 η8 H8 ∧ L ∈ η8.t ∧ SR K ca η8 H8 S8 ∧ ∃ av' ad', H8 L = some (.lst av') ∧ RpAll K η8 H8 av' ad' ∧
            post (lcM (lcT p1 own1 mt1 me ρ') (items1.drop (j + 1)) S8) (fun y S' => post (bnd (lcM2 turn rest) (fun ys => ret (y ++ ys)) S') (fun ys S3 => post (sizeOk (ad' ++ ys) S3) (qW K ca η H Q))), fun H8 w => ⟨m - 1, by omega, by omega, w⟩, fun x8 H8 y8 => ?_⟩
          obtain ⟨d1, ed1, g8, sr8, rd1⟩ := (z2 hj).2 x8 H8 y8
          have e1 : items1.drop j = d1 :: items1.drop (j + 1) := by
            rw [List.drop_eq_getElem_cons hj]
            rw [List.getElem?_eq_getElem hj] at ed1
            rw [Option.some.inj ed1]
          rw [e1] at q7
          generalize items1.drop (j + 1) = rest1 at q7 ⊢
          unfold lcM at q7
          rw [post_bnd] at q7
          unfold lcT at q7
          obtain ⟨ρ2, eb1, q8⟩ := post_opt _ _ _ q7
          have g68 := g67.trans g8.gro
          have g18 := g17.trans g8
          have er8 : ER K η7 H8 σ4 ρ' := (er5.grow g6).gro g68
          refine ⟨.d d1, wipeW ρ' own1, ρ2, η7, .d rd1, er8.wipe own1, eb1, fun σ9 er9 hs9 => ⟨?_, ?_⟩⟩
          · refine wipe_same ?_ fun k hk => hs9 k fun z => hk (hp1 k z)
            rw [er9.1, bindP_len eb1, wipeW_len, er8.1]
          · refine tT_seq er9 sr8 q8 fun b9 S9 H9 η9 g9 er9 sr9 q9 => ?_
            have g69 := g68.trans g9.gro
            have g19 := g18.trans g9
            have mL8 : L ∈ η7.t := mL7
            have eL8 : H8 L = some (.lst av') := (g8.keep L _ eL7 (sr7.tmp L mL7).1).1
            have mL9 := g9.tk L mL8
            have eL9 : H9 L = some (.lst av') := (g9.keep L _ eL8 (sr8.tmp L mL8).1).1
            have ra9 := RpAll.grow (g8.trans g9) _ _ ra7
            cases b9 with
            | false =>
              simp only [Bool.false_eq_true, if_false] at q9 ⊢
              have q9 : post (bnd (lcM (lcT p1 own1 mt1 me ρ') rest1) (fun ys => ret ys) S9) (fun y S' => post (bnd (lcM2 turn rest) (fun ys => ret (y ++ ys)) S') (fun ys S3 => post (sizeOk (ad' ++ ys) S3) (qW K ca η H Q))) := q9
              rw [post_bnd] at q9
              exact ⟨S9, η9, g69, g19, mL9, sr9, av', ad', eL9, ra9, q9⟩
            | true =>
              simp only [if_true] at q9 ⊢
              refine tE_seq er9 sr9 q9 fun w S10 v H10 η10 g10 er10 sr10 r10 q10 => ?_
              cases r10 with
              | r _ => exact q10.elim
              | @d _ z r10 =>
                have q10 : post (bnd (lcM (lcT p1 own1 mt1 me ρ') rest1) (fun ys => ret (z :: ys)) S10) (fun y S' => post (bnd (lcM2 turn rest) (fun ys => ret (y ++ ys)) S') (fun ys S3 => post (sizeOk (ad' ++ ys) S3) (qW K ca η H Q))) := q10
                rw [post_bnd] at q10
                have mL10 := g10.tk L mL9
                have eL10 : H10 L = some (.lst av') := (g10.keep L _ eL9 (sr9.tmp L mL9).1).1
                have ra10 := RpAll.grow g10 _ _ ra9
                have hz : ad'.length < SZ := by
                  obtain ⟨ys, S11, _, q11⟩ := post_ok q10
                  have q11 : post (bnd (lcM2 turn rest) (fun ys' => ret ((z :: ys) ++ ys')) S11) (fun ys S3 => post (sizeOk (ad' ++ ys) S3) (qW K ca η H Q)) := q11
                  rw [post_bnd] at q11
                  obtain ⟨ys', S12, _, q12⟩ := post_ok q11
                  have q12 : post (sizeOk (ad' ++ ((z :: ys) ++ ys')) S12) (qW K ca η H Q) := q12
                  have := (post_sizeOk q12).1
                  rw [List.length_append, List.length_append, List.length_cons] at this
                  omega
                refine ⟨av', eL10, szl' (by rw [ra10.length]; exact hz), S10, η10, (g69.trans g10.gro).wr mL6, gw (g19.trans g10), mL10, sr10.wr mL10, av' ++ [v], ad' ++ [z], upd_same, (RpAll.wr mL10 _ _ ra10).append (.cons (Rp.wr mL10 _ _ r10) .nil), q10.imp fun ys S11 q11 => ?_⟩
                have q11 : post (bnd (lcM2 turn rest) (fun ys' => ret ((z :: ys) ++ ys')) S11) (fun ys S3 => post (sizeOk (ad' ++ ys) S3) (qW K ca η H Q)) := q11
                rw [post_bnd] at q11 ⊢
                refine q11.imp fun ys' S12 q12 => ?_
                have q12 : post (sizeOk (ad' ++ ((z :: ys) ++ ys')) S12) (qW K ca η H Q) := q12
                show post (sizeOk (ad' ++ [z] ++ (ys ++ ys')) S12) (qW K ca η H Q)
                have ee : ad' ++ [z] ++ (ys ++ ys') = ad' ++ ((z :: ys) ++ ys') := by simp
                rw [ee]
                exact q12
        · rw [List.drop_of_length_le (by omega)] at q7
          have q7 : post (bnd (lcM2 turn rest) (fun ys => ret ([] ++ ys)) S7) (fun ys S3 => post (sizeOk (ad' ++ ys) S3) (qW K ca η H Q)) := q7
          rw [post_bnd] at q7
          exact .inl ⟨z1 (by omega), S7, η7, g17, mL7, sr7, av', ad', eL7, ra7, q7⟩
  · rw [List.drop_of_length_le (by omega)] at q2
    have q2 : post (sizeOk (ad ++ []) S2) (qW K ca η H Q) := q2
    rw [List.append_nil] at q2
    obtain ⟨_, q2⟩ := post_sizeOk q2
    refine .inl ⟨y1 (by omega), q2 (.ref L) H2 (η2.drp L) (grow_drp (g1.trans g12) nt) sr2.drp (.d (.lst (.inl ⟨.inl eL, (sr2.tmp L mL).1, fun m => ?_⟩) (RpAll.drp _ _ ra)))⟩
    have := (List.mem_filter.mp m).2
    simp at this
theorem r_lc2 (ck : Ck X) {elt tg iter tg1 iter1 : Expr} {ifs ifs1 : List Expr} {scope : Scope} (own : List (Str × Nat)) {pos : Pos} {p p1 : P} {mi mi1 : Sl → M (List D)} {mt mt1 : Sl → M Bool} {me : EM} {vs : List Nat} (own1 : List Nat) (hi : PI X tg iter (iW X.K ca mi))
    (hg : ∀ (s : Shared) (H : Hp) (C : Addr) (cl : List (Str × Addr)) (fp : List Addr), PG (X.blk s H scope (compEnvC scope cl C X.env) fp) tg (gW X.K p)) (ht : ∀ (s : Shared) (H : Hp) (C : Addr) (cl : List (Str × Addr)) (fp : List Addr), PTs (X.blk s H scope (compEnvC scope cl C X.env) fp) ifs (tT X.K ca mt))
    (hi1 : ∀ (s : Shared) (H : Hp) (C : Addr) (cl : List (Str × Addr)) (fp : List Addr), PI (X.blk s H scope (compEnvC scope cl C X.env) fp) tg1 iter1 (iW X.K ca mi1))
    (hg1 : ∀ (s : Shared) (H : Hp) (C : Addr) (cl : List (Str × Addr)) (fp : List Addr), PG (X.blk s H scope (compEnvC scope cl C X.env) fp) tg1 (gW X.K p1)) (ht1 : ∀ (s : Shared) (H : Hp) (C : Addr) (cl : List (Str × Addr)) (fp : List Addr), PTs (X.blk s H scope (compEnvC scope cl C X.env) fp) ifs1 (tT X.K ca mt1))
    (he : ∀ (s : Shared) (H : Hp) (C : Addr) (cl : List (Str × Addr)) (fp : List Addr), PE (X.blk s H scope (compEnvC scope cl C X.env) fp) elt (tE X.K ca me)) (hv : own.map (·.2) = vs := by rfl) (ok : blkC X.N X.env.scope scope own = true := by first | decide +kernel | (dsimp only [cxF, Cx.nox, Cx.wish, cxOf, envOfC]; decide +kernel) | rfl)
    (hp : ∀ i ∈ p.slots, i ∈ vs := by decide) (hp1 : ∀ i ∈ p1.slots, i ∈ own1 := by decide) (ho : ∀ i ∈ own1, i ∈ vs := by decide) (hs : ∀ x, foldedSetIterable iter X.env x = pure x := by exact fun _ => rfl) (hs1 : ∀ env x, foldedSetIterable iter1 env x = pure x := by exact fun _ _ => rfl) :
    PE X (.ListComp elt [⟨tg, iter, ifs, 0⟩, ⟨tg1, iter1, ifs1, 0⟩] scope pos) (tE X.K ca (lc2E mi p vs mt mi1 p1 own1 mt1 me)) := by
  subst hv
  exact PE.of (pe_lc2 ck.calm ck.nd hi (blkOk_by ok) (vs1 := own1) ho hg ht hi1 hg1 ht1 he hs hs1) fun _ _ _ q => tLc2_of hp hp1 ho q
end
end MP

namespace MP.Q0
open PySem L2 PySem.Spec PyProof.Rows
@[irreducible] def post {α : Type} (r : Option (Out α)) (q : α → Sto → Prop) : Prop := MP.post r q
theorem post_def {α : Type} : @post α = @MP.post α := by unfold post; rfl
theorem post.imp {α : Type} {r : Option (Out α)} {q q' : α → Sto → Prop} (h : post r q) (k : ∀ a S, q a S → q' a S) : post r q' := by
  simp only [post_def] at *
  exact MP.post.imp h k
theorem post_ok {α : Type} {r : Option (Out α)} {q : α → Sto → Prop} (h : post r q) : ∃ a S, r = some (.ok a S) ∧ q a S := by
  simp only [post_def] at *
  exact MP.post_ok h
theorem of_post {α : Type} {r : Option (Out α)} {q : α → Sto → Prop} (h : MP.post r q) : post r q := by
  simp only [post_def]
  exact h
theorem post_bnd {α β : Type} (x : M α) (f : α → M β) (S : Sto) (q : β → Sto → Prop) : post (bnd x f S) q = post (x S) (fun a S' => post (f a S') q) := by
  simp only [post_def]
  exact MP.post_bnd x f S q
theorem post_ret {α : Type} (a : α) (S : Sto) (q : α → Sto → Prop) : post (ret a S) q = q a S := by
  simp only [post_def]
  exact MP.post_ret a S q
theorem post_bad {α : Type} (S : Sto) (q : α → Sto → Prop) : post (bad S) q = False := by
  simp only [post_def]
  exact MP.post_bad S q
section
variable {S : Sto} {ρ : Sl} {q : W → Sto → Prop}
theorem post_some {α : Type} (a : α) (q : α → Sto → Prop) : post (some (Out.ok a S)) q = q a S := by
  first
    | (simp only [post_def]; exact MP.post_some a q)
    | (simp only [post_def] at *; exact MP.post_some a q)
theorem post_fn {np nsl : Nat} {body : SM} {ws : List W} (h : ws.length = np)
    (k : post (body (ws.map some ++ List.replicate (nsl - np) none) S) (fun f S' => match f with
      | .nx _ => q (.d .none) (leave S.length (.d .none) S')
      | .rt w => q w (leave S.length w S')
      | _ => False)) : post (fnB np nsl body ws S) q := by
  first
    | (simp only [post_def]; exact MP.post_fn h k)
    | (simp only [post_def] at *; exact MP.post_fn h k)
theorem sq_ap (a b : SM) (q : Fl → Sto → Prop) : post (sq a b ρ S) q = post (a ρ S) (fun f S' => match f with
    | .nx ρ' => post (b ρ' S') q
    | .rt w => q (.rt w) S'
    | .bk r => q (.bk r) S'
    | .ct r => q (.ct r) S') := by
  first
    | (simp only [post_def]; exact MP.sq_ap a b q)
    | (simp only [post_def] at *; exact MP.sq_ap a b q)
theorem a_k (d : D) : post (kM d ρ S) q = q (.d d) S := by
  first
    | (simp only [post_def]; exact MP.a_k d)
    | (simp only [post_def] at *; exact MP.a_k d)
theorem a_v (i : Nat) : post (vM i ρ S) q = post (getV ρ i S) q := by
  first
    | (simp only [post_def]; exact MP.a_v i)
    | (simp only [post_def] at *; exact MP.a_v i)
theorem a_bin (o : B2) (a b : EM) : post (binM o a b ρ S) q = post (a ρ S) fun x S1 => post (b ρ S1) fun y S2 => post (binW o x y S2) q := by
  first
    | (simp only [post_def]; exact MP.a_bin o a b)
    | (simp only [post_def] at *; exact MP.a_bin o a b)
theorem a_cmp (o : C2) (a b : EM) : post (cmpM o a b ρ S) q = post (a ρ S) fun x S1 => post (b ρ S1) fun y S2 => post (cmpW o x y S2) fun t S3 => q (.d (.bool t)) S3 := by
  first
    | (simp only [post_def]; exact MP.a_cmp o a b)
    | (simp only [post_def] at *; exact MP.a_cmp o a b)
theorem a_ch (o1 o2 : C2) (a b c : EM) : post (chM o1 o2 a b c ρ S) q = post (a ρ S) fun x S1 => post (b ρ S1) fun y S2 => post (cmpW o1 x y S2) fun t S3 => if t = true then post (c ρ S3) fun z S4 => post (cmpW o2 y z S4) fun t S5 => q (.d (.bool t)) S5 else q (.d (.bool false)) S3 := by
  first
    | (simp only [post_def]; exact MP.a_ch o1 o2 a b c)
    | (simp only [post_def] at *; exact MP.a_ch o1 o2 a b c)
theorem a_neg (a : EM) : post (negM a ρ S) q = post (a ρ S) fun x S1 => post (negW x S1) q := by
  first
    | (simp only [post_def]; exact MP.a_neg a)
    | (simp only [post_def] at *; exact MP.a_neg a)
theorem a_not (a : EM) : post (notM a ρ S) q = post (a ρ S) fun x S1 => post (truW x S1) fun t S2 => q (.d (.bool (!t))) S2 := by
  first
    | (simp only [post_def]; exact MP.a_not a)
    | (simp only [post_def] at *; exact MP.a_not a)
theorem post_ite {α : Type} (t : Bool) (a b : M α) (S : Sto) (q : α → Sto → Prop) : post ((if t = true then a else b) S) q = if t = true then post (a S) q else post (b S) q := by
  first
    | (simp only [post_def]; exact MP.post_ite t a b S q)
    | (simp only [post_def] at *; exact MP.post_ite t a b S q)
theorem a_and (a b : EM) : post (andM a b ρ S) q = post (a ρ S) fun x S1 => post (truW x S1) fun t S2 => if t = true then post (b ρ S2) q else q x S2 := by
  first
    | (simp only [post_def]; exact MP.a_and a b)
    | (simp only [post_def] at *; exact MP.a_and a b)
theorem a_or (a b : EM) : post (orM a b ρ S) q = post (a ρ S) fun x S1 => post (truW x S1) fun t S2 => if t = true then q x S2 else post (b ρ S2) q := by
  first
    | (simp only [post_def]; exact MP.a_or a b)
    | (simp only [post_def] at *; exact MP.a_or a b)
theorem a_ite (c a b : EM) : post (iteM c a b ρ S) q = post (c ρ S) fun x S1 => post (truW x S1) fun t S2 => if t = true then post (a ρ S2) q else post (b ρ S2) q := by
  first
    | (simp only [post_def]; exact MP.a_ite c a b)
    | (simp only [post_def] at *; exact MP.a_ite c a b)
theorem a_sub (a b : EM) : post (subM a b ρ S) q = post (a ρ S) fun x S1 => post (b ρ S1) fun y S2 => post (subW x y S2) q := by
  first
    | (simp only [post_def]; exact MP.a_sub a b)
    | (simp only [post_def] at *; exact MP.a_sub a b)
theorem a_slc (a : EM) (lo hi : Sl → M (Option W)) : post (slcM a lo hi ρ S) q = post (a ρ S) fun x S1 => post (lo ρ S1) fun l S2 => post (hi ρ S2) fun h S3 => match asOI l, asOI h with
    | some l, some h => post (slcW x l h S3) q
    | _, _ => False := by
  first
    | (simp only [post_def]; exact MP.a_slc a lo hi)
    | (simp only [post_def] at *; exact MP.a_slc a lo hi)
theorem a_no (q : Option W → Sto → Prop) : post (noM ρ S) q = q none S := by
  first
    | (simp only [post_def]; exact MP.a_no q)
    | (simp only [post_def] at *; exact MP.a_no q)
theorem a_so (a : EM) (q : Option W → Sto → Prop) : post (soM a ρ S) q = post (a ρ S) fun w S1 => q (some w) S1 := by
  first
    | (simp only [post_def]; exact MP.a_so a q)
    | (simp only [post_def] at *; exact MP.a_so a q)
theorem a_nil' (q : List W → Sto → Prop) : post (nilM ρ S) q = q [] S := by
  first
    | (simp only [post_def]; exact MP.a_nil' q)
    | (simp only [post_def] at *; exact MP.a_nil' q)
theorem a_cons' (a : EM) (r : AM) (q : List W → Sto → Prop) : post (consM a r ρ S) q = post (a ρ S) fun w S1 => post (r ρ S1) fun ws S2 => q (w :: ws) S2 := by
  first
    | (simp only [post_def]; exact MP.a_cons' a r q)
    | (simp only [post_def] at *; exact MP.a_cons' a r q)
theorem a_tup (ms : AM) : post (tupM ms ρ S) q = post (ms ρ S) fun ws S1 => ∃ xs, dataOf ws = some xs ∧ xs.length ≤ SZ ∧ q (.d (.tuple xs)) S1 := by
  first
    | (simp only [post_def]; exact MP.a_tup ms)
    | (simp only [post_def] at *; exact MP.a_tup ms)
theorem a_lst (ms : AM) : post (lstM ms ρ S) q = post (ms ρ S) fun ws S1 => ∃ xs, dataOf ws = some xs ∧ xs.length ≤ SZ ∧ q (.d (.list xs)) S1 := by
  first
    | (simp only [post_def]; exact MP.a_lst ms)
    | (simp only [post_def] at *; exact MP.a_lst ms)
theorem a_nl (ms : AM) : post (nlM ms ρ S) q = post (ms ρ S) fun ws S1 => ws.length ≤ SZ ∧ q (.r S1.length) (S1 ++ [.lst ws]) := by
  first
    | (simp only [post_def]; exact MP.a_nl ms)
    | (simp only [post_def] at *; exact MP.a_nl ms)
theorem a_ndk : post (ndkM ρ S) q = q (.r S.length) (S ++ [.dk []]) := by
  first
    | (simp only [post_def]; exact MP.a_ndk )
    | (simp only [post_def] at *; exact MP.a_ndk )
theorem a_call (m : List W → M W) (ms : AM) : post (callM m ms ρ S) q = post (ms ρ S) fun ws S1 => post (m ws S1) q := by
  first
    | (simp only [post_def]; exact MP.a_call m ms)
    | (simp only [post_def] at *; exact MP.a_call m ms)
theorem a_bi (f : B1) (ms : AM) : post (biM f ms ρ S) q = post (ms ρ S) fun ws S1 => post (b1W f ws S1) q := by
  first
    | (simp only [post_def]; exact MP.a_bi f ms)
    | (simp only [post_def] at *; exact MP.a_bi f ms)
theorem a_isi (T : String) (a : EM) : post (isiM T a ρ S) q = post (a ρ S) fun w S1 => post (b1W (.isI T) [w] S1) q := by
  first
    | (simp only [post_def]; exact MP.a_isi T a)
    | (simp only [post_def] at *; exact MP.a_isi T a)
theorem a_app (o a : EM) : post (appM o a ρ S) q = post (o ρ S) fun x S1 => post (rcv .append x S1) fun _ S2 => post (a ρ S2) fun w S3 => post (meW .append x [w] S3) q := by
  first
    | (simp only [post_def]; exact MP.a_app o a)
    | (simp only [post_def] at *; exact MP.a_app o a)
theorem a_sd (o a b : EM) : post (sdM o a b ρ S) q = post (o ρ S) fun x S1 => post (rcv .setdefault x S1) fun _ S2 => post (a ρ S2) fun y S3 => post (b ρ S3) fun z S4 => post (meW .setdefault x [y, z] S4) q := by
  first
    | (simp only [post_def]; exact MP.a_sd o a b)
    | (simp only [post_def] at *; exact MP.a_sd o a b)
theorem a_tst (m : EM) (q : Bool → Sto → Prop) : post (tst m ρ S) q = post (m ρ S) fun w S1 => post (truW w S1) q := by
  first
    | (simp only [post_def]; exact MP.a_tst m q)
    | (simp only [post_def] at *; exact MP.a_tst m q)
variable {Q : Fl → Sto → Prop}
theorem a_sk : post (skM ρ S) Q = Q (.nx ρ) S := by
  first
    | (simp only [post_def]; exact MP.a_sk )
    | (simp only [post_def] at *; exact MP.a_sk )
theorem a_brk : post (brkM ρ S) Q = Q (.bk ρ) S := by
  first
    | (simp only [post_def]; exact MP.a_brk )
    | (simp only [post_def] at *; exact MP.a_brk )
theorem a_cnt : post (cntM ρ S) Q = Q (.ct ρ) S := by
  first
    | (simp only [post_def]; exact MP.a_cnt )
    | (simp only [post_def] at *; exact MP.a_cnt )
theorem a_bad : post (badM ρ S) Q = False := by
  first
    | (simp only [post_def]; exact MP.a_bad )
    | (simp only [post_def] at *; exact MP.a_bad )
theorem a_ex (a : EM) : post (exM a ρ S) Q = post (a ρ S) fun _ S1 => Q (.nx ρ) S1 := by
  first
    | (simp only [post_def]; exact MP.a_ex a)
    | (simp only [post_def] at *; exact MP.a_ex a)
theorem a_ret (a : EM) : post (retM a ρ S) Q = post (a ρ S) fun w S1 => Q (.rt w) S1 := by
  first
    | (simp only [post_def]; exact MP.a_ret a)
    | (simp only [post_def] at *; exact MP.a_ret a)
theorem a_retN : post (retN ρ S) Q = Q (.rt (.d .none)) S := by
  first
    | (simp only [post_def]; exact MP.a_retN )
    | (simp only [post_def] at *; exact MP.a_retN )
theorem a_if (c : EM) (a b : SM) : post (ifM c a b ρ S) Q = post (c ρ S) fun w S1 => post (truW w S1) fun t S2 => if t = true then post (a ρ S2) Q else post (b ρ S2) Q := by
  first
    | (simp only [post_def]; exact MP.a_if c a b)
    | (simp only [post_def] at *; exact MP.a_if c a b)
theorem a_asg (i : Nat) (a : EM) : post (asgM (.nm i) a ρ S) Q = post (a ρ S) fun w S1 => Q (.nx (ρ.set i (some w))) S1 := by
  first
    | (simp only [post_def]; exact MP.a_asg i a)
    | (simp only [post_def] at *; exact MP.a_asg i a)
theorem a_asgT (is : List Nat) (a : EM) : post (asgM (.tup is) a ρ S) Q = post (a ρ S) fun w S1 => ∃ ρ', bindP (.tup is) w ρ = some ρ' ∧ Q (.nx ρ') S1 := by
  first
    | (simp only [post_def]; exact MP.a_asgT is a)
    | (simp only [post_def] at *; exact MP.a_asgT is a)
theorem a_par2 (i j : Nat) (a b : EM) : post (par2M i j (consM a (consM b nilM)) ρ S) Q = post (a ρ S) fun x S1 => post (b ρ S1) fun y S2 => Q (.nx ((ρ.set i (some x)).set j (some y))) S2 := by
  first
    | (simp only [post_def]; exact MP.a_par2 i j a b)
    | (simp only [post_def] at *; exact MP.a_par2 i j a b)
theorem a_par3 (i j l : Nat) (a b c : EM) : post (par3M i j l (consM a (consM b (consM c nilM))) ρ S) Q = post (a ρ S) fun x S1 => post (b ρ S1) fun y S2 => post (c ρ S2) fun z S3 => Q (.nx (((ρ.set i (some x)).set j (some y)).set l (some z))) S3 := by
  first
    | (simp only [post_def]; exact MP.a_par3 i j l a b c)
    | (simp only [post_def] at *; exact MP.a_par3 i j l a b c)
theorem a_set (o i e : EM) : post (setM o i e ρ S) Q = post (e ρ S) fun w S1 => post (o ρ S1) fun x S2 => post (i ρ S2) fun y S3 => post (setW x y w S3) fun _ S4 => Q (.nx ρ) S4 := by
  first
    | (simp only [post_def]; exact MP.a_set o i e)
    | (simp only [post_def] at *; exact MP.a_set o i e)
theorem a_for (p : P) (mi : Sl → M (List D)) (b : SM) : post (foM p mi b ρ S) Q = post (mi ρ S) fun items S1 => post (forM p b items ρ S1) Q := by
  first
    | (simp only [post_def]; exact MP.a_for p mi b)
    | (simp only [post_def] at *; exact MP.a_for p mi b)
theorem for_nil (p : P) (b : SM) : post (forM p b [] ρ S) Q = Q (.nx ρ) S := by
  first
    | (simp only [post_def]; exact MP.for_nil p b)
    | (simp only [post_def] at *; exact MP.for_nil p b)
theorem for_cons (p : P) (b : SM) (x : D) (r : List D) : post (forM p b (x :: r) ρ S) Q = ∃ ρ', bindP p (.d x) ρ = some ρ' ∧ post (b ρ' S) (fun f S1 => match f with
    | .nx ρ2 => post (forM p b r ρ2 S1) Q
    | .ct ρ2 => post (forM p b r ρ2 S1) Q
    | .bk ρ2 => Q (.nx ρ2) S1
    | .rt w => Q (.rt w) S1) := by
  first
    | (simp only [post_def]; exact MP.for_cons p b x r)
    | (simp only [post_def] at *; exact MP.for_cons p b x r)
theorem for_inv {p : P} {b : SM} {Q : Fl → Sto → Prop} (I : Nat → Sl → Sto → Prop) : ∀ (items : List D) (n : Nat), (∀ (i : Nat) (x : D) ρ S, items[i]? = some x → I (n + i) ρ S → ∃ ρ', bindP p (.d x) ρ = some ρ' ∧ post (b ρ' S) (fun f S1 => match f with
    | .nx ρ2 => I (n + i + 1) ρ2 S1
    | .ct ρ2 => I (n + i + 1) ρ2 S1
    | .bk ρ2 => False
    | .rt w => False)) → (∀ ρ S, I (n + items.length) ρ S → Q (.nx ρ) S) → ∀ ρ S, I n ρ S → post (forM p b items ρ S) Q := by
  first
    | (simp only [post_def]; exact MP.for_inv I)
    | (simp only [post_def] at *; exact MP.for_inv I)
theorem a_seq (a : EM) (q : List D → Sto → Prop) : post (seqI a ρ S) q = post (a ρ S) fun w S1 => ∃ xs, itemsOf .seq [w] = some xs ∧ q xs S1 := by
  first
    | (simp only [post_def]; exact MP.a_seq a q)
    | (simp only [post_def] at *; exact MP.a_seq a q)
theorem a_enum (ms : AM) (q : List D → Sto → Prop) : post (enumI ms ρ S) q = post (ms ρ S) fun w S1 => ∃ xs, itemsOf .enum w = some xs ∧ q xs S1 := by
  first
    | (simp only [post_def]; exact MP.a_enum ms q)
    | (simp only [post_def] at *; exact MP.a_enum ms q)
theorem a_rng1 (a : EM) (q : List D → Sto → Prop) : post (rng1I (consM a nilM) ρ S) q = post (a ρ S) fun w S1 => ∃ xs, itemsOf .rng [w] = some xs ∧ q xs S1 := by
  first
    | (simp only [post_def]; exact MP.a_rng1 a q)
    | (simp only [post_def] at *; exact MP.a_rng1 a q)
theorem a_rng2 (a b : EM) (q : List D → Sto → Prop) : post (rng2I (consM a (consM b nilM)) ρ S) q = post (a ρ S) fun w S1 => post (b ρ S1) fun u S2 => ∃ xs, itemsOf .rng [w, u] = some xs ∧ q xs S2 := by
  first
    | (simp only [post_def]; exact MP.a_rng2 a b q)
    | (simp only [post_def] at *; exact MP.a_rng2 a b q)
theorem a_lc (mi : Sl → M (List D)) (p : P) (own : List Nat) (mt : Sl → M Bool) (me : EM) : post (lcE mi p own mt me ρ S) q = post (mi ρ S) fun items S1 => post (lcM (lcT p own mt me ρ) items S1) fun ys S2 => ys.length ≤ SZ ∧ q (.d (.list ys)) S2 := by
  first
    | (simp only [post_def]; exact MP.a_lc mi p own mt me)
    | (simp only [post_def] at *; exact MP.a_lc mi p own mt me)
theorem lc_inv {turn : D → M (Option D)} {q : List D → Sto → Prop} (I : List D → Sto → Prop) (R : Nat → D → Prop) : ∀ (items : List D) (n : Nat) (acc : List D), (∀ (i : Nat) (x : D) acc S, items[i]? = some x → I acc S → acc.length = n + i → post (turn x S) (fun y S1 => ∃ z, y = some z ∧ I (acc ++ [z]) S1)) → acc.length = n →
    (∀ acc S, I acc S → acc.length = n + items.length → q acc S) → ∀ S, I acc S → post (lcM turn items S) (fun ys S1 => q (acc ++ ys) S1) := by
  first
    | (simp only [post_def]; exact MP.lc_inv I R)
    | (simp only [post_def] at *; exact MP.lc_inv I R)
theorem v_add (i j : Int) : post (binW .add (.d (.int i)) (.d (.int j)) S) q = q (.d (.int (i + j))) S := by
  first
    | (simp only [post_def]; exact MP.v_add i j)
    | (simp only [post_def] at *; exact MP.v_add i j)
theorem v_sub (i j : Int) : post (binW .sub (.d (.int i)) (.d (.int j)) S) q = q (.d (.int (i - j))) S := by
  first
    | (simp only [post_def]; exact MP.v_sub i j)
    | (simp only [post_def] at *; exact MP.v_sub i j)
theorem v_band (i j : Int) : post (binW .band (.d (.int i)) (.d (.int j)) S) q = q (.d (.int (Builtin.bitAnd i j))) S := by
  first
    | (simp only [post_def]; exact MP.v_band i j)
    | (simp only [post_def] at *; exact MP.v_band i j)
theorem bin_pos {o : B2} {x y z : D} (h : binD o x y = some z) : post (binW o (.d x) (.d y) S) q = q (.d z) S := by
  first
    | (simp only [post_def]; exact MP.bin_pos h)
    | (simp only [post_def] at *; exact MP.bin_pos h)
theorem v_mul {i j : Int} (h : (-(2 ^ 64) < i ∧ i < 2 ^ 64) ∨ (-(2 ^ 64) < j ∧ j < 2 ^ 64)) : post (binW .mul (.d (.int i)) (.d (.int j)) S) q = q (.d (.int (i * j))) S := by
  first
    | (simp only [post_def]; exact MP.v_mul h)
    | (simp only [post_def] at *; exact MP.v_mul h)
theorem v_fdiv {i j : Int} (h : 0 < j ∧ j < 18446744073709551616) : post (binW .fdiv (.d (.int i)) (.d (.int j)) S) q = q (.d (.int (i / j))) S := by
  first
    | (simp only [post_def]; exact MP.v_fdiv h)
    | (simp only [post_def] at *; exact MP.v_fdiv h)
theorem v_mod {i j : Int} (h : 0 < j) : post (binW .mod (.d (.int i)) (.d (.int j)) S) q = q (.d (.int (i % j))) S := by
  first
    | (simp only [post_def]; exact MP.v_mod h)
    | (simp only [post_def] at *; exact MP.v_mod h)
theorem v_pow {i j : Int} (h : 0 ≤ j ∧ j ≤ 1000000 ∧ i.natAbs < 2 ^ 64) : post (binW .pow (.d (.int i)) (.d (.int j)) S) q = q (.d (.int (i ^ j.toNat))) S := by
  first
    | (simp only [post_def]; exact MP.v_pow h)
    | (simp only [post_def] at *; exact MP.v_pow h)
theorem v_cat {xs ys : List D} (h : xs.length + ys.length ≤ SZ) : post (binW .add (.d (.tuple xs)) (.d (.tuple ys)) S) q = q (.d (.tuple (xs ++ ys))) S := by
  first
    | (simp only [post_def]; exact MP.v_cat h)
    | (simp only [post_def] at *; exact MP.v_cat h)
theorem v_catL {xs ys : List D} (h : xs.length + ys.length ≤ SZ) : post (binW .add (.d (.list xs)) (.d (.list ys)) S) q = q (.d (.list (xs ++ ys))) S := by
  first
    | (simp only [post_def]; exact MP.v_catL h)
    | (simp only [post_def] at *; exact MP.v_catL h)
theorem v_rep {xs : List D} {k : Int} (h : xs ≠ [] ∧ 2 ≤ k ∧ (xs.length : Int) * k ≤ 1000000) : post (binW .mul (.d (.tuple xs)) (.d (.int k)) S) q = q (.d (.tuple (List.replicate k.toNat xs).flatten)) S := by
  first
    | (simp only [post_def]; exact MP.v_rep h)
    | (simp only [post_def] at *; exact MP.v_rep h)
theorem v_neg (i : Int) : post (negW (.d (.int i)) S) q = q (.d (.int (-i))) S := by
  first
    | (simp only [post_def]; exact MP.v_neg i)
    | (simp only [post_def] at *; exact MP.v_neg i)
section
variable {qb : Bool → Sto → Prop}
theorem v_trB (b : Bool) : post (truW (.d (.bool b)) S) qb = qb b S := by
  first
    | (simp only [post_def]; exact MP.v_trB b)
    | (simp only [post_def] at *; exact MP.v_trB b)
theorem v_trI (i : Int) : post (truW (.d (.int i)) S) qb = qb (i != 0) S := by
  first
    | (simp only [post_def]; exact MP.v_trI i)
    | (simp only [post_def] at *; exact MP.v_trI i)
theorem v_trN : post (truW (.d .none) S) qb = qb false S := by
  first
    | (simp only [post_def]; exact MP.v_trN )
    | (simp only [post_def] at *; exact MP.v_trN )
theorem v_lt (i j : Int) : post (cmpW .lt (.d (.int i)) (.d (.int j)) S) qb = qb (decide (i < j)) S := by
  first
    | (simp only [post_def]; exact MP.v_lt i j)
    | (simp only [post_def] at *; exact MP.v_lt i j)
theorem v_le (i j : Int) : post (cmpW .le (.d (.int i)) (.d (.int j)) S) qb = qb (decide (i ≤ j)) S := by
  first
    | (simp only [post_def]; exact MP.v_le i j)
    | (simp only [post_def] at *; exact MP.v_le i j)
theorem v_gt (i j : Int) : post (cmpW .gt (.d (.int i)) (.d (.int j)) S) qb = qb (decide (j < i)) S := by
  first
    | (simp only [post_def]; exact MP.v_gt i j)
    | (simp only [post_def] at *; exact MP.v_gt i j)
theorem v_ge (i j : Int) : post (cmpW .ge (.d (.int i)) (.d (.int j)) S) qb = qb (decide (j ≤ i)) S := by
  first
    | (simp only [post_def]; exact MP.v_ge i j)
    | (simp only [post_def] at *; exact MP.v_ge i j)
theorem v_eqI (i j : Int) : post (cmpW .eq (.d (.int i)) (.d (.int j)) S) qb = qb (i == j) S := by
  first
    | (simp only [post_def]; exact MP.v_eqI i j)
    | (simp only [post_def] at *; exact MP.v_eqI i j)
theorem v_neI (i j : Int) : post (cmpW .ne (.d (.int i)) (.d (.int j)) S) qb = qb (!(i == j)) S := by
  first
    | (simp only [post_def]; exact MP.v_neI i j)
    | (simp only [post_def] at *; exact MP.v_neI i j)
theorem v_eqS (x y : Str) : post (cmpW .eq (.d (.str x)) (.d (.str y)) S) qb = qb (x == y) S := by
  first
    | (simp only [post_def]; exact MP.v_eqS x y)
    | (simp only [post_def] at *; exact MP.v_eqS x y)
theorem v_neS (x y : Str) : post (cmpW .ne (.d (.str x)) (.d (.str y)) S) qb = qb (!(x == y)) S := by
  first
    | (simp only [post_def]; exact MP.v_neS x y)
    | (simp only [post_def] at *; exact MP.v_neS x y)
theorem v_isn (x : W) : post (cmpW .isn x (.d .none) S) qb = qb (isNone x) S := by
  first
    | (simp only [post_def]; exact MP.v_isn x)
    | (simp only [post_def] at *; exact MP.v_isn x)
theorem v_isnn (x : W) : post (cmpW .isnn x (.d .none) S) qb = qb (!isNone x) S := by
  first
    | (simp only [post_def]; exact MP.v_isnn x)
    | (simp only [post_def] at *; exact MP.v_isnn x)
theorem v_eqD {x y : D} {b : Bool} (h : eqD x y = some b) : post (cmpW .eq (.d x) (.d y) S) qb = qb b S := by
  first
    | (simp only [post_def]; exact MP.v_eqD h)
    | (simp only [post_def] at *; exact MP.v_eqD h)
theorem v_neD {x y : D} {b : Bool} (h : eqD x y = some b) : post (cmpW .ne (.d x) (.d y) S) qb = qb (!b) S := by
  first
    | (simp only [post_def]; exact MP.v_neD h)
    | (simp only [post_def] at *; exact MP.v_neD h)
end
theorem v_ixT {xs : List D} {k : Int} {x : D} (h : L2.atI xs k = some x) : post (subW (.d (.tuple xs)) (.d (.int k)) S) q = q (.d x) S := by
  first
    | (simp only [post_def]; exact MP.v_ixT h)
    | (simp only [post_def] at *; exact MP.v_ixT h)
theorem v_ixL {xs : List D} {k : Int} {x : D} (h : L2.atI xs k = some x) : post (subW (.d (.list xs)) (.d (.int k)) S) q = q (.d x) S := by
  first
    | (simp only [post_def]; exact MP.v_ixL h)
    | (simp only [post_def] at *; exact MP.v_ixL h)
theorem v_ixR {i : Nat} {xs : List W} {k : Int} {x : W} (e : S[i]? = some (.lst xs)) (h : L2.atI xs k = some x) : post (subW (.r i) (.d (.int k)) S) q = q x S := by
  first
    | (simp only [post_def]; exact MP.v_ixR e h)
    | (simp only [post_def] at *; exact MP.v_ixR e h)
theorem v_setR {i j : Nat} {xs : List W} {k : Int} {w : W} {qu : Unit → Sto → Prop} (e : S[i]? = some (.lst xs)) (h : ixN xs.length k = some j) : post (setW (.r i) (.d (.int k)) w S) qu = qu () (S.set i (.lst (xs.set j w))) := by
  first
    | (simp only [post_def]; exact MP.v_setR e h)
    | (simp only [post_def] at *; exact MP.v_setR e h)
theorem v_b1 {f : B1} {xs : List D} {y : D} (h1 : f ≠ .len) (h2 : f ≠ .tuple) (h : b1D f xs = some y) : post (b1W f (xs.map .d) S) q = q (.d y) S := by
  first
    | (simp only [post_def]; exact MP.v_b1 h1 h2 h)
    | (simp only [post_def] at *; exact MP.v_b1 h1 h2 h)
theorem v_int (i : Int) : post (b1W .int [.d (.int i)] S) q = q (.d (.int i)) S := by
  first
    | (simp only [post_def]; exact MP.v_int i)
    | (simp only [post_def] at *; exact MP.v_int i)
theorem v_abs (i : Int) : post (b1W .abs [.d (.int i)] S) q = q (.d (.int (if i < 0 then -i else i))) S := by
  first
    | (simp only [post_def]; exact MP.v_abs i)
    | (simp only [post_def] at *; exact MP.v_abs i)
theorem v_lenT (xs : List D) : post (b1W .len [.d (.tuple xs)] S) q = q (.d (.int xs.length)) S := by
  first
    | (simp only [post_def]; exact MP.v_lenT xs)
    | (simp only [post_def] at *; exact MP.v_lenT xs)
theorem v_lenL (xs : List D) : post (b1W .len [.d (.list xs)] S) q = q (.d (.int xs.length)) S := by
  first
    | (simp only [post_def]; exact MP.v_lenL xs)
    | (simp only [post_def] at *; exact MP.v_lenL xs)
theorem v_tupL (xs : List D) : post (b1W .tuple [.d (.list xs)] S) q = q (.d (.tuple xs)) S := by
  first
    | (simp only [post_def]; exact MP.v_tupL xs)
    | (simp only [post_def] at *; exact MP.v_tupL xs)
theorem v_lstL (xs : List D) : post (b1W .list [.d (.list xs)] S) q = q (.d (.list xs)) S := by
  first
    | (simp only [post_def]; exact MP.v_lstL xs)
    | (simp only [post_def] at *; exact MP.v_lstL xs)
theorem v_repr {x : D} {z : Str} (h : reprD x = some z) : post (b1W .repr [.d x] S) q = q (.d (.str z)) S := by
  first
    | (simp only [post_def]; exact MP.v_repr h)
    | (simp only [post_def] at *; exact MP.v_repr h)
end
theorem v_isi {S : Sto} {q : W → Sto → Prop} {T : String} {x : D} {b : Bool} (h : isI T x = some b) : post (b1W (.isI T) [.d x] S) q = q (.d (.bool b)) S := by
  first
    | (simp only [post_def]; exact MP.v_isi h)
    | (simp only [post_def] at *; exact MP.v_isi h)
end MP.Q0

namespace MP
open PySem L2 PySem.Spec PyProof.Rows
abbrev T (xs : List Int) : D := .tuple (xs.map .int)
def oct (xs : List Int) : Prop := ∀ o ∈ xs, 0 ≤ o ∧ o < 256
theorem eqv_ints : ∀ xs ys : List Int, PyData.eqvAll (xs.map .int) (ys.map .int) = decide (xs = ys)
  | [], [] => rfl
  | [], _ :: _ => rfl
  | _ :: _, [] => rfl
  | x :: xs, y :: ys => by
    show ((x == y) && PyData.eqvAll (xs.map .int) (ys.map .int)) = _
    rw [eqv_ints xs ys, Bool.eq_iff_iff]
    simp
theorem eq_T (xs ys : List Int) : eqD (T xs) (T ys) = some (decide (xs = ys)) := by
  show (if SeqAt.shaped (T xs) = true ∧ SeqAt.shaped (T ys) = true then some (PyData.eqv (T xs) (T ys)) else none) = _
  rw [if_pos ⟨shaped_ints xs, shaped_ints ys⟩]
  exact congrArg some (eqv_ints xs ys)
theorem bools_map {α : Type} (g : α → Bool) : ∀ xs : List α, bools (xs.map fun x => (PyData.bool (g x) : D)) = some (xs.map g)
  | [] => rfl
  | x :: r => by
    show (bools (r.map fun x => (PyData.bool (g x) : D))).map (g x :: ·) = _
    rw [bools_map g r]; rfl
theorem v_all {S : Sto} {q : W → Sto → Prop} {α : Type} (g : α → Bool) (xs : List α) : post (b1W .all [.d (.list (xs.map fun x => (PyData.bool (g x) : D)))] S) q = q (.d (.bool (xs.all g))) S := by
  have e : b1D .all [.list (xs.map fun x => (PyData.bool (g x) : D))] = some (.bool (xs.all g)) := by
    show (bools (xs.map fun x => (PyData.bool (g x) : D))).map (fun bs => PyData.bool (bs.all id)) = _
    rw [bools_map, Option.map_some, List.all_map]
    rfl
  exact v_b1 (xs := [.list (xs.map fun x => (PyData.bool (g x) : D))]) (by decide) (by decide) e
def cpsI (z : Str) : List Int := z.cps.toList.map fun c => ((c : Nat) : Int)
theorem ord_turn {S : Sto} {q : W → Sto → Prop} {c : Nat} : post (b1W .ord [.d (.str ⟨#[c]⟩)] S) q = q (.d (.int (c : Nat))) S := v_b1 (xs := [.str ⟨#[c]⟩]) (by decide) (by decide) rfl
theorem cut1 {α : Type} (xs : List α) : cut xs (some 1) none = xs.tail := by
  unfold cut
  have e := HT.sIx_nat xs.length 0 1
  rw [show HT.sIx xs.length 0 (some 1) = min 1 xs.length from e, HT.sIx_none]
  cases xs with
  | nil => rfl
  | cons x r =>
    rw [List.length_cons, show min 1 (r.length + 1) = 1 by omega]
    show List.take (r.length + 1 - 1) r = r
    rw [Nat.add_sub_cancel, List.take_length]
def pI (p : Int → Bool) : D → Bool
  | .int o => p o
  | _ => false
theorem filter_I (p : Int → Bool) : ∀ xs : List Int, ((xs.map PyData.int).filter (pI p)).map id = (xs.filter p).map PyData.int
  | [] => rfl
  | x :: r => by
    rw [List.map_cons, List.filter_cons, List.filter_cons]
    show (if p x = true then _ else _ : List D).map id = _
    cases h : p x with
    | true => simp only [if_true, List.map_cons, filter_I p r]; rfl
    | false => simp only [Bool.false_eq_true, if_false, filter_I p r]
theorem shaped_L (xs : List Int) : SeqAt.shaped (.list (xs.map .int)) = true := by
  have e : (PyData.list (xs.map .int)).depth = 1 := by
    show PyData.depthAll _ + 1 = 1
    rw [depth_ints]
  unfold SeqAt.shaped
  rw [e, show (PyData.list (xs.map .int)).canLay0 = true from lay_ints xs]
  rfl
theorem eq_L (xs ys : List Int) : eqD (.list (xs.map .int)) (.list (ys.map .int)) = some (decide (xs = ys)) := by
  show (if SeqAt.shaped (.list (xs.map .int)) = true ∧ SeqAt.shaped (.list (ys.map .int)) = true then some (PyData.eqv (.list (xs.map .int)) (.list (ys.map .int))) else none) = _
  rw [if_pos ⟨shaped_L xs, shaped_L ys⟩]
  exact congrArg some (eqv_ints xs ys)
theorem v_catS {S : Sto} {q : W → Sto → Prop} {x y : Str} (h : x.length + y.length ≤ SZ) : post (binW .add (.d (.str x)) (.d (.str y)) S) q = q (.d (.str (x ++ y))) S := bin_pos (if_pos h)
theorem v_catT {S : Sto} {q : W → Sto → Prop} {xs ys : List Int} (h : xs.length + ys.length ≤ 1000000) : post (binW .add (.d (T xs)) (.d (T ys)) S) q = q (.d (T (xs ++ ys))) S := by
  rw [v_cat (by rw [List.length_map, List.length_map]; show _ ≤ 16777216; omega), ← List.map_append]
theorem v_str {S : Sto} {q : W → Sto → Prop} {v : Int} (h : v.natAbs.log2 < 1920) : post (b1W .str [.d (.int v)] S) q = q (.d (.str (toString v : String))) S := by
  refine v_b1 (xs := [.int v]) (by decide) (by decide) ?_
  have e : strD (.int v) = some ((toString v : String) : Str) := by
    show (if v.natAbs.log2 < 1920 then some ((toString v : String) : Str) else none) = _
    rw [if_pos h]
  show (strD (.int v)).map PyData.str = _
  rw [e]; rfl
def txt (v : Int) : Str := (toString v : String)
theorem cpsI_app (x y : Str) : cpsI (x ++ y) = cpsI x ++ cpsI y := by
  unfold cpsI
  rw [show (x ++ y).cps = x.cps ++ y.cps from rfl, Array.toList_append, List.map_append]
theorem txt_len {v : Int} (h0 : 0 ≤ v) (h : v < 10 ^ 16) : (txt v).length ≤ 16 := toString_length_le h0 (by decide) h
theorem cpsI_len (x : Str) : (cpsI x).length = x.length := by
  unfold cpsI
  rw [List.length_map, Array.length_toList]; rfl
theorem txt_oct (v : Int) : oct (cpsI (txt v)) := by
  intro o m
  obtain ⟨c, hc, rfl⟩ := List.mem_map.mp m
  have h : ¬ (c ≠ 45 ∧ (c < 48 ∨ 57 < c)) := fun z => int_text_free' c z v hc
  omega
theorem log_small {v : Int} (h0 : 0 ≤ v) (h : v < 10 ^ 16) : v.natAbs.log2 < 1920 := by
  by_cases z : v.natAbs = 0
  · rw [z]; decide
  · have := (Nat.log2_lt z (k := 60)).mpr (by omega)
    omega
theorem cut_map {α β : Type} (f : α → β) (xs : List α) (lo hi : Option Int) : cut (xs.map f) lo hi = (cut xs lo hi).map f := by
  unfold cut
  rw [List.map_take, List.map_drop, List.length_map]
theorem v_slT {S : Sto} {q : W → Sto → Prop} {xs : List Int} {lo hi : Option Int} : post (slcW (.d (T xs)) lo hi S) q = q (.d (T (cut xs lo hi))) S := by
  show q (.d (.tuple (cut (xs.map PyData.int) lo hi))) S = _
  rw [cut_map]
theorem cutTo {α : Type} {xs : List α} {n : Nat} : cut xs none (some (n : Int)) = xs.take n := by
  unfold cut
  rw [HT.sIx_nat, HT.sIx_none, List.drop_zero, Nat.sub_zero]
  by_cases h : n ≤ xs.length
  · rw [Nat.min_eq_left h]
  · rw [Nat.min_eq_right (by omega), List.take_of_length_le (Nat.le_refl _), List.take_of_length_le (by omega)]
theorem cutFrom {α : Type} {xs : List α} {n : Nat} : cut xs (some (n : Int)) none = xs.drop n := by
  unfold cut
  rw [HT.sIx_nat, HT.sIx_none]
  by_cases h : n ≤ xs.length
  · rw [Nat.min_eq_left h, List.take_of_length_le (by rw [List.length_drop]; omega)]
  · rw [Nat.min_eq_right (by omega), Nat.sub_self, List.take_zero, List.drop_of_length_le (by omega)]
theorem v_eqT0 {S : Sto} {q : Bool → Sto → Prop} {xs : List Int} : post (cmpW .eq (.d (T xs)) (.d (.tuple [])) S) q = q (decide (xs = [])) S := v_eqD (eq_T xs [])
theorem v_neT0 {S : Sto} {q : Bool → Sto → Prop} {xs : List Int} : post (cmpW .ne (.d (T xs)) (.d (.tuple [])) S) q = q (!decide (xs = [])) S := v_neD (eq_T xs [])
theorem items_rng {n : Int} (h : -(2 ^ 62) ≤ n ∧ n < 2 ^ 62) : itemsOf .rng [.d (.int n)] = some ((List.range n.toNat).map fun (i : Nat) => .int (i : Int)) := by
  show (if -(2 ^ 62) ≤ n ∧ n < 2 ^ 62 then some ((List.range n.toNat).map fun (i : Nat) => PyData.int (i : Int)) else none) = _
  rw [if_pos h]
theorem reprD_of {x : D} {z : Str} (h : reprD x = some z) : x.showable = true ∧ x.hasDict = false ∧ x.depth ≤ 60 ∧ x.shown.length ≤ SZ := by
  unfold reprD at h
  split at h
  · assumption
  · cases h
theorem shown_len {xs : List Int} (h : oct xs) : (T xs).shown.length ≤ 5 * xs.length + 3 := by
  show (tupleText (PyData.shownAll (xs.map .int))).length ≤ _
  have e : PyData.shownAll (xs.map PyData.int) = xs.map fun i => (toString i : Str) := by
    clear h
    induction xs with
    | nil => rfl
    | cons x r ih => show _ :: PyData.shownAll (r.map .int) = _; rw [ih]; rfl
  rw [e]
  unfold tupleText
  rw [Str.length_append, Str.length_append]
  have j := StrLaws.join_length_le ((", " : String) : Str) (xs.map fun i => (toString i : Str))
  have b : ((xs.map fun i => (toString i : Str)).map (·.length)).sum ≤ 3 * xs.length := by
    clear j e
    induction xs with
    | nil => simp
    | cons x r ih =>
      have h1 := ih fun y m => h y (List.mem_cons_of_mem _ m)
      have h2 := small_text' (h x List.mem_cons_self)
      rw [List.map_cons, List.map_cons, List.sum_cons, List.length_cons]
      omega
  have l1 : (("(" : String) : Str).length = 1 := rfl
  have l2 : ((", " : String) : Str).length = 2 := rfl
  have l3 : ((if (xs.map fun i => (toString i : Str)).length == 1 then ",)" else ")" : String) : Str).length ≤ 2 := by
    split <;> decide
  rw [l2, List.length_map] at j
  omega
theorem repr_bool (b : Bool) : ∃ z, reprD (.bool b) = some z := by
  cases b
  · exact ⟨_, if_pos (by decide +kernel)⟩
  · exact ⟨_, if_pos (by decide +kernel)⟩
end MP

namespace MP.Q0
open PySem L2 PySem.Spec PyProof.Rows
theorem v_all {S : Sto} {q : W → Sto → Prop} {α : Type} (g : α → Bool) (xs : List α) : post (b1W .all [.d (.list (xs.map fun x => (PyData.bool (g x) : D)))] S) q = q (.d (.bool (xs.all g))) S := by
  first
    | (simp only [post_def]; exact MP.v_all g xs)
    | (simp only [post_def] at *; exact MP.v_all g xs)
theorem ord_turn {S : Sto} {q : W → Sto → Prop} {c : Nat} : post (b1W .ord [.d (.str ⟨#[c]⟩)] S) q = q (.d (.int (c : Nat))) S := by
  first
    | (simp only [post_def]; exact MP.ord_turn )
    | (simp only [post_def] at *; exact MP.ord_turn )
theorem v_catS {S : Sto} {q : W → Sto → Prop} {x y : Str} (h : x.length + y.length ≤ SZ) : post (binW .add (.d (.str x)) (.d (.str y)) S) q = q (.d (.str (x ++ y))) S := by
  first
    | (simp only [post_def]; exact MP.v_catS h)
    | (simp only [post_def] at *; exact MP.v_catS h)
theorem v_catT {S : Sto} {q : W → Sto → Prop} {xs ys : List Int} (h : xs.length + ys.length ≤ 1000000) : post (binW .add (.d (T xs)) (.d (T ys)) S) q = q (.d (T (xs ++ ys))) S := by
  first
    | (simp only [post_def]; exact MP.v_catT h)
    | (simp only [post_def] at *; exact MP.v_catT h)
theorem v_str {S : Sto} {q : W → Sto → Prop} {v : Int} (h : v.natAbs.log2 < 1920) : post (b1W .str [.d (.int v)] S) q = q (.d (.str (toString v : String))) S := by
  first
    | (simp only [post_def]; exact MP.v_str h)
    | (simp only [post_def] at *; exact MP.v_str h)
theorem v_slT {S : Sto} {q : W → Sto → Prop} {xs : List Int} {lo hi : Option Int} : post (slcW (.d (T xs)) lo hi S) q = q (.d (T (cut xs lo hi))) S := by
  first
    | (simp only [post_def]; exact MP.v_slT )
    | (simp only [post_def] at *; exact MP.v_slT )
theorem v_eqT0 {S : Sto} {q : Bool → Sto → Prop} {xs : List Int} : post (cmpW .eq (.d (T xs)) (.d (.tuple [])) S) q = q (decide (xs = [])) S := by
  first
    | (simp only [post_def]; exact MP.v_eqT0 )
    | (simp only [post_def] at *; exact MP.v_eqT0 )
theorem v_neT0 {S : Sto} {q : Bool → Sto → Prop} {xs : List Int} : post (cmpW .ne (.d (T xs)) (.d (.tuple [])) S) q = q (!decide (xs = [])) S := by
  first
    | (simp only [post_def]; exact MP.v_neT0 )
    | (simp only [post_def] at *; exact MP.v_neT0 )
end MP.Q0

namespace MP.Q0
open PySem L2 PySem.Spec PyProof.Rows
/-! reckoning with the newer rules -/
section
variable {S : Sto} {ρ : Sl} {q : W → Sto → Prop} {Q : Fl → Sto → Prop}
theorem post_opt_some {α : Type} (a : α) (q : α → Sto → Prop) : post (opt (some a) S) q = q a S := post_ret a S q
theorem a_aug (i : Nat) (a : EM) : post (augM i a ρ S) Q = post (getV ρ i S) fun x S1 => post (a ρ S1) fun y S2 => post (augW x y S2) fun z S3 => Q (.nx (ρ.set i (some z))) S3 := by
  unfold augM; rw [post_bnd]; congr 1; funext x S1; rw [post_bnd]; congr 1; funext y S2; rw [post_bnd]; congr 1; funext z S3; rw [post_ret]
theorem a_disp (ks : List Key) (ms : AM) : post (dispM ks ms ρ S) q = post (ms ρ S) fun ws S1 => ks.length = ws.length ∧ ks.length ≤ 15 ∧ q (.r S1.length) (S1 ++ [.dk (mrg [] (ks.zip ws))]) := by
  unfold dispM; rw [post_bnd]; congr 1; funext ws S1
  by_cases c : ks.length = ws.length ∧ ks.length ≤ 15
  · rw [if_pos c]
    have e : post (alloc (.dk (mrg [] (ks.zip ws))) S1) q = q (.r S1.length) (S1 ++ [.dk (mrg [] (ks.zip ws))]) := post_some _ _
    rw [e]
    exact propext ⟨fun h => ⟨c.1, c.2, h⟩, fun h => h.2.2⟩
  · rw [if_neg c, post_bad]
    exact propext ⟨fun h => h.elim, fun h => c ⟨h.1, h.2.1⟩⟩
theorem a_itemsL (a : EM) : post (itemsLM a ρ S) q = post (a ρ S) fun w S1 => post (itemsLW w S1) q := by unfold itemsLM; rw [post_bnd]
theorem a_tsub (t : List (Key × D)) (a : EM) : post (tsubM t a ρ S) q = post (a ρ S) fun w S1 => post (tsubW t w S1) q := by unfold tsubM; rw [post_bnd]
theorem a_tin (t : List (Key × D)) (a : EM) : post (tinM t a ρ S) q = post (a ρ S) fun w S1 => post (tinW t w S1) fun c S2 => q (.d (.bool c)) S2 := by
  unfold tinM; rw [post_bnd]; congr 1; funext w S1; rw [post_bnd]; congr 1; funext c S2; rw [post_ret]
theorem a_tnin (t : List (Key × D)) (a : EM) : post (tninM t a ρ S) q = post (a ρ S) fun w S1 => post (tinW t w S1) fun c S2 => q (.d (.bool (!c))) S2 := by
  unfold tninM; rw [post_bnd]; congr 1; funext w S1; rw [post_bnd]; congr 1; funext c S2; rw [post_ret]
theorem a_op2 (m : W → W → M W) (a b : EM) : post (op2M m a b ρ S) q = post (a ρ S) fun x S1 => post (b ρ S1) fun y S2 => post (m x y S2) q := by
  unfold op2M; rw [post_bnd]; congr 1; funext x S1; rw [post_bnd]
theorem a_call0 (m : List W → M W) : post (call0M m ρ S) q = post (m [] S) q := rfl
theorem a_lc2 (mi : Sl → M (List D)) (p : P) (own : List Nat) (mt : Sl → M Bool) (mi1 : Sl → M (List D)) (p1 : P) (own1 : List Nat) (mt1 : Sl → M Bool) (me : EM) :
    post (lc2E mi p own mt mi1 p1 own1 mt1 me ρ S) q = post (mi ρ S) fun items S1 => post (lcM2 (lc2T p own mt mi1 p1 own1 mt1 me ρ) items S1) fun ys S2 => ys.length ≤ SZ ∧ q (.d (.list ys)) S2 := by
  unfold lc2E; rw [post_bnd]; congr 1; funext items S1; rw [post_bnd]; congr 1; funext ys S2
  unfold sizeOk
  by_cases c : ys.length ≤ SZ
  · rw [if_pos c, post_ret]; exact propext ⟨fun h => ⟨c, h⟩, fun h => h.2⟩
  · rw [if_neg c, post_bad]; exact propext ⟨fun h => h.elim, fun h => c h.1⟩
theorem lc2_nil {turn : D → M (List D)} {q : List D → Sto → Prop} : post (lcM2 turn [] S) q = q [] S := post_ret _ _ _
theorem lc2_cons {turn : D → M (List D)} {x : D} {r : List D} {q : List D → Sto → Prop} : post (lcM2 turn (x :: r) S) q = post (turn x S) fun y S1 => post (lcM2 turn r S1) fun ys S2 => q (y ++ ys) S2 := by
  conv => lhs; unfold lcM2
  rw [post_bnd]; congr 1; funext y S1; rw [post_bnd]; congr 1; funext ys S2; rw [post_ret]
theorem lc_cons {turn : D → M (Option D)} {x : D} {r : List D} {q : List D → Sto → Prop} : post (lcM turn (x :: r) S) q = post (turn x S) fun y S1 => post (lcM turn r S1) fun ys S2 => q (match y with
    | some z => z :: ys
    | none => ys) S2 := by
  conv => lhs; unfold lcM
  rw [post_bnd]; congr 1; funext y S1; rw [post_bnd]; congr 1; funext ys S2; rw [post_ret]
  all_goals (cases y <;> rfl)
theorem lc_nil {turn : D → M (Option D)} {q : List D → Sto → Prop} : post (lcM turn [] S) q = q [] S := post_ret _ _ _
/-- comprehensions without an effect -/
theorem lc_map {turn : D → M (Option D)} {f : D → D} {q : List D → Sto → Prop} : ∀ (items : List D), (∀ x ∈ items, ∀ q : Option D → Sto → Prop, q (some (f x)) S → post (turn x S) q) → q (items.map f) S → post (lcM turn items S) q
  | [], _, k => by rw [lc_nil]; exact k
  | x :: r, h, k => by
    rw [lc_cons]
    refine h x List.mem_cons_self _ ?_
    refine lc_map r (fun y m => h y (List.mem_cons_of_mem _ m)) ?_
    exact k
theorem lc_filter {turn : D → M (Option D)} {f : D → D} {p : D → Bool} {q : List D → Sto → Prop} : ∀ (items : List D), (∀ x ∈ items, ∀ q : Option D → Sto → Prop, q (if p x = true then some (f x) else none) S → post (turn x S) q) → q ((items.filter p).map f) S → post (lcM turn items S) q
  | [], _, k => by rw [lc_nil]; exact k
  | x :: r, h, k => by
    rw [lc_cons]
    refine h x List.mem_cons_self _ ?_
    refine lc_filter r (fun y m => h y (List.mem_cons_of_mem _ m)) ?_
    rw [List.filter_cons] at k
    cases e : p x with
    | true =>
      rw [e] at k
      exact k
    | false =>
      rw [e] at k
      exact k
theorem lc2_map {turn : D → M (List D)} {f : D → List D} {q : List D → Sto → Prop} : ∀ (items : List D), (∀ x ∈ items, ∀ q : List D → Sto → Prop, q (f x) S → post (turn x S) q) → q (items.flatMap f) S → post (lcM2 turn items S) q
  | [], _, k => by rw [lc2_nil]; exact k
  | x :: r, h, k => by
    rw [lc2_cons]
    refine h x List.mem_cons_self _ ?_
    refine lc2_map r (fun y m => h y (List.mem_cons_of_mem _ m)) ?_
    exact k
/-! values -/
theorem oct_app {xs ys : List Int} (h : oct xs) (h' : oct ys) : oct (xs ++ ys) := fun o m => (List.mem_append.mp m).elim (h o) (h' o)
theorem oct_lit {a : List Int} (h : (a.all fun o => decide (0 ≤ o) && decide (o < 256)) = true) : oct a := fun o m => by
  have := List.all_eq_true.mp h o m
  rw [Bool.and_eq_true] at this
  exact ⟨of_decide_eq_true this.1, of_decide_eq_true this.2⟩
theorem of_opt {o : Option W} {a : W} (h : o = some a) : post (opt o S) q = q a S := by rw [h]; exact post_ret a S q
theorem v_augT {xs ys : List Int} (h : xs.length + ys.length ≤ 1000000) : post (augW (.d (T xs)) (.d (T ys)) S) q = q (.d (T (xs ++ ys))) S := by
  have e : augD (T xs) (T ys) = some (T (xs ++ ys)) := by
    show (if (xs.map PyData.int).length + (ys.map PyData.int).length ≤ SZ then some (PyData.tuple (xs.map PyData.int ++ ys.map PyData.int)) else none) = _
    rw [if_pos (by rw [List.length_map, List.length_map]; show _ ≤ 16777216; omega), ← List.map_append]
  have e2 : augW (.d (T xs)) (.d (T ys)) = bnd (opt (augD (T xs) (T ys))) (fun z => ret (.d z)) := rfl
  rw [e2, e, post_bnd]
  have e3 : ∀ (x : D) (f : D → Sto → Prop), post (opt (some x) S) f = f x S := fun x f => post_ret x S f
  rw [e3, post_ret]
end
end MP.Q0

namespace MP.Q0
open PySem L2 PySem.Spec PyProof.Rows
section
variable {S : Sto} {ρ : Sl} {q : W → Sto → Prop} {Q : Fl → Sto → Prop} {qb : Bool → Sto → Prop}
theorem a_fs (ms : AM) : post (fsM ms ρ S) q = post (ms ρ S) fun ws S1 => post (joinM ws Str.empty S1) fun z S2 => q (.d (.str z)) S2 := by
  unfold fsM; rw [post_bnd]; congr 1; funext ws S1; rw [post_bnd]; congr 1; funext z S2; rw [post_ret]
theorem a_fmt (a : EM) : post (fmtM a ρ S) q = post (a ρ S) fun w S1 => post (b1W .fmt [w] S1) q := by unfold fmtM; rw [post_bnd]
theorem joinD_ok : ∀ (zs : List Str) (acc : Str), acc.length + (zs.map (·.length)).sum ≤ SZ → joinD (zs.map .str) acc = some (zs.foldl (· ++ ·) acc)
  | [], acc, _ => rfl
  | z :: r, acc, h => by
    rw [List.map_cons, List.sum_cons] at h
    show (if (acc ++ z).length ≤ SZ then joinD (r.map .str) (acc ++ z) else none) = _
    rw [if_pos (by rw [Str.length_append]; omega), joinD_ok r (acc ++ z) (by rw [Str.length_append]; omega)]
    rfl
theorem dataOf_d : ∀ xs : List D, dataOf (xs.map W.d) = some xs
  | [] => rfl
  | x :: r => by
    show (dataOf (r.map W.d)).map (x :: ·) = _
    rw [dataOf_d r]; rfl
theorem v_join (zs : List Str) {ws : List W} {qz : Str → Sto → Prop} (hw : ws = (zs.map PyData.str).map W.d) (h : (zs.map (·.length)).sum ≤ 1000000) : post (joinM ws Str.empty S) qz = qz (zs.foldl (· ++ ·) Str.empty) S := by
  have e : joinM ws Str.empty = opt (some (zs.foldl (· ++ ·) Str.empty)) := by
    unfold joinM
    rw [hw, dataOf_d]
    show (match joinD (zs.map PyData.str) Str.empty with
      | none => bad
      | some z => ret z) = _
    rw [joinD_ok zs Str.empty (by show 0 + _ ≤ 16777216; omega)]
    rfl
  rw [e]
  exact post_ret _ _ _
theorem join_ok (zs : List Str) {ws : List W} {qz : Str → Sto → Prop} (hw : ws = (zs.map PyData.str).map W.d) (h : (zs.map (·.length)).sum ≤ 1000000) (k : qz (zs.foldl (· ++ ·) Str.empty) S) : post (joinM ws Str.empty S) qz := by
  rw [v_join zs hw h]; exact k
theorem cpsI_empty : cpsI Str.empty = [] := rfl
theorem cpsI_fold : ∀ (zs : List Str) (acc : Str), cpsI (zs.foldl (· ++ ·) acc) = cpsI acc ++ zs.flatMap cpsI
  | [], acc => by rw [List.foldl_nil, List.flatMap_nil, List.append_nil]
  | z :: r, acc => by rw [List.foldl_cons, cpsI_fold r, cpsI_app, List.flatMap_cons, List.append_assoc]
theorem v_fmtI {v : Int} (h : v.natAbs.log2 < 1920) : post (b1W .fmt [.d (.int v)] S) q = q (.d (.str (txt v))) S := by
  refine v_b1 (xs := [.int v]) (by decide) (by decide) ?_
  have e : fmtD (.int v) = some (txt v) := if_pos h
  show (fmtD (.int v)).map PyData.str = _
  rw [e]; rfl
theorem v_fmtS {z : Str} (h : z.length ≤ SZ) : post (b1W .fmt [.d (.str z)] S) q = q (.d (.str z)) S := by
  refine v_b1 (xs := [.str z]) (by decide) (by decide) ?_
  have e : fmtD (.str z) = some z := if_pos h
  show (fmtD (.str z)).map PyData.str = _
  rw [e]; rfl
theorem v_strI {v : Int} (h : v.natAbs.log2 < 1920) : post (b1W .str [.d (.int v)] S) q = q (.d (.str (txt v))) S := by
  rw [v_str h]; rfl
theorem v_tsub {t : List (Key × D)} {k : Key} {w : W} {d : D} (hk : wKey w = some k) (h : look k t = some d) : post (tsubW t w S) q = q (.d d) S := by
  have e : tsubW t w = opt (some (.d d)) := by
    unfold tsubW
    rw [hk]
    show opt ((look k t).map W.d) = _
    rw [h]; rfl
  rw [e]
  exact post_ret _ _ _
theorem v_tin {t : List (Key × D)} {k : Key} {w : W} {d : D} (hk : wKey w = some k) (h : look k t = some d) : post (tinW t w S) qb = qb true S := by
  have e : tinW t w = opt (some true) := by
    unfold tinW
    rw [hk]
    show opt (some ((look k t).isSome)) = _
    rw [h]; rfl
  rw [e]
  exact post_ret _ _ _
theorem log_nat {v : Int} (h0 : -10000000000000000 ≤ v) (h : v ≤ 10000000000000000) : v.natAbs.log2 < 1920 := by
  by_cases z : v.natAbs = 0
  · rw [z]; decide
  · have := (Nat.log2_lt z (k := 60)).mpr (by omega)
    omega
theorem txt_cps {v : Int} (h0 : 0 ≤ v) (h : v ≤ 1000000000000000) : (cpsI (txt v)).length ≤ 16 := by
  rw [cpsI_len]; exact txt_len h0 (by omega)
theorem len_cps (z : Str) : z.length = (cpsI z).length := (cpsI_len z).symm
theorem lst_cps (z : Str) : z.cps.toList.length = (cpsI z).length := by unfold cpsI; rw [List.length_map]
/-- indexing a store behind its beginning -/
theorem at_end (S : Sto) (o : O) (R : Sto) : (S ++ o :: R)[S.length]? = some o := by
  rw [List.getElem?_append_right (Nat.le_refl _), Nat.sub_self]; rfl
theorem set_end (S : Sto) (o u : O) : (S ++ [o]).set S.length u = S ++ [u] := by
  rw [List.set_append_right _ _ (Nat.le_refl _), Nat.sub_self]; rfl
end
end MP.Q0

/-! Objects of a class of the program: attributes, methods, making; attributes as targets. -/
namespace MP
open PySem L2 PySem.Spec PyProof.Rows
/-! ### fields -/
def pf (f : Str) (w : W) : List (Str × W) → List (Str × W)
  | [] => [(f, w)]
  | (g, x) :: r => if g = f then (g, w) :: r else (g, x) :: pf f w r
def getA (c : Nat) (f : Str) (x : W) : M W := fun S => match x with
  | .r i => match S[i]? with
    | some (.ins d fs) => if d = c then (look f fs).map (fun w => .ok w S) else none
    | _ => none
  | _ => none
def setA (c : Nat) (f : Str) (x w : W) : M Unit := fun S => match x with
  | .r i => match S[i]? with
    | some (.ins d fs) => if d = c ∧ fs.length < 1000 then some (.ok () (S.set i (.ins d (pf f w fs)))) else none
    | _ => none
  | _ => none
def rcvA (c : Nat) (m : Str) (x : W) : M Unit := fun S => match x with
  | .r i => match S[i]? with
    | some (.ins d fs) => if d = c ∧ (look m fs).isNone = true then some (.ok () S) else none
    | _ => none
  | _ => none
def newW (c : Nat) (m : List W → M W) (ws : List W) : M W := fun S => match m (.r S.length :: ws) (S ++ [.ins c []]) with
  | some (.ok (.d .none) S') => some (.ok (.r S.length) S')
  | _ => none
def attrM (c : Nat) (f : Str) (o : EM) : EM := fun ρ => bnd (o ρ) fun x => getA c f x
def mcallM (c : Nat) (n : Str) (m : List W → M W) (o : EM) (ms : AM) : EM := fun ρ => bnd (o ρ) fun x => bnd (rcvA c n x) fun _ => bnd (ms ρ) fun ws => m (x :: ws)
def newM (c : Nat) (m : List W → M W) (ms : AM) : EM := fun ρ => bnd (ms ρ) fun ws => newW c m ws
abbrev TM := W → Sl → M Sl
def nmT (i : Nat) : TM := fun w ρ => ret (ρ.set i (some w))
def atT (c : Nat) (f : Str) (o : EM) : TM := fun w ρ => bnd (o ρ) fun x => bnd (setA c f x w) fun _ => ret ρ
def nilT : List W → Sl → M Sl := fun ws ρ => match ws with
  | [] => ret ρ
  | _ => bad
def consT (t : TM) (u : List W → Sl → M Sl) : List W → Sl → M Sl := fun ws ρ => match ws with
  | [] => bad
  | w :: r => bnd (t w ρ) fun ρ' => u r ρ'
def tupT (n : Nat) (u : List W → Sl → M Sl) : TM := fun w ρ => match w with
  | .d (.tuple xs) => if xs.length = n then u (xs.map .d) ρ else bad
  | _ => bad
def asgX (t : TM) (a : EM) : SM := fun ρ => bnd (a ρ) fun w => bnd (t w ρ) fun ρ' => ret (.nx ρ')
section
variable {K : PySem.W.Frag} {η : Zs} {H : Hp}
theorem KR.lookup {f : Str} : ∀ {vs : List (Str × V)} {ws : List (Str × W)}, KR K η H vs ws → (∀ w, MP.look f ws = some w → ∃ v, vs.lookup f = some v ∧ RW K η H v w) ∧ (MP.look f ws = none → vs.lookup f = none)
  | _, _, .nil => ⟨fun w e => (by unfold MP.look at e; cases e), fun _ => rfl⟩
  | _, _, .cons (k := j) (v := v) (vs := vs) (w := w) (ws := ws) r t => by
    obtain ⟨i1, i2⟩ := KR.lookup (f := f) t
    unfold MP.look
    by_cases e : j = f
    · subst e
      rw [if_pos rfl, List.lookup_cons_self]
      exact ⟨fun w' q => by cases q; exact ⟨v, rfl, r⟩, fun q => by cases q⟩
    · rw [if_neg e]
      have e2 : ((j, v) :: vs).lookup f = vs.lookup f := by
        rw [List.lookup_cons]
        have : (f == j) = false := beq_eq_false_iff_ne.mpr fun z => e z.symm
        rw [this]
      rw [e2]
      exact ⟨i1, i2⟩
theorem KR.putF {f : Str} {v : V} {w : W} (r : RW K η H v w) : ∀ {vs : List (Str × V)} {ws : List (Str × W)}, KR K η H vs ws → KR K η H (L2.putF f v vs) (pf f w ws)
  | _, _, .nil => .cons r .nil
  | _, _, .cons (k := j) q t => by
    unfold L2.putF pf
    by_cases e : j = f
    · rw [if_pos e, if_pos e]; exact .cons r t
    · rw [if_neg e, if_neg e]; exact .cons q (KR.putF r t)
end
theorem getA_ok {c : Nat} {f : Str} {x : W} {S S' : Sto} {w : W} (h : getA c f x S = some (.ok w S')) : ∃ i fs, x = .r i ∧ S[i]? = some (.ins c fs) ∧ look f fs = some w ∧ S' = S := by
  unfold getA at h
  split at h
  · split at h
    · split at h
      · rename_i hd
        obtain ⟨w', e1, e2⟩ := Option.map_eq_some_iff.mp h
        cases e2
        subst hd
        exact ⟨_, _, rfl, by assumption, e1, rfl⟩
      · cases h
    · cases h
  · cases h
theorem setA_ok {c : Nat} {f : Str} {x w : W} {S S' : Sto} {u : Unit} (h : setA c f x w S = some (.ok u S')) : ∃ i fs, x = .r i ∧ S[i]? = some (.ins c fs) ∧ fs.length < 1000 ∧ S' = S.set i (.ins c (pf f w fs)) := by
  unfold setA at h
  split at h
  · split at h
    · split at h
      · rename_i hd
        obtain ⟨hd, hl⟩ := hd
        cases h
        subst hd
        exact ⟨_, _, rfl, by assumption, hl, rfl⟩
      · cases h
    · cases h
  · cases h
theorem rcvA_ok {c : Nat} {f : Str} {x : W} {S S' : Sto} {u : Unit} (h : rcvA c f x S = some (.ok u S')) : ∃ i fs, x = .r i ∧ S[i]? = some (.ins c fs) ∧ look f fs = none ∧ S' = S := by
  unfold rcvA at h
  split at h
  · split at h
    · split at h
      · rename_i hd
        obtain ⟨hd, hl⟩ := hd
        cases h
        subst hd
        exact ⟨_, _, rfl, by assumption, Option.isNone_iff_eq_none.mp hl, rfl⟩
      · cases h
    · cases h
  · cases h
/-! ### what of the text a class must have -/
structure Fa (K : PySem.W.Frag) (ca : Nat → Addr) (c : Nat) (f : Str) : Prop where
  cls : Cls K (ca c)
  no : NoAttr K (ca c) f
structure Mt (P : Program) (w : World) (K : PySem.W.Frag) (mg : Str → Option Value) (base : Heap) (ca : Nat → Addr) (k : Nat) (c : Nat) (x : Str) (m : List W → M W) : Prop where
  ex : ∃ (f : Addr) (fd : FuncData) (ps : List Str), Gn P w K mg base ca k f fd ps m ∧ Meth K (ca c) x f ∧ Cls K (ca c) ∧ Binds K fd ps []
structure Mn (P : Program) (w : World) (K : PySem.W.Frag) (mg : Str → Option Value) (base : Heap) (ca : Nat → Addr) (k : Nat) (c : Nat) (x : Str) (m : List W → M W) : Prop where
  ex : ∃ (f : Addr) (fd : FuncData) (ps : List Str), Gn P w K mg base ca k f fd ps m ∧ Mk K (ca c) f ∧ mg x = some (.ref (ca c)) ∧ Binds K fd ps []
theorem Mt.mono {P : Program} {w : World} {K : PySem.W.Frag} {mg : Str → Option Value} {base : Heap} {ca : Nat → Addr} {j k c : Nat} {x : Str} {m : List W → M W} (C : Mt P w K mg base ca j c x m) (h : j ≤ k) : Mt P w K mg base ca k c x m := by
  obtain ⟨f, fd, ps, G, a, b, c⟩ := C.ex
  exact ⟨f, fd, ps, G.mono h, a, b, c⟩
theorem Mn.mono {P : Program} {w : World} {K : PySem.W.Frag} {mg : Str → Option Value} {base : Heap} {ca : Nat → Addr} {j k c : Nat} {x : Str} {m : List W → M W} (C : Mn P w K mg base ca j c x m) (h : j ≤ k) : Mn P w K mg base ca k c x m := by
  obtain ⟨f, fd, ps, G, a, b, c⟩ := C.ex
  exact ⟨f, fd, ps, G.mono h, a, b, c⟩
section
variable {X : Cx} {ca : Nat → Addr} {x : Str} {pos p apos : Pos} {m : List W → M W} {ms : AM} {mo ma : EM} {o e : Expr} {es : List Expr} {f : Str}
theorem r_attr (c : Nat) (fa : Fa X.K ca c f) (he : PE X o (tE X.K ca mo)) (hb : attributeBase o f X.env (eval o X.env) = eval o X.env := by rfl) : PE X (.Attribute o f pos) (tE X.K ca (attrM c f mo)) := by
  refine PE.of (pe_fld he hb) fun σ H Q q => ?_
  obtain ⟨ρ, S, η, er, sr, q⟩ := q
  refine tE_seq er sr q fun x S1 v H1 η1 g er1 sr1 r1 q1 => ?_
  obtain ⟨w, S2, ew, qz⟩ := post_ok q1
  obtain ⟨i, fs, rfl, es, el, rfl⟩ := getA_ok ew
  cases r1 with
  | r ea =>
    obtain ⟨dx, vs, hv, kr⟩ := sr1.at ea es
    obtain ⟨v, ev, rv⟩ := kr.lookup.1 _ el
    exact ⟨_, _, dx, vs, v, rfl, hv, fa.cls, fa.no, ev, qz _ _ _ g sr1 rv⟩
/-! ### targets -/
def gM (K : PySem.W.Frag) (ca : Nat → Addr) (t : TM) : TG := fun v σ H Q => ∃ ρ S η w, ER K η H σ ρ ∧ SR K ca η H S ∧ RW K η H v w ∧ post (t w ρ S) fun ρ' S' => ∀ σ' H' η', Grow η H η' H' → SR K ca η' H' S' → ER K η' H' σ' ρ' → Q σ' H'
def gMs (K : PySem.W.Frag) (ca : Nat → Addr) (t : List W → Sl → M Sl) : TGs := fun v σ H Q => ∃ ρ S η w, ER K η H σ ρ ∧ SR K ca η H S ∧ RWs K η H v w ∧ post (t w ρ S) fun ρ' S' => ∀ σ' H' η', Grow η H η' H' → SR K ca η' H' S' → ER K η' H' σ' ρ' → Q σ' H'
theorem PGs.of {e : List Expr} {t t' : TGs} (h : PGs X e t) (k : ∀ v σ H Q, t' v σ H Q → t v σ H Q) : PGs X e t' := ⟨fun pins s σ H v u Q I r q => h.run pins s σ H v u Q I r (k v σ H Q q)⟩
theorem k_nm (ck : Ck X) (i : Nat) (hi : X.N[i]? = some x := by rfl) (hx : Loc X.env.scope x := by first | exact Or.inl rfl | exact Or.inr rfl) (hf : X.fn x = true ∨ X.env.scope.names.lookup x = some .local := by first | exact Or.inl rfl | exact Or.inr rfl) :
    PG X (.Name x pos) (gM X.K ca (nmT i)) := by
  refine PG.of (pg_name ck.nd hi hx hf) fun v σ H Q q => ?_
  obtain ⟨ρ, S, η, w, er, sr, r, q⟩ := q
  exact q _ H η (Grow.refl _ _) sr (er.set r i)
theorem k_at (c : Nat) (fa : Fa X.K ca c f) (ho : PE X o (tE X.K ca mo)) : PG X (.Attribute o f pos) (gM X.K ca (atT c f mo)) := by
  refine ⟨fun pins s σ H v u Q I rv h => ?_⟩
  obtain ⟨ρ, S, η, w, er, sr, r, q⟩ := h
  have q' : tE X.K ca mo σ H fun xv H1 => ∃ η1 S1 x, Grow η H η1 H1 ∧ ER X.K η1 H1 σ ρ ∧ SR X.K ca η1 H1 S1 ∧ RW X.K η1 H1 xv x ∧ post (bnd (setA c f x w) (fun _ => ret ρ) S1) fun ρ' S' => ∀ σ' H' η', Grow η H η' H' → SR X.K ca η' H' S' → ER X.K η' H' σ' ρ' → Q σ' H' :=
    tE_seq er sr q fun x S1 xv H1 η1 g er1 sr1 r1 q1 => ⟨η1, S1, x, g, er1, sr1, r1, q1⟩
  refine PySem.W.kas_attr (thn (ho.run pins s σ H _ I q') fun ov s1 ⟨xv, H1, I1, rx, η1, S1, x, g, er1, sr1, r1, q1⟩ => ?_)
  rw [post_bnd] at q1
  obtain ⟨y, S2, ew, qz⟩ := post_ok q1
  obtain ⟨i, fs, rfl, es, hl, rfl⟩ := setA_ok ew
  cases r1 with
  | r ea =>
    obtain ⟨dx, vs, hv, kr⟩ := sr1.at ea es
    obtain rfl : ov = Value.ref _ := rx
    refine setattr_ok I1 hv fa.cls fa.no (by rw [kr.length]; exact hl) rv fun s2 I2 => ?_
    have gs := grow_set (K := X.K) (ca := ca) (o := .ins (ca c) dx (L2.putF f v vs)) sr1 ea
    have sr2 := sr1.set (o := .ins c (pf f w fs)) (ho := .ins (ca c) dx (L2.putF f v vs)) ea ⟨dx, _, upd_same, KR.putF ((r.grow g).grow gs) (kr.grow gs)⟩
    have qz : ∀ σ' H' η', Grow η H η' H' → SR X.K ca η' H' _ → ER X.K η' H' σ' ρ → Q σ' H' := qz
    exact ⟨σ, _, I2, qz σ _ η1 (g.trans gs) sr2 (er1.grow gs)⟩
theorem k_nil : PGs X [] (gMs X.K ca nilT) := by
  refine PGs.of pgs_nil fun v σ H Q q => ?_
  obtain ⟨ρ, S, η, w, er, sr, r, q⟩ := q
  cases r with
  | nil => exact ⟨rfl, q σ H η (Grow.refl _ _) sr er⟩
  | cons _ _ => exact q.elim
theorem k_cons {t : TM} {u : List W → Sl → M Sl} (h1 : PG X e (gM X.K ca t)) (h2 : PGs X es (gMs X.K ca u)) (hs : (assignEach (e :: es) X.env).map (·.2) = assign e X.env :: (assignEach es X.env).map (·.2) := by rfl) :
    PGs X (e :: es) (gMs X.K ca (consT t u)) := by
  refine PGs.of (pgs_cons h1 h2 hs) fun v σ H Q q => ?_
  obtain ⟨ρ, S, η, w, er, sr, r, q⟩ := q
  cases r with
  | nil => exact q.elim
  | cons r1 r2 =>
    refine ⟨_, _, rfl, ρ, S, η, _, er, sr, r1, ?_⟩
    unfold consT at q
    dsimp only at q
    rw [post_bnd] at q
    exact q.imp fun ρ1 S1 q1 σ1 H1 η1 g1 sr1 er1 => ⟨ρ1, S1, η1, _, er1, sr1, r2.grow g1, q1.imp fun ρ2 S2 q2 σ2 H2 η2 g2 sr2 er2 => q2 σ2 H2 η2 (g1.trans g2) sr2 er2⟩
theorem rs_map {K : PySem.W.Frag} {η : Zs} {H : Hp} : ∀ {vs : List V} {xs : List D}, RpAll K η H vs xs → RWs K η H vs (xs.map .d)
  | _, _, .nil => .nil
  | _, _, .cons a b => .cons (.d a) (rs_map b)
theorem k_tup (ck : Ck X) {k n : Nat} {u : List W → Sl → M Sl} (h : PGs X es (gMs X.K ca u)) (hn : (assignEach es X.env).length = n := by rfl) (hst : (assignEach es X.env).findIdx? (·.1) = none := by rfl) : PG X (.Tuple es k pos) (gM X.K ca (tupT n u)) := by
  refine PG.of (pg_tup ck.calm h hn hst) fun v σ H Q q => ?_
  obtain ⟨ρ, S, η, w, er, sr, r, q⟩ := q
  unfold tupT at q
  split at q
  · rename_i xs
    cases r with
    | d r => cases r with
      | tup a1 b1 =>
        split at q
        · rename_i hl
          exact ⟨_, _, rfl, a1.sq, by rw [b1.length]; exact hl, ρ, S, η, _, er, sr, rs_map b1, q⟩
        · exact q.elim
  · exact q.elim
theorem z_asgX {tg : Expr} {t : TM} (hg : PG X tg (gM X.K ca t)) (he : PE X e (tE X.K ca ma)) (hs : swapsWithSole [tg] e pos.line X.env = pure false := by rfl) (hw : swappedStores [tg] e X.env = pure none := by rfl)
    (h1 : (assignEach [tg] X.env).map (·.2) = [assign tg X.env] := by rfl) : PS X (.Assign [tg] e pos) (tS X.K ca (asgX t ma)) := by
  refine PS.of (ps_asg he hg hs hw h1) fun D σ H q => ?_
  obtain ⟨ρ, S, η, er, sr, q⟩ := q
  refine tE_seq er sr q fun w S1 v H1 η1 g er1 sr1 r1 q1 => ?_
  rw [post_bnd] at q1
  refine ⟨ρ, S1, η1, w, er1, sr1, r1, q1.imp fun ρ2 S2 q2 σ2 H2 η2 g2 sr2 er2 => ?_⟩
  have q2 : qS X.K ca η H D (.nx ρ2) S2 := q2
  exact q2 H2 η2 (g.trans g2) sr2 σ2 er2
/-! ### methods -/
theorem mc_in {Q : VK} {σ : Sg} {H : Hp} {c : Nat} (h : tE X.K ca (mcallM c x m mo ms) σ H Q) : tE X.K ca mo σ H fun xv H1 => ∃ a dx fs, xv = .ref a ∧ H1 a = some (.ins (ca c) dx fs) ∧ fs.lookup x = none ∧
    tA X.K ca ms σ H1 fun vs H2 => ∃ η S ws, SR X.K ca η H2 S ∧ RWs X.K η H2 (.ref a :: vs) ws ∧ post (m ws S) (qW X.K ca η H2 Q) := by
  obtain ⟨ρ, S, η, er, sr, q⟩ := h
  refine tE_seq er sr q fun xw S1 v H1 η1 g er1 sr1 r1 q1 => ?_
  rw [post_bnd] at q1
  obtain ⟨y, S2, ew, qz⟩ := post_ok q1
  obtain ⟨i, fs, rfl, es, el, rfl⟩ := rcvA_ok ew
  cases r1 with
  | r ea =>
    obtain ⟨dx, vs, hv, kr⟩ := sr1.at ea es
    refine ⟨_, dx, vs, rfl, hv, kr.lookup.2 el, ?_⟩
    refine tA_seq er1 sr1 qz fun ws S3 us H2 η2 g2 er2 sr2 r2 q2 => ?_
    exact ⟨η2, S3, _, sr2, .cons (RW.grow g2 (.r ea)) r2, q2.imp fun _ _ z => z.mono (g.trans g2)⟩
theorem r_mc (ck : Ck X) {k j : Nat} (room : Room k X.A) (c : Nat) {pl : Sem Bool} (C : Mt X.prog X.w X.K X.mg X.base ca j c x m) (ho : PE X o (tE X.K ca mo)) (ha : PA X (e :: es) (tA X.K ca ms)) (hk : j ≤ k := by decide)
    (hst : starEach (e :: es) X.env = (false, eval e X.env) :: starEach es X.env := by rfl) (hpl : (backTo pos (starEach es X.env)).any (·.1) = false := by rfl)
    (ht : eval (.Call (.Attribute o x apos) (e :: es) [] pos) X.env = (do
      let ov ← eval o X.env
      standAt apos.atName
      let (f, first) ← holding [ov] (getMethod ov x pl)
      callWith pos f first (backTo pos (starEach (e :: es) X.env)) (backToKw pos (keywordEach [] X.env))) := by rfl) :
    PE X (.Call (.Attribute o x apos) (e :: es) [] pos) (tE X.K ca (mcallM c x m mo ms)) := by
  obtain ⟨f, fd, ps, G, hm, cl, bd⟩ := (C.mono hk).ex
  refine ⟨fun pins s σ H Q I q => ?_⟩
  refine PySem.W.methodCall_KW (pl := pl) (thn (ho.run pins s σ H _ I (mc_in q)) fun u s1 ⟨xv, H1, I1, rx, a, dx, fs, ex, ea, l, q1⟩ => ?_) ht
  subst ex
  obtain rfl : u = Value.ref a := rx
  refine getmeth_ok I1 ea cl hm l ?_
  refine PySem.W.callWith_K (first := [.ref a]) (h₀ := X.base) I.ok.mod.kin hm.kp (thn (ha.run pos pins s1 σ H1 _ I1 q1) fun us s2 ⟨vs, H2, I2, r, q2⟩ => ⟨I2.kIn, ?_⟩) hst hpl
  exact run_gn (us := .ref a :: us) (vs := .ref a :: vs) ck G room bd I2 (.cons rfl r) q2
theorem r_mc0 (ck : Ck X) {k j : Nat} (room : Room k X.A) (c : Nat) {pl : Sem Bool} (C : Mt X.prog X.w X.K X.mg X.base ca j c x m) (ho : PE X o (tE X.K ca mo)) (hk : j ≤ k := by decide)
    (ht : eval (.Call (.Attribute o x apos) [] [] pos) X.env = (do
      let ov ← eval o X.env
      standAt apos.atName
      let (f, first) ← holding [ov] (getMethod ov x pl)
      callWith pos f first (backTo pos (starEach [] X.env)) (backToKw pos (keywordEach [] X.env))) := by rfl) :
    PE X (.Call (.Attribute o x apos) [] [] pos) (tE X.K ca (mcallM c x m mo nilM)) := by
  obtain ⟨f, fd, ps, G, hm, cl, bd⟩ := (C.mono hk).ex
  refine ⟨fun pins s σ H Q I q => ?_⟩
  refine PySem.W.methodCall_KW (pl := pl) (thn (ho.run pins s σ H _ I (mc_in q)) fun u s1 ⟨xv, H1, I1, rx, a, dx, fs, ex, ea, l, q1⟩ => ?_) ht
  subst ex
  obtain rfl : u = Value.ref a := rx
  refine getmeth_ok I1 ea cl hm l ?_
  refine PySem.W.callWith_K0 (first := [.ref a]) I1.kIn hm.kp ?_
  obtain ⟨ρ, S, η, er, sr, q1⟩ := q1
  have q1 := q1 [] H1 η (Grow.refl _ _) sr .nil
  exact run_gn (us := [.ref a]) (vs := [.ref a]) ck G room bd I1 (.cons rfl .nil) q1
/-! ### making -/
theorem und_gd {A : Around} {C : Addr} {us : List Value} (h : A.guards = some []) : (A.under (.builtin "type.__call__" ⟨.ref C :: us, []⟩)).guards = some [] := by
  have e : (A.under (.builtin "type.__call__" ⟨.ref C :: us, []⟩)).guards = pushGuards (Code.guards (.builtin "type.__call__" ⟨.ref C :: us, []⟩)) A.guards := by
    unfold Around.under
    rfl
  rw [e, h]
  rfl
theorem run_mk {pins : List (Addr × Obj)} {σ : Sg} {H : Hp} {s : Shared} {Q : VK} {us : List Value} {vs : List V} {C f : Addr} {fd : FuncData} {ps : List Str} {k : Nat} (ck : Ck X) (M : Mk X.K C f) (G : Gn X.prog X.w X.K X.mg X.base ca k f fd ps m) (hr : Room (k + 1) X.A) (bd : Binds X.K fd ps [])
    (I : Inv X pins σ H s) (r : Vals vs us)
    (h : ∀ x dx, H x = none → H dx = none → dx ≠ x → ∃ η S ws, SR X.K ca η (upd (upd H dx (.own x)) x (.ins C dx [])) S ∧ RWs X.K η (upd (upd H dx (.own x)) x (.ins C dx [])) (.ref x :: vs) ws ∧
      post (m ws S) (qW X.K ca η (upd (upd H dx (.own x)) x (.ins C dx [])) fun v H2 => v = .non ∧ Q (.ref x) H2)) :
    wpAny (model X.prog X.w) X.A (call (.ref C) us) (EP X pins σ Q) X.xe s := by
  have hq := h (s.heap.objs.size + 1) s.heap.objs.size (I.hok.fresh (Nat.le_succ _)) (I.hok.fresh (Nat.le_refl _)) (Nat.ne_of_lt (Nat.lt_succ_self _))
  have I2 := Inv.made (C := C) I
  have r2 : Vals (V.ref (s.heap.objs.size + 1) :: vs) (Value.ref (s.heap.objs.size + 1) :: us) := .cons rfl r
  have hl : (Value.ref (s.heap.objs.size + 1) :: us).length = ps.length := by
    obtain ⟨η, S, ws, _, rr, q⟩ := hq
    obtain ⟨a, S', e, _⟩ := post_ok q
    rw [← r2.length, rr.length]
    exact G.len ws S _ e
  have b0 := bd _ (Value.ref (s.heap.objs.size + 1) :: us) I2.kIn (by rw [List.append_nil]; exact hl)
  rw [List.append_nil] at b0
  refine wpAny_call (make_map (f := f) I.kIn M.makes M.init (beq_iff_eq.mp M.fn) (codeAny_mono (G.run _ X.stack _ _ ⟨Value.ref (s.heap.objs.size + 1) :: us, []⟩ (Value.ref (s.heap.objs.size + 1) :: us) _ _ (hr.make C us []) (und_gd ck.gd)
    (I2.env0.make C us []) b0 r2 hq) fun r s' hq' => ?_))
  cases r with
  | error e => exact hq'.elim
  | ok fl =>
    cases fl with
    | ret u =>
      obtain ⟨v, H', I3, rv, ev, q3⟩ := I2.after hq'
      subst ev
      exact ⟨rv, ⟨V.ref (s.heap.objs.size + 1), H', I3, rfl, q3⟩⟩
    | next => exact False.elim hq'
    | brk => exact False.elim hq'
    | cont => exact False.elim hq'
theorem new_in {Q : VK} {H : Hp} {c : Nat} {η : Zs} {S : Sto} {ws : List W} {vs : List V} (sr : SR X.K ca η H S) (r : RWs X.K η H vs ws) (h : post (newW c m ws S) (qW X.K ca η H Q)) (y dx : Addr) (hx : H y = none) (hd : H dx = none) (ne : dx ≠ y) :
    ∃ η S ws, SR X.K ca η (upd (upd H dx (.own y)) y (.ins (ca c) dx [])) S ∧ RWs X.K η (upd (upd H dx (.own y)) y (.ins (ca c) dx [])) (.ref y :: vs) ws ∧
      post (m ws S) (qW X.K ca η (upd (upd H dx (.own y)) y (.ins (ca c) dx [])) fun v H2 => v = .non ∧ Q (.ref y) H2) := by
  have g1 := grow_new (o := .own y) sr hd
  have sr1 := sr.new (o := .own y) hd
  have hx1 : (upd H dx (.own y)) y = none := by rw [upd_ne fun z => ne z.symm]; exact hx
  have g2 := grow_alloc (o := .ins (ca c) dx []) sr1 hx1
  have sr2 := sr1.alloc (o := .ins c []) (ho := .ins (ca c) dx []) hx1 ⟨dx, [], upd_same, .nil⟩
  have g := g1.trans g2
  have at' : (η.add y).l[S.length]? = some y := by
    show (η.l ++ [y])[S.length]? = some y
    rw [← sr.len, List.getElem?_append_right (Nat.le_refl _), Nat.sub_self]
    rfl
  refine ⟨η.add y, S ++ [.ins c []], .r S.length :: ws, sr2, .cons (.r at') (r.grow g), ?_⟩
  unfold newW at h
  cases e : m (.r S.length :: ws) (S ++ [.ins c []]) with
  | none => rw [e] at h; exact h.elim
  | some z =>
    rw [e] at h
    cases z with
    | ex _ _ => exact h.elim
    | ok w S3 =>
      cases w with
      | r _ => exact h.elim
      | d z =>
        cases z with
        | none =>
          have h : qW X.K ca η H Q (.r S.length) S3 := h
          show qW X.K ca _ _ _ (.d .none) S3
          intro v H' η' g' sr' rv
          cases rv with
          | d rv => cases rv; exact ⟨rfl, h (.ref y) H' η' (g.trans g') sr' (.r (g'.at at'))⟩
        | _ => exact h.elim
theorem r_new (ck : Ck X) {k j : Nat} (room : Room k X.A) (c : Nat) (C : Mn X.prog X.w X.K X.mg X.base ca j c x m) (ha : PA X (e :: es) (tA X.K ca ms)) (hk : j + 1 ≤ k := by decide) (hg : Gl X x := by rfl) (hdb : (x == ("__debug__" : Str)) = false := by decide)
    (he : starEach (e :: es) X.env = (false, eval e X.env) :: starEach es X.env := by rfl) (hpl : (backTo pos (starEach es X.env)).any (·.1) = false := by rfl) : PE X (.Call (.Name x p) (e :: es) [] pos) (tE X.K ca (newM c m ms)) := by
  obtain ⟨f, fd, ps, G, M, hm, bd⟩ := C.ex
  refine ⟨fun pins s σ H Q I q => ?_⟩
  obtain ⟨ρ, S, η, er, sr, q⟩ := q
  have q' : tA X.K ca ms σ H fun vs H1 => ∃ η S ws, SR X.K ca η H1 S ∧ RWs X.K η H1 vs ws ∧ post (newW c m ws S) (qW X.K ca η H1 Q) :=
    tA_seq er sr q fun ws S1 vs H1 η1 g er1 sr1 r1 q1 => ⟨η1, S1, ws, sr1, r1, q1.imp fun _ _ z => z.mono g⟩
  refine wpAny_Call_Name_kw (ld_glob I hg hm ?_ hdb)
  refine PySem.W.callWith_K (h₀ := X.base) I.ok.mod.kin M.kp (thn (ha.run pos pins s σ H _ I q') fun us s1 ⟨vs, H1, I1, r, η1, S1, ws, sr1, rr, q1⟩ => ⟨I1.kIn, ?_⟩) he hpl
  exact run_mk ck M G (room.mono hk) bd I1 r fun y dx hx hd ne => new_in sr1 rr q1 y dx hx hd ne
theorem r_new0 (ck : Ck X) {k j : Nat} (room : Room k X.A) (c : Nat) (C : Mn X.prog X.w X.K X.mg X.base ca j c x m) (hk : j + 1 ≤ k := by decide) (hg : Gl X x := by rfl) (hdb : (x == ("__debug__" : Str)) = false := by decide) : PE X (.Call (.Name x p) [] [] pos) (tE X.K ca (newM c m nilM)) := by
  obtain ⟨f, fd, ps, G, M, hm, bd⟩ := C.ex
  refine ⟨fun pins s σ H Q I q => ?_⟩
  obtain ⟨ρ, S, η, er, sr, q⟩ := q
  refine wpAny_Call_Name_kw (ld_glob I hg hm ?_ hdb)
  refine PySem.W.callWith_K0 I.kIn M.kp (run_mk (us := []) (vs := []) ck M G (room.mono hk) bd I .nil fun y dx hx hd ne => new_in sr .nil q y dx hx hd ne)
end
/-- the goal that the head leaves, with classes -/
theorem end_of2 {l : PySem.W.OpenLaw} {n k : Nat} {q : Program} {loose : List Str} {XP : (Str → Option Value) → Heap → Prop} {YP : World → Heap → Prop} {d : DefRec} {K : Params → PySem.W.Frag} {x : Str} {m : List W → M W}
    (hn : l.most = some n) (hn2 : n ≤ sizeLine) (hdf : d.params.defaults = []) (room : Room k callerA) (hY : ∀ (w : World) (h : Heap), YP w h → (K w.params).In h)
    (F : ∀ (w : World) (mg : Str → Option Value) (fa : Addr) (h : Heap), (K w.params).In h → h.Ns mainGlobals mg → mg d.name = some (.ref fa) →
      ∃ (ca : Nat → Addr) (fd : FuncData), (∀ (s : Shared) (u : Value), BindsTo s fd ⟨[u], []⟩ [(x, u)]) ∧ ∀ base : Heap, (K w.params).In base → base.Ns mainGlobals mg → Gn l.prog w (K w.params) mg base ca k fa fd [x] m)
    (hm : ∀ ns : List Int, ns.length ≤ n → ∃ S, m [.d (.list (ns.map .int))] [] = some (.ok (.d (.bool true)) S)) :
    PySem.W.WalkO q loose XP YP l.row.toRowW d [] (fun f vs => PySem.call f vs) := by
  refine Att.attach_call hn hdf fun w s₀ s mg mb fa o pm cd doc a vs ns G Y ho hd hcd hmg hobj hints hlen hg => ?_
  have inK := hY w _ Y
  obtain ⟨ca, fd, bd, hF⟩ := F w mg fa _ inK G.T.g hmg
  exact told inK G.T.g G.T.b G.T.builtins G.T.nolimit hg hobj hints (Nat.le_trans hlen hn2) room hF bd (hm ns hlen)
end MP

/-! index, join; a row some times over. -/
namespace MP
open PySem L2 PySem.Spec PyProof.Rows
/-! ### methods of a text, of a list -/
def meS (m : Str → W → M W) (o a : EM) : EM := fun ρ => bnd (o ρ) fun x => match x with
  | .d (.str z) => bnd (a ρ) fun y => m z y
  | _ => bad
def meL (m : List D → W → M W) (o a : EM) : EM := fun ρ => bnd (o ρ) fun x => match x with
  | .d (.list z) => bnd (a ρ) fun y => m z y
  | _ => bad
def strsD : List D → Option (List Str)
  | [] => some []
  | .str x :: r => (strsD r).map (x :: ·)
  | _ :: _ => none
def sIdx (z : Str) : W → M W
  | .d (.str b) => match Builtin.Str.occurrences z b 0 z.length 1 with
    | i :: _ => ret (.d (.int (i : Nat)))
    | [] => bad
  | _ => bad
def sJoin (z : Str) : W → M W
  | .d (.list ds) => match strsD ds with
    | some ys => if (ys.map (·.length)).sum + ys.length * z.length ≤ SZ then ret (.d (.str (Txt.join z ys))) else bad
    | none => bad
  | _ => bad
def lIdx (ds : List D) : W → M W
  | .d d => if SeqAt.shaped (.list ds) = true ∧ SeqAt.shaped d = true ∧ ds.findIdx (fun z => PyData.eqv z d) < ds.length then ret (.d (.int (ds.findIdx (fun z => PyData.eqv z d) : Nat))) else bad
  | _ => bad
theorem RpAll.strs {K : PySem.W.Frag} {η : Zs} {H : Hp} : ∀ {vs : List V} {ds : List D} {ys : List Str}, RpAll K η H vs ds → strsD ds = some ys → vs = ys.map V.str
  | _, _, _, .nil, e => by cases e; rfl
  | _, _, _, .cons r t, e => by
    cases r with
    | str i =>
      unfold strsD at e
      obtain ⟨m, e1, e2⟩ := Option.map_eq_some_iff.mp e
      subst e2
      rw [RpAll.strs t e1]; rfl
    | _ => cases e
section
variable {X : Cx} {ca : Nat → Addr} {x : Str} {pos p apos : Pos} {mo ma mb : EM} {o a b e : Expr}
theorem e_meS {m : Str → W → M W} {id : String} {name : Str} {r : V → List V → Hp → VK → Prop} (slot : Slot "str" name id) (ty : typeOf (.builtin id) = pure (.type "method_descriptor")) (rule : MtR X id r)
    (hr : ∀ z v y η S H Q, SR X.K ca η H S → RW X.K η H v y → post (m z y S) (qW X.K ca η H Q) → r (.str z) [v] H Q) (ho : PE X o (tE X.K ca mo)) (ha : PE X a (tE X.K ca ma))
    (hs : starEach [a] X.env = [(false, eval a X.env)]) (hbase : attributeBase o name X.env (eval o X.env) = eval o X.env) (hline : (apos.endLine == pos.line) = true) : PE X (.Call (.Attribute o name apos) [a] [] pos) (tE X.K ca (meS m mo ma)) := by
  refine PE.of (pe_m1 slot ty rule ho ha hs hbase hline) fun σ H Q q => ?_
  obtain ⟨ρ, S, η, er, sr, q⟩ := q
  refine tE_seq er sr q fun w S1 v H1 η1 g er1 sr1 r1 q1 => ?_
  cases r1 with
  | r _ => exact q1.elim
  | d r1 => cases r1 with
    | str z =>
      refine ⟨⟨z, rfl⟩, ?_⟩
      have q1 : post (bnd (ma ρ) (fun y => m z y) S1) (qW X.K ca η H Q) := q1
      refine tE_seq er1 sr1 q1 fun y S2 u H2 η2 g2 er2 sr2 r2 q2 => ?_
      exact hr z u y η2 S2 H2 Q sr2 r2 (q2.imp fun _ _ z => z.mono (g.trans g2))
    | _ => exact q1.elim
theorem r_sidx (ho : PE X o (tE X.K ca mo)) (ha : PE X a (tE X.K ca ma)) (hs : starEach [a] X.env = [(false, eval a X.env)] := by rfl) (hbase : attributeBase o "index" X.env (eval o X.env) = eval o X.env := by rfl) (hline : (apos.endLine == pos.line) = true := by rfl) :
    PE X (.Call (.Attribute o "index" apos) [a] [] pos) (tE X.K ca (meS sIdx mo ma)) :=
  e_meS F.slot_str_index F.type_str_index mt_sindex (fun z v y η S H Q sr r h => by
    unfold sIdx at h
    split at h
    · rename_i b
      cases r with
      | d r => cases r with
        | str b =>
          cases e : Builtin.Str.occurrences z b 0 z.length 1 with
          | nil => rw [e] at h; exact h.elim
          | cons i rest => rw [e] at h; exact ⟨z, b, i, rest, rfl, rfl, e, qW.same h sr (.d (.int _))⟩
    · exact h.elim) ho ha hs hbase hline
theorem r_join (ho : PE X o (tE X.K ca mo)) (ha : PE X a (tE X.K ca ma)) (hs : starEach [a] X.env = [(false, eval a X.env)] := by rfl) (hbase : attributeBase o "join" X.env (eval o X.env) = eval o X.env := by rfl) (hline : (apos.endLine == pos.line) = true := by rfl) :
    PE X (.Call (.Attribute o "join" apos) [a] [] pos) (tE X.K ca (meS sJoin mo ma)) :=
  e_meS F.slot_str_join F.type_str_join mt_join (fun z v y η S H Q sr r h => by
    unfold sJoin at h
    split at h
    · rename_i ds
      cases r with
      | d r => cases r with
        | lst at' all =>
          cases e : strsD ds with
          | none => rw [e] at h; exact h.elim
          | some ys =>
            rw [e] at h
            dsimp only at h
            by_cases c : (ys.map (·.length)).sum + ys.length * z.length ≤ SZ
            · rw [if_pos c] at h
              refine ⟨z, _, ys, rfl, rfl, .inl (by rw [← all.strs e]; exact at'.sq), c, qW.same h sr (.d (.str _))⟩
            · rw [if_neg c] at h; exact h.elim
    · exact h.elim) ho ha hs hbase hline
theorem r_lidx (ck : Ck X) (ho : PE X o (tE X.K ca mo)) (ha : PE X a (tE X.K ca ma)) (hs1 : starEach [a] X.env = (false, eval a X.env) :: starEach [] X.env := by rfl)
    (hbase : attributeBase o "index" X.env (eval o X.env) = eval o X.env := by rfl)
    (hfew : ((backTo pos (starEach [a] X.env)).all (fun x => !x.1) && (backToKw pos (keywordEach [] X.env)).all (fun x => x.1.isSome)
      && decide (([a] : List Expr).length + ([] : List Keyword).length + (if ([] : List Keyword).isEmpty then 0 else 1) < 30)) = true := by rfl)
    (hline : (apos.endLine == pos.line) = true := by rfl) (hplain : (backTo pos (starEach [] X.env)).any (·.1) = false := by rfl) :
    PE X (.Call (.Attribute o "index" apos) [a] [] pos) (tE X.K ca (meL lIdx mo ma)) := by
  refine PE.of (pe_bm PySem.F.plainAttrs_list PySem.F.slot_list_index PySem.F.type_list_index (mt_indexD (by have := ck.hu; omega)) ho (a_cons ha a_nil hs1) hbase hfew hline hs1 hplain) fun σ H Q q => ?_
  obtain ⟨ρ, S, η, er, sr, q⟩ := q
  refine tE_seq er sr q fun w S1 v H1 η1 g er1 sr1 r1 q1 => ?_
  cases r1 with
  | r _ => exact q1.elim
  | d r1 => cases r1 with
    | @lst l vs ds at' all =>
      refine ⟨.inl ⟨rfl, vs, at'.sq⟩, ?_⟩
      have q1 : post (bnd (ma ρ) (fun y => lIdx ds y) S1) (qW X.K ca η H Q) := q1
      refine ⟨ρ, S1, η1, er1, sr1, ?_⟩
      show post (bnd (ma ρ) (fun w => bnd (ret []) fun ws => ret (w :: ws)) S1) _
      rw [post_bnd] at q1 ⊢
      refine q1.imp fun y S3 q3 vs2 H2 η2 g2 sr2 r2 => ?_
      cases r2 with
      | cons r2 t =>
        cases t
        unfold lIdx at q3
        split at q3
        · rename_i d
          split at q3
          · rename_i c
            obtain ⟨c1, c2, c3⟩ := c
            cases r2 with
            | d r2 =>
              have hz := List.findIdx_getElem (w := c3)
              refine ⟨_, _, d, ds, _, ds[ds.findIdx (fun z => PyData.eqv z d)], rfl, rfl, Rp.dp _ _ (Rp.grow g2 _ _ (.lst at' all)), Rp.dp _ _ r2, c1, c2, List.getElem?_eq_getElem c3, hz, fun m z' hm hz' => ?_, ?_⟩
              · obtain ⟨hm2, rfl⟩ := List.getElem?_eq_some_iff.mp hz'
                have := List.not_of_lt_findIdx hm
                exact Bool.eq_false_iff.mpr (by simpa using this)
              · have q3 : qW X.K ca η H Q _ S3 := q3
                exact q3 _ H2 η2 (g.trans g2) sr2 (.d (.int _))
          · exact q3.elim
        · exact q3.elim
    | _ => exact q1.elim
/-! ### a row some times over -/
theorem tuple_mul_same (l : Addr) (items : Array Value) (n : Nat) (dd : Option Addr) (sl : Array (Option Value)) (x : Int) (u : Tok) (c0 : (decide (x < -(2 ^ 63)) || decide (x ≥ 2 ^ 63)) = false) (c1 : (items.isEmpty || x == 1) = true) :
    Meets (Builtin.«tuple.__mul__» ⟨[.ref l, .int x u], []⟩) (fun _ R s => s.heap.get? l = some { cls := .type "tuple", dict := dd, data := .seq items n, slots := sl } ∧ R (.ok (.ret (Value.ref l))) { s with heap := s.heap, toks := s.toks }) :=
  .of_wp fun prog w A R s h => by
    obtain ⟨hp, g, d, tk, os⟩ := s
    obtain ⟨hl, h⟩ := h
    have f1 := AutoSeq1.idx_int
    wp_walk using wpAny_loadPart' hl
    repeat (first
      | (refine wpAny_ite_false (decide_eq_false (by rw [c0]; exact Bool.false_ne_true)) ?_; wp_walk using wpAny_loadPart' hl)
      | (refine wpAny_ite_true (decide_eq_true c1) ?_; wp_walk using wpAny_loadPart' hl))
    exact ⟨_, rfl, h⟩
theorem tuple_mul_none (l : Addr) (items : Array Value) (n : Nat) (dd : Option Addr) (sl : Array (Option Value)) (x : Int) (u : Tok) (c0 : (decide (x < -(2 ^ 63)) || decide (x ≥ 2 ^ 63)) = false) (c1 : (items.isEmpty || x == 1) = false) (c2 : (decide (x ≤ 0) || items.isEmpty) = true) :
    Meets (Builtin.«tuple.__mul__» ⟨[.ref l, .int x u], []⟩) (fun _ R s => s.heap.get? l = some { cls := .type "tuple", dict := dd, data := .seq items n, slots := sl } ∧ R (.ok (.ret (Value.ref s.heap.objs.size))) { s with heap := s.heap.push { cls := Value.type "tuple", data := Data.seq #[] }, toks := s.toks }) :=
  .of_wp fun prog w A R s h => by
    obtain ⟨hp, g, d, tk, os⟩ := s
    obtain ⟨hl, h⟩ := h
    have f1 := AutoSeq1.idx_int
    wp_walk using wpAny_loadPart' hl
    repeat (first
      | (refine wpAny_ite_false (decide_eq_false (by rw [c0]; exact Bool.false_ne_true)) ?_; wp_walk using wpAny_loadPart' hl)
      | (refine wpAny_ite_false (decide_eq_false (by rw [c1]; exact Bool.false_ne_true)) ?_; wp_walk using wpAny_loadPart' hl)
      | (refine wpAny_ite_true (decide_eq_true c2) ?_; wp_walk using wpAny_loadPart' hl))
    exact ⟨_, rfl, h⟩
def mulT : W → W → M W
  | .d (.tuple xs), .d (.int k) => if -1000000 ≤ k ∧ k ≤ 1000000 ∧ (xs.length : Int) * k ≤ 1000000 then ret (.d (.tuple (List.replicate k.toNat xs).flatten)) else bad
  | _, _ => bad
def rRepS (K : PySem.W.Frag) : R2 := fun x y H Q => ∃ l k xs, x = .ref l ∧ y = .int k ∧ SqT K H l xs ∧ -1000000 ≤ k ∧ k ≤ 1000000 ∧ (xs = [] ∨ k = 1) ∧ Q (.ref l) H
def rRep0 (K : PySem.W.Frag) : R2 := fun x y H Q => ∃ l k xs, x = .ref l ∧ y = .int k ∧ SqT K H l xs ∧ -1000000 ≤ k ∧ k ≤ 0 ∧ xs ≠ [] ∧ ∀ p, H p = none → Q (.ref p) (upd H p (.tup []))
theorem op_repS : OpR X (binaryOp .Mult) (rRepS X.K) := by
  intro pins s σ H x y v u Q I rx ry h
  obtain ⟨l, k, xs, rfl, rfl, seen, k1, k2, way, q⟩ := h
  cases rx
  obtain ⟨tk, rfl⟩ := ry
  obtain ⟨us, rel, ⟨⟨c, d, e, f⟩, look, hc, n, hd⟩, _⟩ := I.tuple seen
  simp only at hc hd
  subst hc hd
  have d0 : (decide (k < -(2 ^ 63)) || decide (k ≥ 2 ^ 63)) = false := by
    rw [Bool.or_eq_false_iff]
    exact ⟨decide_eq_false (by omega), decide_eq_false (by omega)⟩
  have d1 : (us.toArray.isEmpty || k == 1) = true := by
    rcases way with e | e
    · subst e; cases rel; rfl
    · subst e; simp
  refine wpAny_binaryOp_repeat_ref (T := "tuple") (U := "int") (by decide) ⟨_, look, rfl⟩ (fun s' => typeIs_int s' k tk) noFill_tuple_mul PySem.F.fills_int_mul PySem.F.slot_int_rmul repeat_tuple PySem.F.slot_int_index.lookup ?_
  refine call_meets PySem.F.slot_int_rmul (typeIs_int s k tk) PySem.F.entry_int_rmul (PySem.F.args_int_rmul_2 _ _) (int_rmul_tuple k tk l us.toArray n d f) ⟨look, rfl, ⟨_, look, rfl⟩, ?_⟩
  refine call_meets PySem.F.slot_tuple_mul ⟨_, look, rfl⟩ PySem.F.entry_tuple_mul (PySem.F.args_tuple_mul_2 _ _) (tuple_mul_same l us.toArray n d f k tk d0 d1) ⟨look, ?_⟩
  exact ⟨.ref l, H, I, rfl, q⟩
theorem op_rep0 : OpR X (binaryOp .Mult) (rRep0 X.K) := by
  intro pins s σ H x y v u Q I rx ry h
  obtain ⟨l, k, xs, rfl, rfl, seen, k1, k2, some', q⟩ := h
  cases rx
  obtain ⟨tk, rfl⟩ := ry
  obtain ⟨us, rel, ⟨⟨c, d, e, f⟩, look, hc, n, hd⟩, _⟩ := I.tuple seen
  simp only at hc hd
  subst hc hd
  have d0 : (decide (k < -(2 ^ 63)) || decide (k ≥ 2 ^ 63)) = false := by
    rw [Bool.or_eq_false_iff]
    exact ⟨decide_eq_false (by omega), decide_eq_false (by omega)⟩
  have notE : us.toArray.isEmpty = false := by
    cases us with
    | nil => cases rel; exact absurd rfl some'
    | cons _ _ => rfl
  have d1 : (us.toArray.isEmpty || k == 1) = false := by
    rw [notE]
    exact beq_eq_false_iff_ne.mpr (by omega)
  have d2 : (decide (k ≤ 0) || us.toArray.isEmpty) = true := by
    rw [decide_eq_true k2]; rfl
  refine wpAny_binaryOp_repeat_ref (T := "tuple") (U := "int") (by decide) ⟨_, look, rfl⟩ (fun s' => typeIs_int s' k tk) noFill_tuple_mul PySem.F.fills_int_mul PySem.F.slot_int_rmul repeat_tuple PySem.F.slot_int_index.lookup ?_
  refine call_meets PySem.F.slot_int_rmul (typeIs_int s k tk) PySem.F.entry_int_rmul (PySem.F.args_int_rmul_2 _ _) (int_rmul_tuple k tk l us.toArray n d f) ⟨look, rfl, ⟨_, look, rfl⟩, ?_⟩
  refine call_meets PySem.F.slot_tuple_mul ⟨_, look, rfl⟩ PySem.F.entry_tuple_mul (PySem.F.args_tuple_mul_2 _ _) (tuple_mul_none l us.toArray n d f k tk d0 d1 d2) ⟨look, ?_⟩
  refine ⟨.ref s.heap.objs.size, _, I.laid (t' := s.toks) (o := .tup []) (fun b ob z => Heap.get?_push_of_some _ z) (Nat.le_refl _) ?_, rfl, q _ (I.hok.fresh (Nat.le_refl _))⟩
  exact ⟨Nat.zero_le _, [], .nil, IsTup.new _ _⟩
theorem mul_t : OpR X (binaryOp .Mult) (rW2 X.K ca mulT) := by
  refine OpR.of (OpR.or op_repN (OpR.or op_repS op_rep0)) fun x y H Q h => ?_
  obtain ⟨η, S, w1, w2, sr, r1, r2, h⟩ := h
  unfold mulT at h
  split at h
  · rename_i xs k
    split at h
    · rename_i c
      obtain ⟨c1, c2, c3⟩ := c
      have h : qW X.K ca η H Q (.d (.tuple (List.replicate k.toNat xs).flatten)) S := h
      cases r1 with
      | d r1 => cases r1 with
        | @tup l vs _ a1 b1 => cases r2 with
          | d r2 => cases r2 with
            | int k =>
              by_cases e0 : xs = []
              · subst e0
                cases b1
                rw [show (List.replicate k.toNat ([] : List D)).flatten = [] from by simp] at h
                exact .inr (.inl ⟨_, k, _, rfl, rfl, a1.sq, c1, c2, .inl rfl, h.same sr (.d (.tup a1 .nil))⟩)
              · have e1 : vs ≠ [] := fun z => e0 (by subst z; cases b1; rfl)
                by_cases k1 : k = 1
                · subst k1
                  rw [show (List.replicate (1 : Int).toNat xs).flatten = xs from by simp] at h
                  exact .inr (.inl ⟨_, 1, _, rfl, rfl, a1.sq, c1, c2, .inr rfl, h.same sr (.d (.tup a1 b1))⟩)
                · by_cases k0 : k ≤ 0
                  · rw [show (List.replicate k.toNat xs).flatten = [] from by rw [Int.toNat_of_nonpos k0]; rfl] at h
                    exact .inr (.inr ⟨_, k, _, rfl, rfl, a1.sq, c1, k0, e1, fun p hp => h.tup sr .nil hp⟩)
                  · exact .inl ⟨_, k, _, rfl, rfl, a1.sq, e1, by omega, by rw [b1.length]; exact c3, fun p hp => h.tup sr (b1.rep _) hp⟩
    · exact h.elim
  · exact h.elim
theorem list_mulW (l : Addr) (items : Array Value) (n : Nat) (dd : Option Addr) (sl : Array (Option Value)) (x : Int) (u : Tok) (hc0 : ¬(!Builtin.List.listFitsIndex x) = true) (hc1 : ¬items.size * x.toNat > (2 ^ 63 - 1) / 8) (hc2 : ¬Builtin.List.listTooLong (items.size * x.toNat) = true) :
    Meets (Builtin.«list.__mul__» ⟨[.ref l, .int x u], []⟩) (fun _ R s => s.heap.get? l = some { cls := .type "list", dict := dd, data := .seq items n, slots := sl } ∧ R (.ok (.ret (Value.ref s.heap.objs.size))) { s with heap := s.heap.push { cls := Value.type "list", data := Data.seq (List.foldl (fun x1 x2 => x1 ++ x2) #[] (List.replicate (if items.isEmpty = true then 0 else x.toNat) items)) }, toks := s.toks }) :=
  .of_wp fun prog w A R s h => by
    obtain ⟨hp, g, d, tk, os⟩ := s; obtain ⟨hl, h⟩ := h
    have hsz := AutoListH.joined_fits hc2
    wp_walk using wpAny_loadPart' hl
    refine wpAny_ite_false (decide_eq_false (Nat.not_lt.mpr hsz)) ?_
    wp_walk using wpAny_loadPart' hl
    exact ⟨_, rfl, h⟩
theorem int_rmul_list (a : Int) (t : Tok) (l : Addr) (items : Array Value) (n : Nat) (dd : Option Addr) (sl : Array (Option Value)) :
    Meets (Builtin.«int.__rmul__» ⟨[.int a t, .ref l], []⟩) (fun _ R s => s.heap.get? l = some { cls := .type "list", dict := dd, data := .seq items n, slots := sl } ∧ R (.ok (.ret Value.notImplemented)) s) :=
  .of_wp fun prog w A R s h => by obtain ⟨hp, g, d, tk, os⟩ := s; obtain ⟨hl, h⟩ := h; wp_walk using wpAny_loadPart' hl; exact ⟨_, rfl, h⟩
def rRepL (K : PySem.W.Frag) : R2 := fun x y H Q => ∃ l k xs, x = .ref l ∧ y = .int k ∧ SqL K H l xs ∧ -1000000 ≤ k ∧ k ≤ 1000000 ∧ xs.length * k.toNat ≤ sizeLine ∧ ∀ p, H p = none → Q (.ref p) (upd H p (.lst (List.replicate k.toNat xs).flatten))
theorem op_repL : OpR X (binaryOp .Mult) (rRepL X.K) := by
  intro pins s σ H x y v u Q I rx ry h
  obtain ⟨l, k, xs, rfl, rfl, hs, h1, h2, hz, q⟩ := h
  cases rx
  obtain ⟨t, rfl⟩ := ry
  obtain ⟨its, r, ⟨⟨cls, dd, data, sls⟩, n, e, hc, hdn, hdt⟩, hlen0⟩ := I.list hs
  simp only at hc hdt
  subst hc hdt
  have hl := r.length
  have hlen : its.toArray.size * k.toNat ≤ sizeLine := by rw [List.size_toArray, ← hl]; exact hz
  have hcap : ¬ its.toArray.size * k.toNat > (2 ^ 63 - 1) / 8 := by
    have : (sizeLine : Nat) ≤ (2 ^ 63 - 1) / 8 := by decide
    omega
  have hfit : ¬ (!Builtin.List.listFitsIndex k) = true := by
    rw [fitsIndex_both (by omega) (by omega)]
    exact Bool.false_ne_true
  have hlong : ¬ Builtin.List.listTooLong (its.toArray.size * k.toNat) = true := by
    rw [notLongL hlen]
    exact Bool.false_ne_true
  have hnew : List.foldl (fun x1 x2 => x1 ++ x2) #[] (List.replicate (if its.toArray.isEmpty = true then 0 else k.toNat) its.toArray) = (List.replicate k.toNat its).flatten.toArray := by
    have f0 : ∀ m : Nat, List.foldl (fun x1 x2 => x1 ++ x2) #[] (List.replicate m its.toArray) = (List.replicate m its).flatten.toArray := fun m => by
      have := foldl_rep its m []
      rw [List.nil_append] at this
      exact this
    rw [f0]
    cases its with
    | nil => simp
    | cons a r' => rw [if_neg (by simp)]
  refine wpAny_binaryOp_repeat_ref (T := "list") (U := "int") (by decide) ⟨_, e, rfl⟩ (fun s' => typeIs_int s' k t) noFill_list_mul F.fills_int_mul F.slot_int_rmul repeat_list F.slot_int_index.lookup
    (call_meets F.slot_int_rmul (typeIs_int s k t) F.entry_int_rmul (F.args_int_rmul_2 _ _) (int_rmul_list k t l its.toArray n dd sls)
      ⟨e, rfl, ⟨_, e, rfl⟩, call_meets F.slot_list_mul ⟨_, e, rfl⟩ F.entry_list_mul (F.args_list_mul_2 _ _) (list_mulW l its.toArray n dd sls k t hfit hcap hlong) ⟨e, ?_⟩⟩)
  rw [hnew]
  exact ⟨.ref _, _, I.lnew (t' := s.toks) (r.rep k.toNat) (by rw [PyProof.Rows.lm_len_rep_flat, Nat.mul_comm]; exact hz), rfl, q _ I.fresh⟩
def mulL : W → W → M W
  | .d (.list xs), .d (.int k) => if -1000000 ≤ k ∧ k ≤ 1000000 ∧ xs.length * k.toNat ≤ SZ then ret (.d (.list (List.replicate k.toNat xs).flatten)) else bad
  | _, _ => bad
theorem mul_l : OpR X (binaryOp .Mult) (rW2 X.K ca mulL) := by
  refine OpR.of op_repL fun x y H Q h => ?_
  obtain ⟨η, S, w1, w2, sr, r1, r2, h⟩ := h
  unfold mulL at h
  split at h
  · rename_i xs k
    split at h
    · rename_i c
      obtain ⟨c1, c2, c3⟩ := c
      have h : qW X.K ca η H Q (.d (.list (List.replicate k.toNat xs).flatten)) S := h
      cases r1 with
      | d r1 => cases r1 with
        | lst a1 b1 => cases r2 with
          | d r2 => cases r2 with
            | int k => exact ⟨_, k, _, rfl, rfl, a1.sq, c1, c2, szl (by rw [b1.length]; exact c3), fun p hp => h.lst sr (b1.rep _) hp⟩
    · exact h.elim
  · exact h.elim
theorem r_mulT (ha : PE X a (tE X.K ca ma)) (hb : PE X b (tE X.K ca mb)) : PE X (.BinOp a .Mult b pos) (tE X.K ca (op2M mulT ma mb)) := e_op2 (r := fun t _ => t) (fun _ _ h1 h2 => pe_op mul_t h1 h2) ha hb
theorem r_mulL (ha : PE X a (tE X.K ca ma)) (hb : PE X b (tE X.K ca mb)) : PE X (.BinOp a .Mult b pos) (tE X.K ca (op2M mulL ma mb)) := e_op2 (r := fun t _ => t) (fun _ _ h1 h2 => pe_op mul_l h1 h2) ha hb
end
end MP

namespace MP
open PySem L2 PySem.Spec PyProof.Rows
abbrev pgm : Program := PySem.Challenge.pw_lanternserver_k57_whole_chunks
def topS (i : Nat) : Stmt := pgm.main.body.getD i (.Pass ⟨0, 0, 0, 0⟩)
def t_NEXT : List (Key × D) := [((.inr "empty"), (.str "last")), ((.inr "end"), (.str "behind"))]
/-! is_whole: slots 0=value 1=low 2=high -/
def b_is_whole : SM := retM (andM (isiM "int" (vM 0)) (andM (notM (isiM "bool" (vM 0))) (chM .le .le (vM 1) (vM 0) (vM 2))))
def m_is_whole : List W → M W := fnB 3 3 b_is_whole
theorem sc_is_whole : FnScope ["value", "low", "high"] ["value", "low", "high"] (defScope (topS 5)) := ⟨rfl, rfl, rfl, by decide +kernel, rfl, by decide +kernel, by decide +kernel⟩
theorem d_is_whole {P : Program} {w : World} {K : PySem.W.Frag} {mg : Str → Option Value} {base : Heap} {ca : Nat → Addr} {f : Addr} {fd : FuncData} (F : Fun K "is_whole" "is_whole" (topS 5) f fd) (z_isinstance : mg "isinstance" = none) (z_bool : mg "bool" = none) (z_int : mg "int" = none) : Gn P w K mg base ca 1 f fd ["value", "low", "high"] m_is_whole := by
  refine Gn.of F sc_is_whole rfl rfl fun cdv A outer s H room ck => ?_
  have hp : PassesOwn (model (cxF P w K mg base ["value", "low", "high"] "is_whole" (topS 5) f cdv A outer s H).prog (cxF P w K mg base ["value", "low", "high"] "is_whole" (topS 5) f cdv A outer s H).w) (cxF P w K mg base ["value", "low", "high"] "is_whole" (topS 5) f cdv A outer s H).A (cxF P w K mg base ["value", "low", "high"] "is_whole" (topS 5) f cdv A outer s H).env (cxF P w K mg base ["value", "low", "high"] "is_whole" (topS 5) f cdv A outer s H).xe := PassesOwn.never
  unfold b_is_whole
  exact z_one (z_ret (r_and (r_isi z_isinstance z_int (r_v 0)) (r_and (r_not (r_isi z_isinstance z_bool (r_v 0))) (r_b1 (r_ch ck rfl rfl (r_v 1) (r_v 0) (r_v 2))))))
/-! is_tuple_of: slots 0=value 1=low 2=high -/
def b_is_tuple_of : SM := retM (andM (isiM "tuple" (vM 0)) (chM .le .le (vM 1) (biM .len (consM (vM 0) (nilM))) (vM 2)))
def m_is_tuple_of : List W → M W := fnB 3 3 b_is_tuple_of
theorem sc_is_tuple_of : FnScope ["value", "low", "high"] ["value", "low", "high"] (defScope (topS 6)) := ⟨rfl, rfl, rfl, by decide +kernel, rfl, by decide +kernel, by decide +kernel⟩
theorem d_is_tuple_of {P : Program} {w : World} {K : PySem.W.Frag} {mg : Str → Option Value} {base : Heap} {ca : Nat → Addr} {f : Addr} {fd : FuncData} (F : Fun K "is_tuple_of" "is_tuple_of" (topS 6) f fd) (z_len : mg "len" = none) (z_isinstance : mg "isinstance" = none) (z_tuple : mg "tuple" = none) : Gn P w K mg base ca 1 f fd ["value", "low", "high"] m_is_tuple_of := by
  refine Gn.of F sc_is_tuple_of rfl rfl fun cdv A outer s H room ck => ?_
  have hp : PassesOwn (model (cxF P w K mg base ["value", "low", "high"] "is_tuple_of" (topS 6) f cdv A outer s H).prog (cxF P w K mg base ["value", "low", "high"] "is_tuple_of" (topS 6) f cdv A outer s H).w) (cxF P w K mg base ["value", "low", "high"] "is_tuple_of" (topS 6) f cdv A outer s H).A (cxF P w K mg base ["value", "low", "high"] "is_tuple_of" (topS 6) f cdv A outer s H).env (cxF P w K mg base ["value", "low", "high"] "is_tuple_of" (topS 6) f cdv A outer s H).xe := PassesOwn.never
  unfold b_is_tuple_of
  exact z_one (z_ret (r_and (r_isi z_isinstance z_tuple (r_v 0)) (r_b1 (r_ch ck rfl rfl (r_v 1) (r_biB b1_len z_len (r_cons (r_v 0) (r_nil))) (r_v 2)))))
/-! text_octets: slots 0=text 1=sign -/
def b_text_octets : SM := retM (biM .tuple (consM (lcE (seqI (vM 0)) (.nm 1) [1] (yesM) (biM .ord (consM (vM 1) (nilM)))) (nilM)))
def m_text_octets : List W → M W := fnB 1 2 b_text_octets
theorem sc_text_octets : FnScope ["text", "sign"] ["text"] (defScope (topS 10)) := ⟨rfl, rfl, rfl, by decide +kernel, rfl, by decide +kernel, by decide +kernel⟩
theorem d_text_octets {P : Program} {w : World} {K : PySem.W.Frag} {mg : Str → Option Value} {base : Heap} {ca : Nat → Addr} {f : Addr} {fd : FuncData} (F : Fun K "text_octets" "text_octets" (topS 10) f fd) (z_ord : mg "ord" = none) (z_tuple : mg "tuple" = none) : Gn P w K mg base ca 1 f fd ["text"] m_text_octets := by
  refine Gn.of F sc_text_octets rfl rfl fun cdv A outer s H room ck => ?_
  have hp : PassesOwn (model (cxF P w K mg base ["text", "sign"] "text_octets" (topS 10) f cdv A outer s H).prog (cxF P w K mg base ["text", "sign"] "text_octets" (topS 10) f cdv A outer s H).w) (cxF P w K mg base ["text", "sign"] "text_octets" (topS 10) f cdv A outer s H).A (cxF P w K mg base ["text", "sign"] "text_octets" (topS 10) f cdv A outer s H).env (cxF P w K mg base ["text", "sign"] "text_octets" (topS 10) f cdv A outer s H).xe := PassesOwn.never
  unfold b_text_octets
  exact z_one (z_ret (r_biT b1_tuple z_tuple (r_cons (r_lc ck [("sign", 1)] (q_seq (r_v 0)) (fun _ _ _ _ _ => x_nm ck.blk 1) (fun _ _ _ _ _ => c_nil) (fun _ _ _ _ _ => r_biB b1_ord z_ord (r_cons (r_v 1) (r_nil)))) (r_nil))))
/-! worth_of: slots 0=octet -/
def b_worth_of : SM := sq (ifM (chM .le .le (kM (.int 48)) (vM 0) (kM (.int 57))) (retM (binM .sub (vM 0) (kM (.int 48)))) (skM)) (sq (ifM (chM .le .le (kM (.int 65)) (vM 0) (kM (.int 70))) (retM (binM .sub (vM 0) (kM (.int 55)))) (skM)) (retM (iteM (chM .le .le (kM (.int 97)) (vM 0) (kM (.int 102))) (binM .sub (vM 0) (kM (.int 87))) (kM .none))))
def m_worth_of : List W → M W := fnB 1 1 b_worth_of
theorem sc_worth_of : FnScope ["octet"] ["octet"] (defScope (topS 19)) := ⟨rfl, rfl, rfl, by decide +kernel, rfl, by decide +kernel, by decide +kernel⟩
theorem d_worth_of {P : Program} {w : World} {K : PySem.W.Frag} {mg : Str → Option Value} {base : Heap} {ca : Nat → Addr} {f : Addr} {fd : FuncData} (F : Fun K "worth_of" "worth_of" (topS 19) f fd)  : Gn P w K mg base ca 1 f fd ["octet"] m_worth_of := by
  refine Gn.of F sc_worth_of rfl rfl fun cdv A outer s H room ck => ?_
  have hp : PassesOwn (model (cxF P w K mg base ["octet"] "worth_of" (topS 19) f cdv A outer s H).prog (cxF P w K mg base ["octet"] "worth_of" (topS 19) f cdv A outer s H).w) (cxF P w K mg base ["octet"] "worth_of" (topS 19) f cdv A outer s H).A (cxF P w K mg base ["octet"] "worth_of" (topS 19) f cdv A outer s H).env (cxF P w K mg base ["octet"] "worth_of" (topS 19) f cdv A outer s H).xe := PassesOwn.never
  unfold b_worth_of
  exact z_cons (z_if (t_ch ck rfl rfl (r_int) (r_v 0) (r_int)) (z_one (z_ret (r_bin rfl (r_v 0) (r_int)))) (z_nil))
    (z_cons (z_if (t_ch ck rfl rfl (r_int) (r_v 0) (r_int)) (z_one (z_ret (r_bin rfl (r_v 0) (r_int)))) (z_nil))
    (z_one (z_ret (r_ite (t_ch ck rfl rfl (r_int) (r_v 0) (r_int)) (r_bin rfl (r_v 0) (r_int)) (r_non)))))
/-! Chunks___init__: slots 0=self -/
def b_Chunks___init__ : SM := sq (asgX (atT 0 "place" (vM 0)) (kM (.str "size"))) (sq (asgX (atT 0 "digits" (vM 0)) (kM (.int 0))) (sq (asgX (atT 0 "number" (vM 0)) (kM (.int 0))) (sq (asgX (atT 0 "left" (vM 0)) (kM (.int 0))) (asgX (atT 0 "body" (vM 0)) (nlM (nilM))))))
def m_Chunks___init__ : List W → M W := fnB 1 1 b_Chunks___init__
theorem sc_Chunks___init__ : FnScope ["self"] ["self"] (defScope (inClass (topS 20) 0)) := ⟨rfl, rfl, rfl, by decide +kernel, rfl, by decide +kernel, by decide +kernel⟩
theorem d_Chunks___init__ {P : Program} {w : World} {K : PySem.W.Frag} {mg : Str → Option Value} {base : Heap} {ca : Nat → Addr} {f : Addr} {fd : FuncData} (F : Fun K "__init__" "Chunks.__init__" (inClass (topS 20) 0) f fd) (n_Chunks_place : Fa K ca 0 "place") (n_Chunks_digits : Fa K ca 0 "digits") (n_Chunks_number : Fa K ca 0 "number") (n_Chunks_left : Fa K ca 0 "left") (n_Chunks_body : Fa K ca 0 "body") : Gn P w K mg base ca 1 f fd ["self"] m_Chunks___init__ := by
  refine Gn.of F sc_Chunks___init__ rfl rfl fun cdv A outer s H room ck => ?_
  have hp : PassesOwn (model (cxF P w K mg base ["self"] "Chunks.__init__" (inClass (topS 20) 0) f cdv A outer s H).prog (cxF P w K mg base ["self"] "Chunks.__init__" (inClass (topS 20) 0) f cdv A outer s H).w) (cxF P w K mg base ["self"] "Chunks.__init__" (inClass (topS 20) 0) f cdv A outer s H).A (cxF P w K mg base ["self"] "Chunks.__init__" (inClass (topS 20) 0) f cdv A outer s H).env (cxF P w K mg base ["self"] "Chunks.__init__" (inClass (topS 20) 0) f cdv A outer s H).xe := PassesOwn.never
  unfold b_Chunks___init__
  exact z_cons (z_asgX (k_at 0 n_Chunks_place (r_v 0)) (r_str))
    (z_cons (z_asgX (k_at 0 n_Chunks_digits (r_v 0)) (r_int))
    (z_cons (z_asgX (k_at 0 n_Chunks_number (r_v 0)) (r_int))
    (z_cons (z_asgX (k_at 0 n_Chunks_left (r_v 0)) (r_int))
    (z_one (z_asgX (k_at 0 n_Chunks_body (r_v 0)) (r_nl (r_nil)))))))
/-! hex_text: slots 0=number 1=found 2=left -/
def b_hex_text : SM := sq (par2M 1 2 (consM (subM (kM (.str "0123456789abcdef")) (binM .mod (vM 0) (kM (.int 16)))) (consM (binM .fdiv (vM 0) (kM (.int 16))) (nilM)))) (sq (whM (cmpM .gt (vM 2) (kM (.int 0))) (par2M 1 2 (consM (binM .add (subM (kM (.str "0123456789abcdef")) (binM .mod (vM 2) (kM (.int 16)))) (vM 1)) (consM (binM .fdiv (vM 2) (kM (.int 16))) (nilM))))) (retM (vM 1)))
def m_hex_text : List W → M W := fnB 1 3 b_hex_text
theorem sc_hex_text : FnScope ["number", "found", "left"] ["number"] (defScope (topS 21)) := ⟨rfl, rfl, rfl, by decide +kernel, rfl, by decide +kernel, by decide +kernel⟩
theorem d_hex_text {P : Program} {w : World} {K : PySem.W.Frag} {mg : Str → Option Value} {base : Heap} {ca : Nat → Addr} {f : Addr} {fd : FuncData} (F : Fun K "hex_text" "hex_text" (topS 21) f fd) (c_HEX : Gc K mg "HEX" (.str "0123456789abcdef")) : Gn P w K mg base ca 1 f fd ["number"] m_hex_text := by
  refine Gn.of F sc_hex_text rfl rfl fun cdv A outer s H room ck => ?_
  have hp : PassesOwn (model (cxF P w K mg base ["number", "found", "left"] "hex_text" (topS 21) f cdv A outer s H).prog (cxF P w K mg base ["number", "found", "left"] "hex_text" (topS 21) f cdv A outer s H).w) (cxF P w K mg base ["number", "found", "left"] "hex_text" (topS 21) f cdv A outer s H).A (cxF P w K mg base ["number", "found", "left"] "hex_text" (topS 21) f cdv A outer s H).env (cxF P w K mg base ["number", "found", "left"] "hex_text" (topS 21) f cdv A outer s H).xe := PassesOwn.never
  unfold b_hex_text
  exact z_cons (z_par2 ck 1 2 (r_cons (r_sub ck (r_gc c_HEX) (r_bin rfl (r_v 0) (r_int))) (r_cons (r_bin rfl (r_v 0) (r_int)) (r_nil))))
    (z_cons (z_wh hp (t_cmp ck rfl (r_v 2) (r_int)) (z_one (z_par2 ck 1 2 (r_cons (r_bin rfl (r_sub ck (r_gc c_HEX) (r_bin rfl (r_v 2) (r_int))) (r_v 1)) (r_cons (r_bin rfl (r_v 2) (r_int)) (r_nil))))))
    (z_one (z_ret (r_v 1))))
/-! _law_cup: slots 0=script 1=cell -/
def b__law_cup : SM := sq (asgM (.nm 1) (biM .abs (consM (subM (binM .add (biM .list (consM (vM 0) (nilM))) (lstM (consM (kM (.int 0)) (nilM)))) (kM (.int 0))) (nilM)))) (retM (nlM (consM (iteM (cmpM .ge (vM 1) (binM .pow (kM (.int 10)) (kM (.int 18)))) (binM .fdiv (vM 1) (kM (.int 97))) (kM (.int 0))) (consM (binM .add (binM .mod (biM .int (consM (binM .add (binM .mul (vM 1) (kM (.int 307))) (kM (.int 2953))) (nilM))) (kM (.int 2077503181))) (kM (.int 191))) (nilM)))))
def m__law_cup : List W → M W := fnB 1 2 b__law_cup
theorem sc__law_cup : FnScope ["script", "cell"] ["script"] (defScope (topS 28)) := ⟨rfl, rfl, rfl, by decide +kernel, rfl, by decide +kernel, by decide +kernel⟩
theorem d__law_cup {P : Program} {w : World} {K : PySem.W.Frag} {mg : Str → Option Value} {base : Heap} {ca : Nat → Addr} {f : Addr} {fd : FuncData} (F : Fun K "_law_cup" "_law_cup" (topS 28) f fd) (z_list : mg "list" = none) (z_abs : mg "abs" = none) (z_int : mg "int" = none) : Gn P w K mg base ca 1 f fd ["script"] m__law_cup := by
  refine Gn.of F sc__law_cup rfl rfl fun cdv A outer s H room ck => ?_
  have hp : PassesOwn (model (cxF P w K mg base ["script", "cell"] "_law_cup" (topS 28) f cdv A outer s H).prog (cxF P w K mg base ["script", "cell"] "_law_cup" (topS 28) f cdv A outer s H).w) (cxF P w K mg base ["script", "cell"] "_law_cup" (topS 28) f cdv A outer s H).A (cxF P w K mg base ["script", "cell"] "_law_cup" (topS 28) f cdv A outer s H).env (cxF P w K mg base ["script", "cell"] "_law_cup" (topS 28) f cdv A outer s H).xe := PassesOwn.never
  unfold b__law_cup
  exact z_cons (z_asg (x_nm ck 1) (r_biB b1_abs z_abs (r_cons (r_sub ck (r_bin rfl (r_biT b1_list z_list (r_cons (r_v 0) (r_nil))) (r_lst (r_cons (r_int) (r_nil)))) (r_int)) (r_nil))))
    (z_one (z_ret (r_nl (r_cons (r_ite (t_cmp ck rfl (r_v 1) (r_bin rfl (r_int) (r_int))) (r_bin rfl (r_v 1) (r_int)) (r_int)) (r_cons (r_bin rfl (r_bin rfl (r_biT b1_int z_int (r_cons (r_bin rfl (r_bin rfl (r_v 1) (r_int)) (r_int)) (r_nil))) (r_int)) (r_int)) (r_nil))))))
/-! _law_roll: slots 0=cup 1=many 2=found 3=deep -/
def b__law_roll : SM := sq (ifM (cmpM .gt (subM (vM 0) (kM (.int 0))) (kM (.int 0))) (sq (asgM (.nm 2) (binM .mod (biM .int (consM (subM (vM 0) (kM (.int 0))) (nilM))) (vM 1))) (sq (setM (vM 0) (kM (.int 0)) (binM .fdiv (subM (vM 0) (kM (.int 0))) (vM 1))) (retM (vM 2)))) (skM)) (sq (setM (vM 0) (kM (.int 1)) (binM .mod (biM .int (consM (binM .add (binM .mul (subM (vM 0) (kM (.int 1))) (kM (.int 31147))) (kM (.int 8101))) (nilM))) (kM (.int 2147483399)))) (sq (asgM (.nm 3) (binM .mod (biM .int (consM (binM .mul (subM (vM 0) (kM (.int 1))) (binM .add (subM (vM 0) (kM (.int 1))) (kM (.int 263)))) (nilM))) (kM (.int 2147483579)))) (retM (binM .mod (biM .int (consM (binM .fdiv (vM 3) (kM (.int 839))) (nilM))) (vM 1)))))
def m__law_roll : List W → M W := fnB 2 4 b__law_roll
theorem sc__law_roll : FnScope ["cup", "many", "found", "deep"] ["cup", "many"] (defScope (topS 29)) := ⟨rfl, rfl, rfl, by decide +kernel, rfl, by decide +kernel, by decide +kernel⟩
theorem d__law_roll {P : Program} {w : World} {K : PySem.W.Frag} {mg : Str → Option Value} {base : Heap} {ca : Nat → Addr} {f : Addr} {fd : FuncData} (F : Fun K "_law_roll" "_law_roll" (topS 29) f fd) (z_int : mg "int" = none) : Gn P w K mg base ca 1 f fd ["cup", "many"] m__law_roll := by
  refine Gn.of F sc__law_roll rfl rfl fun cdv A outer s H room ck => ?_
  have hp : PassesOwn (model (cxF P w K mg base ["cup", "many", "found", "deep"] "_law_roll" (topS 29) f cdv A outer s H).prog (cxF P w K mg base ["cup", "many", "found", "deep"] "_law_roll" (topS 29) f cdv A outer s H).w) (cxF P w K mg base ["cup", "many", "found", "deep"] "_law_roll" (topS 29) f cdv A outer s H).A (cxF P w K mg base ["cup", "many", "found", "deep"] "_law_roll" (topS 29) f cdv A outer s H).env (cxF P w K mg base ["cup", "many", "found", "deep"] "_law_roll" (topS 29) f cdv A outer s H).xe := PassesOwn.never
  unfold b__law_roll
  exact z_cons (z_if (t_cmp ck rfl (r_sub ck (r_v 0) (r_int)) (r_int)) (z_cons (z_asg (x_nm ck 2) (r_bin rfl (r_biT b1_int z_int (r_cons (r_sub ck (r_v 0) (r_int)) (r_nil))) (r_v 1)))
    (z_cons (z_set ck (r_v 0) (r_int) (r_bin rfl (r_sub ck (r_v 0) (r_int)) (r_v 1)))
    (z_one (z_ret (r_v 2))))) (z_nil))
    (z_cons (z_set ck (r_v 0) (r_int) (r_bin rfl (r_biT b1_int z_int (r_cons (r_bin rfl (r_bin rfl (r_sub ck (r_v 0) (r_int)) (r_int)) (r_int)) (r_nil))) (r_int)))
    (z_cons (z_asg (x_nm ck 3) (r_bin rfl (r_biT b1_int z_int (r_cons (r_bin rfl (r_sub ck (r_v 0) (r_int)) (r_bin rfl (r_sub ck (r_v 0) (r_int)) (r_int))) (r_nil))) (r_int)))
    (z_one (z_ret (r_bin rfl (r_biT b1_int z_int (r_cons (r_bin rfl (r_v 3) (r_int)) (r_nil))) (r_v 1))))))
/-! _law_text: slots 0=text 1=rows 2=sign 3=first 4=row -/
def b__law_text : SM := sq (asgM (.nm 1) (lstM (consM (tupM (consM (kM (.int 32)) (consM (kM (.str " !\"#$")) (nilM)))) (consM (tupM (consM (kM (.int 38)) (consM (kM (.str "&'()*+,-./0123456789:;<=>?@ABCDEFGHIJKLMNOPQRSTUVWXYZ[")) (nilM)))) (consM (tupM (consM (kM (.int 93)) (consM (kM (.str "]^_`abcdefghijklmnopqrstuvwxyz{|}~")) (nilM)))) (nilM)))))) (retM (biM .tuple (consM (lcE (seqI (vM 0)) (.nm 2) [2] (yesM) (subM (lcE (seqI (vM 1)) (.tup [3, 4]) [3, 4] (tst (cmpM .inn (vM 2) (vM 4))) (binM .add (vM 3) (meS sIdx (vM 4) (vM 2)))) (kM (.int 0)))) (nilM))))
def m__law_text : List W → M W := fnB 1 5 b__law_text
theorem sc__law_text : FnScope ["text", "rows", "sign", "first", "row"] ["text"] (defScope (topS 31)) := ⟨rfl, rfl, rfl, by decide +kernel, rfl, by decide +kernel, by decide +kernel⟩
theorem d__law_text {P : Program} {w : World} {K : PySem.W.Frag} {mg : Str → Option Value} {base : Heap} {ca : Nat → Addr} {f : Addr} {fd : FuncData} (F : Fun K "_law_text" "_law_text" (topS 31) f fd) (z_tuple : mg "tuple" = none) : Gn P w K mg base ca 1 f fd ["text"] m__law_text := by
  refine Gn.of F sc__law_text rfl rfl fun cdv A outer s H room ck => ?_
  have hp : PassesOwn (model (cxF P w K mg base ["text", "rows", "sign", "first", "row"] "_law_text" (topS 31) f cdv A outer s H).prog (cxF P w K mg base ["text", "rows", "sign", "first", "row"] "_law_text" (topS 31) f cdv A outer s H).w) (cxF P w K mg base ["text", "rows", "sign", "first", "row"] "_law_text" (topS 31) f cdv A outer s H).A (cxF P w K mg base ["text", "rows", "sign", "first", "row"] "_law_text" (topS 31) f cdv A outer s H).env (cxF P w K mg base ["text", "rows", "sign", "first", "row"] "_law_text" (topS 31) f cdv A outer s H).xe := PassesOwn.never
  unfold b__law_text
  exact z_cons (z_asg (x_nm ck 1) (r_lst (r_cons (r_tup (r_cons (r_int) (r_cons (r_str) (r_nil)))) (r_cons (r_tup (r_cons (r_int) (r_cons (r_str) (r_nil)))) (r_cons (r_tup (r_cons (r_int) (r_cons (r_str) (r_nil)))) (r_nil))))))
    (z_one (z_ret (r_biT b1_tuple z_tuple (r_cons (r_lc ck [("sign", 2)] (q_seq (r_v 0)) (fun _ _ _ _ _ => x_nm ck.blk 2) (fun _ _ _ _ _ => c_nil) (fun _ _ _ _ _ => r_sub ck.blk (r_lc ck.blk [("first", 3), ("row", 4)] (q_seq (r_v 1)) (fun _ _ _ _ _ => x_tup ck.blk.blk (x_cons ck.blk.blk 3 (x_cons ck.blk.blk 4 (x_nil)))) (fun _ _ _ _ _ => c_one (t_cmp ck.blk.blk rfl (r_v 2) (r_v 4))) (fun _ _ _ _ _ => r_bin rfl (r_v 3) (r_sidx (r_v 4) (r_v 2)))) (r_int))) (r_nil)))))
/-! _law_chunks: slots 0=row 1=body 2=at 3=digits 4=turn 5=run 6=end 7=many 8=octet 9=due 10=place 11=one -/
def b__law_chunks : SM := sq (asgM (.tup [1, 2, 3]) (tupM (consM (tupM (nilM)) (consM (kM (.int 0)) (consM (binM .add (binM .add (lcE (rng1I (consM (kM (.int 10)) (nilM))) (.nm 11) [11] (yesM) (binM .add (kM (.int 48)) (vM 11))) (lcE (rng1I (consM (kM (.int 6)) (nilM))) (.nm 11) [11] (yesM) (binM .add (kM (.int 65)) (vM 11)))) (lcE (rng1I (consM (kM (.int 6)) (nilM))) (.nm 11) [11] (yesM) (binM .add (kM (.int 97)) (vM 11)))) (nilM)))))) (sq (foM (.nm 4) (rng1I (consM (kM (.int 302)) (nilM))) (sq (asgM (.nm 5) (lcE (rng2I (consM (vM 2) (consM (biM .min (consM (binM .add (vM 2) (kM (.int 5))) (consM (biM .len (consM (vM 0) (nilM))) (nilM)))) (nilM)))) (.nm 10) [10] (tst (cmpM .nin (subM (vM 0) (vM 10)) (vM 3))) (vM 10))) (sq (asgM (.nm 6) (iteM (cmpM .ne (vM 5) (lstM (nilM))) (subM (vM 5) (kM (.int 0))) (biM .min (consM (binM .add (vM 2) (kM (.int 5))) (consM (biM .len (consM (vM 0) (nilM))) (nilM)))))) (sq (ifM (cmpM .eq (binM .sub (vM 6) (vM 2)) (kM (.int 5))) (retM (tupM (consM (kM (.str "wrong")) (consM (kM (.int 400)) (consM (binM .add (vM 2) (kM (.int 4))) (nilM)))))) (skM)) (sq (ifM (cmpM .eq (vM 6) (biM .len (consM (vM 0) (nilM)))) (retM (kM .none)) (skM)) (sq (ifM (orM (cmpM .eq (vM 6) (vM 2)) (cmpM .ne (subM (vM 0) (vM 6)) (kM (.int 13)))) (retM (tupM (consM (kM (.str "wrong")) (consM (kM (.int 400)) (consM (vM 6) (nilM)))))) (skM)) (sq (asgM (.nm 7) (kM (.int 0))) (sq (foM (.nm 8) (seqI (slcM (vM 0) (soM (vM 2)) (soM (vM 6)))) (asgM (.nm 7) (binM .add (binM .mul (kM (.int 16)) (vM 7)) (subM (lstM (consM (kM (.int 0)) (consM (kM (.int 1)) (consM (kM (.int 2)) (consM (kM (.int 3)) (consM (kM (.int 4)) (consM (kM (.int 5)) (consM (kM (.int 6)) (consM (kM (.int 7)) (consM (kM (.int 8)) (consM (kM (.int 9)) (consM (kM (.int 10)) (consM (kM (.int 11)) (consM (kM (.int 12)) (consM (kM (.int 13)) (consM (kM (.int 14)) (consM (kM (.int 15)) (consM (kM (.int 10)) (consM (kM (.int 11)) (consM (kM (.int 12)) (consM (kM (.int 13)) (consM (kM (.int 14)) (consM (kM (.int 15)) (nilM)))))))))))))))))))))))) (meL lIdx (vM 3) (vM 8)))))) (sq (ifM (cmpM .gt (binM .add (biM .len (consM (vM 1) (nilM))) (vM 7)) (kM (.int 300))) (retM (tupM (consM (kM (.str "wrong")) (consM (kM (.int 413)) (consM (vM 6) (nilM)))))) (skM)) (sq (asgM (.nm 9) (iteM (cmpM .eq (vM 7) (kM (.int 0))) (lstM (consM (tupM (consM (binM .add (vM 6) (kM (.int 1))) (consM (kM (.int 10)) (nilM)))) (consM (tupM (consM (binM .add (vM 6) (kM (.int 2))) (consM (kM (.int 13)) (nilM)))) (consM (tupM (consM (binM .add (vM 6) (kM (.int 3))) (consM (kM (.int 10)) (nilM)))) (nilM))))) (lstM (consM (tupM (consM (binM .add (vM 6) (kM (.int 1))) (consM (kM (.int 10)) (nilM)))) (consM (tupM (consM (binM .add (binM .add (vM 6) (kM (.int 2))) (vM 7)) (consM (kM (.int 13)) (nilM)))) (consM (tupM (consM (binM .add (binM .add (vM 6) (kM (.int 3))) (vM 7)) (consM (kM (.int 10)) (nilM)))) (nilM))))))) (sq (foM (.tup [10, 8]) (seqI (vM 9)) (sq (ifM (cmpM .ge (vM 10) (biM .len (consM (vM 0) (nilM)))) (retM (kM .none)) (skM)) (ifM (cmpM .ne (subM (vM 0) (vM 10)) (vM 8)) (retM (tupM (consM (kM (.str "wrong")) (consM (kM (.int 400)) (consM (vM 10) (nilM)))))) (skM)))) (sq (ifM (cmpM .eq (vM 7) (kM (.int 0))) (retM (tupM (consM (kM (.str "whole")) (consM (vM 1) (consM (binM .add (vM 6) (kM (.int 4))) (nilM)))))) (skM)) (par2M 1 2 (consM (binM .add (vM 1) (slcM (vM 0) (soM (binM .add (vM 6) (kM (.int 2)))) (soM (binM .add (binM .add (vM 6) (kM (.int 2))) (vM 7))))) (consM (binM .add (binM .add (vM 6) (kM (.int 4))) (vM 7)) (nilM)))))))))))))))) (retM (kM .none)))
def m__law_chunks : List W → M W := fnB 1 12 b__law_chunks
theorem sc__law_chunks : FnScope ["row", "body", "at", "digits", "turn", "run", "end", "many", "octet", "due", "place", "one"] ["row"] (defScope (topS 32)) := ⟨rfl, rfl, rfl, by decide +kernel, rfl, by decide +kernel, by decide +kernel⟩
theorem d__law_chunks {P : Program} {w : World} {K : PySem.W.Frag} {mg : Str → Option Value} {base : Heap} {ca : Nat → Addr} {f : Addr} {fd : FuncData} (F : Fun K "_law_chunks" "_law_chunks" (topS 32) f fd) (z_range : mg "range" = none) (z_len : mg "len" = none) (z_min : mg "min" = none) : Gn P w K mg base ca 1 f fd ["row"] m__law_chunks := by
  refine Gn.of F sc__law_chunks rfl rfl fun cdv A outer s H room ck => ?_
  have hp : PassesOwn (model (cxF P w K mg base ["row", "body", "at", "digits", "turn", "run", "end", "many", "octet", "due", "place", "one"] "_law_chunks" (topS 32) f cdv A outer s H).prog (cxF P w K mg base ["row", "body", "at", "digits", "turn", "run", "end", "many", "octet", "due", "place", "one"] "_law_chunks" (topS 32) f cdv A outer s H).w) (cxF P w K mg base ["row", "body", "at", "digits", "turn", "run", "end", "many", "octet", "due", "place", "one"] "_law_chunks" (topS 32) f cdv A outer s H).A (cxF P w K mg base ["row", "body", "at", "digits", "turn", "run", "end", "many", "octet", "due", "place", "one"] "_law_chunks" (topS 32) f cdv A outer s H).env (cxF P w K mg base ["row", "body", "at", "digits", "turn", "run", "end", "many", "octet", "due", "place", "one"] "_law_chunks" (topS 32) f cdv A outer s H).xe := PassesOwn.never
  unfold b__law_chunks
  exact z_cons (z_asg (x_tup ck (x_cons ck 1 (x_cons ck 2 (x_cons ck 3 (x_nil))))) (r_tup (r_cons (r_tup (r_nil)) (r_cons (r_int) (r_cons (r_bin rfl (r_bin rfl (r_lc ck [("one", 11)] (q_rng1 z_range (r_cons (r_int) (r_nil))) (fun _ _ _ _ _ => x_nm ck.blk 11) (fun _ _ _ _ _ => c_nil) (fun _ _ _ _ _ => r_bin rfl (r_int) (r_v 11))) (r_lc ck [("one", 11)] (q_rng1 z_range (r_cons (r_int) (r_nil))) (fun _ _ _ _ _ => x_nm ck.blk 11) (fun _ _ _ _ _ => c_nil) (fun _ _ _ _ _ => r_bin rfl (r_int) (r_v 11)))) (r_lc ck [("one", 11)] (q_rng1 z_range (r_cons (r_int) (r_nil))) (fun _ _ _ _ _ => x_nm ck.blk 11) (fun _ _ _ _ _ => c_nil) (fun _ _ _ _ _ => r_bin rfl (r_int) (r_v 11)))) (r_nil))))))
    (z_cons (z_for ck hp (q_rng1 z_range (r_cons (r_int) (r_nil))) (x_nm ck 4) (z_cons (s_lc ck 5 [("place", 10)] (q_rng2 z_range (r_cons (r_v 2) (r_cons (r_biB (b1_min ck) z_min (r_cons (r_bin rfl (r_v 2) (r_int)) (r_cons (r_biB b1_len z_len (r_cons (r_v 0) (r_nil))) (r_nil)))) (r_nil)))) (fun _ _ _ _ _ => x_nm ck.blk 10) (fun _ _ _ _ _ => c_one (t_cmp ck.blk rfl (r_sub ck.blk (r_v 0) (r_v 10)) (r_v 3))) (fun _ _ _ _ _ => r_v 10))
    (z_cons (z_asg (x_nm ck 6) (r_ite (t_cmp ck rfl (r_v 5) (r_lst (r_nil))) (r_sub ck (r_v 5) (r_int)) (r_biB (b1_min ck) z_min (r_cons (r_bin rfl (r_v 2) (r_int)) (r_cons (r_biB b1_len z_len (r_cons (r_v 0) (r_nil))) (r_nil))))))
    (z_cons (z_if (t_cmp ck rfl (r_bin rfl (r_v 6) (r_v 2)) (r_int)) (z_one (z_ret (r_tup (r_cons (r_str) (r_cons (r_int) (r_cons (r_bin rfl (r_v 2) (r_int)) (r_nil))))))) (z_nil))
    (z_cons (z_if (t_cmp ck rfl (r_v 6) (r_biB b1_len z_len (r_cons (r_v 0) (r_nil)))) (z_one (z_ret (r_non))) (z_nil))
    (z_cons (z_if (PW.pt (w_or (t_cmp ck rfl (r_v 6) (r_v 2)) (w_or1 (t_cmp ck rfl (r_sub ck (r_v 0) (r_v 6)) (r_int))))) (z_one (z_ret (r_tup (r_cons (r_str) (r_cons (r_int) (r_cons (r_v 6) (r_nil))))))) (z_nil))
    (z_cons (z_asg (x_nm ck 7) (r_int))
    (z_cons (z_for ck hp (q_seq (r_slc (r_v 0) (.inr ⟨_, _, rfl, rfl, r_v 2⟩) (.inr ⟨_, _, rfl, rfl, r_v 6⟩))) (x_nm ck 8) (z_one (z_asg (x_nm ck 7) (r_bin rfl (r_bin rfl (r_int) (r_v 7)) (r_sub ck (r_lst (r_cons (r_int) (r_cons (r_int) (r_cons (r_int) (r_cons (r_int) (r_cons (r_int) (r_cons (r_int) (r_cons (r_int) (r_cons (r_int) (r_cons (r_int) (r_cons (r_int) (r_cons (r_int) (r_cons (r_int) (r_cons (r_int) (r_cons (r_int) (r_cons (r_int) (r_cons (r_int) (r_cons (r_int) (r_cons (r_int) (r_cons (r_int) (r_cons (r_int) (r_cons (r_int) (r_cons (r_int) (r_nil)))))))))))))))))))))))) (r_lidx ck (r_v 3) (r_v 8)))))))
    (z_cons (z_if (t_cmp ck rfl (r_bin rfl (r_biB b1_len z_len (r_cons (r_v 1) (r_nil))) (r_v 7)) (r_int)) (z_one (z_ret (r_tup (r_cons (r_str) (r_cons (r_int) (r_cons (r_v 6) (r_nil))))))) (z_nil))
    (z_cons (z_asg (x_nm ck 9) (r_ite (t_cmp ck rfl (r_v 7) (r_int)) (r_lst (r_cons (r_tup (r_cons (r_bin rfl (r_v 6) (r_int)) (r_cons (r_int) (r_nil)))) (r_cons (r_tup (r_cons (r_bin rfl (r_v 6) (r_int)) (r_cons (r_int) (r_nil)))) (r_cons (r_tup (r_cons (r_bin rfl (r_v 6) (r_int)) (r_cons (r_int) (r_nil)))) (r_nil))))) (r_lst (r_cons (r_tup (r_cons (r_bin rfl (r_v 6) (r_int)) (r_cons (r_int) (r_nil)))) (r_cons (r_tup (r_cons (r_bin rfl (r_bin rfl (r_v 6) (r_int)) (r_v 7)) (r_cons (r_int) (r_nil)))) (r_cons (r_tup (r_cons (r_bin rfl (r_bin rfl (r_v 6) (r_int)) (r_v 7)) (r_cons (r_int) (r_nil)))) (r_nil)))))))
    (z_cons (z_for ck hp (q_seq (r_v 9)) (x_tup ck (x_cons ck 10 (x_cons ck 8 (x_nil)))) (z_cons (z_if (t_cmp ck rfl (r_v 10) (r_biB b1_len z_len (r_cons (r_v 0) (r_nil)))) (z_one (z_ret (r_non))) (z_nil))
    (z_one (z_if (t_cmp ck rfl (r_sub ck (r_v 0) (r_v 10)) (r_v 8)) (z_one (z_ret (r_tup (r_cons (r_str) (r_cons (r_int) (r_cons (r_v 10) (r_nil))))))) (z_nil)))))
    (z_cons (z_if (t_cmp ck rfl (r_v 7) (r_int)) (z_one (z_ret (r_tup (r_cons (r_str) (r_cons (r_v 1) (r_cons (r_bin rfl (r_v 6) (r_int)) (r_nil))))))) (z_nil))
    (z_one (z_par2 ck 1 2 (r_cons (r_bin rfl (r_v 1) (r_slc (r_v 0) (.inr ⟨_, _, rfl, rfl, r_bin rfl (r_v 6) (r_int)⟩) (.inr ⟨_, _, rfl, rfl, r_bin rfl (r_bin rfl (r_v 6) (r_int)) (r_v 7)⟩))) (r_cons (r_bin rfl (r_bin rfl (r_v 6) (r_int)) (r_v 7)) (r_nil)))))))))))))))))
    (z_one (z_ret (r_non))))
/-! are_octets: slots 0=value 1=most 2=octet -/
def b_are_octets : SM := retM (andM (callM m_is_tuple_of (consM (vM 0) (consM (kM (.int 0)) (consM (vM 1) (nilM))))) (biM .all (consM (lcE (seqI (vM 0)) (.nm 2) [2] (yesM) (callM m_is_whole (consM (vM 2) (consM (kM (.int 0)) (consM (kM (.int 255)) (nilM)))))) (nilM))))
def m_are_octets : List W → M W := fnB 2 3 b_are_octets
theorem sc_are_octets : FnScope ["value", "most", "octet"] ["value", "most"] (defScope (topS 8)) := ⟨rfl, rfl, rfl, by decide +kernel, rfl, by decide +kernel, by decide +kernel⟩
theorem d_are_octets {P : Program} {w : World} {K : PySem.W.Frag} {mg : Str → Option Value} {base : Heap} {ca : Nat → Addr} {f : Addr} {fd : FuncData} (F : Fun K "are_octets" "are_octets" (topS 8) f fd) (C_is_whole : Cl P w K mg base ca 1 "is_whole" m_is_whole) (z_all : mg "all" = none) (C_is_tuple_of : Cl P w K mg base ca 1 "is_tuple_of" m_is_tuple_of) : Gn P w K mg base ca 2 f fd ["value", "most"] m_are_octets := by
  refine Gn.of F sc_are_octets rfl rfl fun cdv A outer s H room ck => ?_
  have hp : PassesOwn (model (cxF P w K mg base ["value", "most", "octet"] "are_octets" (topS 8) f cdv A outer s H).prog (cxF P w K mg base ["value", "most", "octet"] "are_octets" (topS 8) f cdv A outer s H).w) (cxF P w K mg base ["value", "most", "octet"] "are_octets" (topS 8) f cdv A outer s H).A (cxF P w K mg base ["value", "most", "octet"] "are_octets" (topS 8) f cdv A outer s H).env (cxF P w K mg base ["value", "most", "octet"] "are_octets" (topS 8) f cdv A outer s H).xe := PassesOwn.never
  unfold b_are_octets
  exact z_one (z_ret (r_and (r_call ck room C_is_tuple_of (r_cons (r_v 0) (r_cons (r_int) (r_cons (r_v 1) (r_nil))))) (r_b1 (r_biB (b1_all ck) z_all (r_cons (r_lc ck [("octet", 2)] (q_seq (r_v 0)) (fun _ _ _ _ _ => x_nm ck.blk 2) (fun _ _ _ _ _ => c_nil) (fun _ _ _ _ _ => r_call ck.blk room C_is_whole (r_cons (r_v 2) (r_cons (r_int) (r_cons (r_int) (r_nil)))))) (r_nil))))))
/-! lines_octets: slots 0=lines 1=line 2=octet -/
def b_lines_octets : SM := retM (biM .tuple (consM (lc2E (seqI (vM 0)) (.nm 1) [1, 2] (yesM) (seqI (binM .add (callM m_text_octets (consM (vM 1) (nilM))) (tupM (consM (kM (.int 13)) (consM (kM (.int 10)) (nilM)))))) (.nm 2) [2] (yesM) (vM 2)) (nilM)))
def m_lines_octets : List W → M W := fnB 1 3 b_lines_octets
theorem sc_lines_octets : FnScope ["lines", "line", "octet"] ["lines"] (defScope (topS 11)) := ⟨rfl, rfl, rfl, by decide +kernel, rfl, by decide +kernel, by decide +kernel⟩
theorem d_lines_octets {P : Program} {w : World} {K : PySem.W.Frag} {mg : Str → Option Value} {base : Heap} {ca : Nat → Addr} {f : Addr} {fd : FuncData} (F : Fun K "lines_octets" "lines_octets" (topS 11) f fd) (C_text_octets : Cl P w K mg base ca 1 "text_octets" m_text_octets) (z_tuple : mg "tuple" = none) : Gn P w K mg base ca 2 f fd ["lines"] m_lines_octets := by
  refine Gn.of F sc_lines_octets rfl rfl fun cdv A outer s H room ck => ?_
  have hp : PassesOwn (model (cxF P w K mg base ["lines", "line", "octet"] "lines_octets" (topS 11) f cdv A outer s H).prog (cxF P w K mg base ["lines", "line", "octet"] "lines_octets" (topS 11) f cdv A outer s H).w) (cxF P w K mg base ["lines", "line", "octet"] "lines_octets" (topS 11) f cdv A outer s H).A (cxF P w K mg base ["lines", "line", "octet"] "lines_octets" (topS 11) f cdv A outer s H).env (cxF P w K mg base ["lines", "line", "octet"] "lines_octets" (topS 11) f cdv A outer s H).xe := PassesOwn.never
  unfold b_lines_octets
  exact z_one (z_ret (r_biT b1_tuple z_tuple (r_cons (r_lc2 ck [("line", 1), ("octet", 2)] [2] (q_seq (r_v 0)) (fun _ _ _ _ _ => x_nm ck.blk 1) (fun _ _ _ _ _ => c_nil) (fun _ _ _ _ _ => q_seq (r_bin rfl (r_call ck.blk room C_text_octets (r_cons (r_v 1) (r_nil))) (r_tup (r_cons (r_int) (r_cons (r_int) (r_nil)))))) (fun _ _ _ _ _ => x_nm ck.blk 2) (fun _ _ _ _ _ => c_nil) (fun _ _ _ _ _ => r_v 2)) (r_nil))))
/-! Chunks_can_stand: slots 0=self 1=octet -/
def b_Chunks_can_stand : SM := sq (ifM (cmpM .eq (attrM 0 "place" (vM 0)) (kM (.str "size"))) (retM (iteM (cmpM .eq (vM 1) (kM (.int 13))) (cmpM .gt (attrM 0 "digits" (vM 0)) (kM (.int 0))) (andM (cmpM .isnn (callM m_worth_of (consM (vM 1) (nilM))) (kM .none)) (cmpM .lt (attrM 0 "digits" (vM 0)) (kM (.int 4)))))) (skM)) (sq (ifM (cmpM .inn (attrM 0 "place" (vM 0)) (tupM (consM (kM (.str "line")) (consM (kM (.str "last")) (consM (kM (.str "behind")) (nilM)))))) (retM (cmpM .eq (vM 1) (kM (.int 10)))) (skM)) (retM (iteM (tinM t_NEXT (attrM 0 "place" (vM 0))) (cmpM .eq (vM 1) (kM (.int 13))) (kM (.bool true)))))
def m_Chunks_can_stand : List W → M W := fnB 2 2 b_Chunks_can_stand
theorem sc_Chunks_can_stand : FnScope ["self", "octet"] ["self", "octet"] (defScope (inClass (topS 20) 1)) := ⟨rfl, rfl, rfl, by decide +kernel, rfl, by decide +kernel, by decide +kernel⟩
theorem d_Chunks_can_stand {P : Program} {w : World} {K : PySem.W.Frag} {mg : Str → Option Value} {base : Heap} {ca : Nat → Addr} {f : Addr} {fd : FuncData} (F : Fun K "can_stand" "Chunks.can_stand" (inClass (topS 20) 1) f fd) (n_Chunks_place : Fa K ca 0 "place") (n_Chunks_digits : Fa K ca 0 "digits") (c_DIGITS : Gc K mg "DIGITS" (.int 4)) (C_worth_of : Cl P w K mg base ca 1 "worth_of" m_worth_of) (c_NEXT : Gd K w mg "NEXT" t_NEXT) : Gn P w K mg base ca 2 f fd ["self", "octet"] m_Chunks_can_stand := by
  refine Gn.of F sc_Chunks_can_stand rfl rfl fun cdv A outer s H room ck => ?_
  have hp : PassesOwn (model (cxF P w K mg base ["self", "octet"] "Chunks.can_stand" (inClass (topS 20) 1) f cdv A outer s H).prog (cxF P w K mg base ["self", "octet"] "Chunks.can_stand" (inClass (topS 20) 1) f cdv A outer s H).w) (cxF P w K mg base ["self", "octet"] "Chunks.can_stand" (inClass (topS 20) 1) f cdv A outer s H).A (cxF P w K mg base ["self", "octet"] "Chunks.can_stand" (inClass (topS 20) 1) f cdv A outer s H).env (cxF P w K mg base ["self", "octet"] "Chunks.can_stand" (inClass (topS 20) 1) f cdv A outer s H).xe := PassesOwn.never
  unfold b_Chunks_can_stand
  exact z_cons (z_if (t_cmp ck rfl (r_attr 0 n_Chunks_place (r_v 0)) (r_str)) (z_one (z_ret (r_ite (t_cmp ck rfl (r_v 1) (r_int)) (r_cmp ck rfl (r_attr 0 n_Chunks_digits (r_v 0)) (r_int)) (r_and (r_cmp ck rfl (r_call ck room C_worth_of (r_cons (r_v 1) (r_nil))) (r_non)) (r_b1 (r_cmp ck rfl (r_attr 0 n_Chunks_digits (r_v 0)) (r_gc c_DIGITS))))))) (z_nil))
    (z_cons (z_if (t_cmp ck rfl (r_attr 0 n_Chunks_place (r_v 0)) (r_tup (r_cons (r_str) (r_cons (r_str) (r_cons (r_str) (r_nil)))))) (z_one (z_ret (r_cmp ck rfl (r_v 1) (r_int)))) (z_nil))
    (z_one (z_ret (r_ite (t_tin c_NEXT (r_attr 0 n_Chunks_place (r_v 0))) (r_cmp ck rfl (r_v 1) (r_int)) (r_bl)))))
/-! Chunks_size: slots 0=self 1=octet -/
def b_Chunks_size : SM := ifM (cmpM .eq (vM 1) (kM (.int 13))) (asgX (atT 0 "place" (vM 0)) (kM (.str "line"))) (asgX (tupT 2 (consT (atT 0 "digits" (vM 0)) (consT (atT 0 "number" (vM 0)) (nilT)))) (tupM (consM (binM .add (attrM 0 "digits" (vM 0)) (kM (.int 1))) (consM (binM .add (binM .mul (attrM 0 "number" (vM 0)) (kM (.int 16))) (callM m_worth_of (consM (vM 1) (nilM)))) (nilM)))))
def m_Chunks_size : List W → M W := fnB 2 2 b_Chunks_size
theorem sc_Chunks_size : FnScope ["self", "octet"] ["self", "octet"] (defScope (inClass (topS 20) 4)) := ⟨rfl, rfl, rfl, by decide +kernel, rfl, by decide +kernel, by decide +kernel⟩
theorem d_Chunks_size {P : Program} {w : World} {K : PySem.W.Frag} {mg : Str → Option Value} {base : Heap} {ca : Nat → Addr} {f : Addr} {fd : FuncData} (F : Fun K "size" "Chunks.size" (inClass (topS 20) 4) f fd) (n_Chunks_place : Fa K ca 0 "place") (n_Chunks_number : Fa K ca 0 "number") (n_Chunks_digits : Fa K ca 0 "digits") (C_worth_of : Cl P w K mg base ca 1 "worth_of" m_worth_of) : Gn P w K mg base ca 2 f fd ["self", "octet"] m_Chunks_size := by
  refine Gn.of F sc_Chunks_size rfl rfl fun cdv A outer s H room ck => ?_
  have hp : PassesOwn (model (cxF P w K mg base ["self", "octet"] "Chunks.size" (inClass (topS 20) 4) f cdv A outer s H).prog (cxF P w K mg base ["self", "octet"] "Chunks.size" (inClass (topS 20) 4) f cdv A outer s H).w) (cxF P w K mg base ["self", "octet"] "Chunks.size" (inClass (topS 20) 4) f cdv A outer s H).A (cxF P w K mg base ["self", "octet"] "Chunks.size" (inClass (topS 20) 4) f cdv A outer s H).env (cxF P w K mg base ["self", "octet"] "Chunks.size" (inClass (topS 20) 4) f cdv A outer s H).xe := PassesOwn.never
  unfold b_Chunks_size
  exact z_one (z_if (t_cmp ck rfl (r_v 1) (r_int)) (z_one (z_asgX (k_at 0 n_Chunks_place (r_v 0)) (r_str))) (z_one (z_asgX (k_tup ck (k_cons (k_at 0 n_Chunks_digits (r_v 0)) (k_cons (k_at 0 n_Chunks_number (r_v 0)) (k_nil)))) (r_tup (r_cons (r_bin rfl (r_attr 0 n_Chunks_digits (r_v 0)) (r_int)) (r_cons (r_bin rfl (r_bin rfl (r_attr 0 n_Chunks_number (r_v 0)) (r_int)) (r_call ck room C_worth_of (r_cons (r_v 1) (r_nil)))) (r_nil)))))))
/-! need_sizes: slots 0=value 1=size -/
def b_need_sizes : SM := ifM (orM (notM (callM m_is_tuple_of (consM (vM 0) (consM (kM (.int 0)) (consM (kM (.int 300)) (nilM)))))) (notM (biM .all (consM (lcE (seqI (vM 0)) (.nm 1) [1] (yesM) (callM m_is_whole (consM (vM 1) (consM (kM (.int 1)) (consM (kM (.int 300)) (nilM)))))) (nilM))))) (badM) (skM)
def m_need_sizes : List W → M W := fnB 1 2 b_need_sizes
theorem sc_need_sizes : FnScope ["value", "size"] ["value"] (defScope (topS 22)) := ⟨rfl, rfl, rfl, by decide +kernel, rfl, by decide +kernel, by decide +kernel⟩
theorem d_need_sizes {P : Program} {w : World} {K : PySem.W.Frag} {mg : Str → Option Value} {base : Heap} {ca : Nat → Addr} {f : Addr} {fd : FuncData} (F : Fun K "need_sizes" "need_sizes" (topS 22) f fd) (C_is_whole : Cl P w K mg base ca 1 "is_whole" m_is_whole) (c_BODY : Gc K mg "BODY" (.int 300)) (z_all : mg "all" = none) (C_is_tuple_of : Cl P w K mg base ca 1 "is_tuple_of" m_is_tuple_of) (c_SIZES : Gc K mg "SIZES" (.int 300)) : Gn P w K mg base ca 2 f fd ["value"] m_need_sizes := by
  refine Gn.of F sc_need_sizes rfl rfl fun cdv A outer s H room ck => ?_
  have hp : PassesOwn (model (cxF P w K mg base ["value", "size"] "need_sizes" (topS 22) f cdv A outer s H).prog (cxF P w K mg base ["value", "size"] "need_sizes" (topS 22) f cdv A outer s H).w) (cxF P w K mg base ["value", "size"] "need_sizes" (topS 22) f cdv A outer s H).A (cxF P w K mg base ["value", "size"] "need_sizes" (topS 22) f cdv A outer s H).env (cxF P w K mg base ["value", "size"] "need_sizes" (topS 22) f cdv A outer s H).xe := PassesOwn.never
  unfold b_need_sizes
  exact z_one (z_if (PW.pt (w_or (t_not (t_val (r_call ck room C_is_tuple_of (r_cons (r_v 0) (r_cons (r_int) (r_cons (r_gc c_SIZES) (r_nil))))))) (w_or1 (t_not (t_val (r_biB (b1_all ck) z_all (r_cons (r_lc ck [("size", 1)] (q_seq (r_v 0)) (fun _ _ _ _ _ => x_nm ck.blk 1) (fun _ _ _ _ _ => c_nil) (fun _ _ _ _ _ => r_call ck.blk room C_is_whole (r_cons (r_v 1) (r_cons (r_int) (r_cons (r_gc c_BODY) (r_nil)))))) (r_nil)))))))) (z_one (z_bad)) (z_nil))
/-! _law_some: slots 0=cup 1=things -/
def b__law_some : SM := retM (subM (vM 1) (callM m__law_roll (consM (vM 0) (consM (biM .len (consM (vM 1) (nilM))) (nilM)))))
def m__law_some : List W → M W := fnB 2 2 b__law_some
theorem sc__law_some : FnScope ["cup", "things"] ["cup", "things"] (defScope (topS 30)) := ⟨rfl, rfl, rfl, by decide +kernel, rfl, by decide +kernel, by decide +kernel⟩
theorem d__law_some {P : Program} {w : World} {K : PySem.W.Frag} {mg : Str → Option Value} {base : Heap} {ca : Nat → Addr} {f : Addr} {fd : FuncData} (F : Fun K "_law_some" "_law_some" (topS 30) f fd) (C__law_roll : Cl P w K mg base ca 1 "_law_roll" m__law_roll) (z_len : mg "len" = none) : Gn P w K mg base ca 2 f fd ["cup", "things"] m__law_some := by
  refine Gn.of F sc__law_some rfl rfl fun cdv A outer s H room ck => ?_
  have hp : PassesOwn (model (cxF P w K mg base ["cup", "things"] "_law_some" (topS 30) f cdv A outer s H).prog (cxF P w K mg base ["cup", "things"] "_law_some" (topS 30) f cdv A outer s H).w) (cxF P w K mg base ["cup", "things"] "_law_some" (topS 30) f cdv A outer s H).A (cxF P w K mg base ["cup", "things"] "_law_some" (topS 30) f cdv A outer s H).env (cxF P w K mg base ["cup", "things"] "_law_some" (topS 30) f cdv A outer s H).xe := PassesOwn.never
  unfold b__law_some
  exact z_one (z_ret (r_sub ck (r_v 1) (r_call ck room C__law_roll (r_cons (r_v 0) (r_cons (r_biB b1_len z_len (r_cons (r_v 1) (r_nil))) (r_nil))))))
/-! _law_hex: slots 0=number 1=digits 2=row 3=one -/
def b__law_hex : SM := sq (asgM (.nm 1) (kM (.str "0123456789abcdef"))) (sq (asgM (.nm 2) (lstM (consM (binM .fdiv (vM 0) (kM (.int 256))) (consM (binM .mod (biM .int (consM (binM .fdiv (vM 0) (kM (.int 16))) (nilM))) (kM (.int 16))) (consM (binM .mod (biM .int (consM (vM 0) (nilM))) (kM (.int 16))) (nilM)))))) (sq (whM (cmpM .eq (subM (vM 2) (kM (.int 0))) (kM (.int 0))) (asgM (.nm 2) (slcM (vM 2) (soM (kM (.int 1))) (noM)))) (retM (callM m__law_text (consM (meS sJoin (kM (.str "")) (lcE (seqI (vM 2)) (.nm 3) [3] (yesM) (subM (vM 1) (vM 3)))) (nilM))))))
def m__law_hex : List W → M W := fnB 1 4 b__law_hex
theorem sc__law_hex : FnScope ["number", "digits", "row", "one"] ["number"] (defScope (topS 35)) := ⟨rfl, rfl, rfl, by decide +kernel, rfl, by decide +kernel, by decide +kernel⟩
theorem d__law_hex {P : Program} {w : World} {K : PySem.W.Frag} {mg : Str → Option Value} {base : Heap} {ca : Nat → Addr} {f : Addr} {fd : FuncData} (F : Fun K "_law_hex" "_law_hex" (topS 35) f fd) (z_int : mg "int" = none) (C__law_text : Cl P w K mg base ca 1 "_law_text" m__law_text) : Gn P w K mg base ca 2 f fd ["number"] m__law_hex := by
  refine Gn.of F sc__law_hex rfl rfl fun cdv A outer s H room ck => ?_
  have hp : PassesOwn (model (cxF P w K mg base ["number", "digits", "row", "one"] "_law_hex" (topS 35) f cdv A outer s H).prog (cxF P w K mg base ["number", "digits", "row", "one"] "_law_hex" (topS 35) f cdv A outer s H).w) (cxF P w K mg base ["number", "digits", "row", "one"] "_law_hex" (topS 35) f cdv A outer s H).A (cxF P w K mg base ["number", "digits", "row", "one"] "_law_hex" (topS 35) f cdv A outer s H).env (cxF P w K mg base ["number", "digits", "row", "one"] "_law_hex" (topS 35) f cdv A outer s H).xe := PassesOwn.never
  unfold b__law_hex
  exact z_cons (z_asg (x_nm ck 1) (r_str))
    (z_cons (z_asg (x_nm ck 2) (r_lst (r_cons (r_bin rfl (r_v 0) (r_int)) (r_cons (r_bin rfl (r_biT b1_int z_int (r_cons (r_bin rfl (r_v 0) (r_int)) (r_nil))) (r_int)) (r_cons (r_bin rfl (r_biT b1_int z_int (r_cons (r_v 0) (r_nil))) (r_int)) (r_nil))))))
    (z_cons (z_wh hp (t_cmp ck rfl (r_sub ck (r_v 2) (r_int)) (r_int)) (z_one (z_asg (x_nm ck 2) (r_slc (r_v 2) (.inr ⟨_, _, rfl, rfl, r_int⟩) (.inl ⟨rfl, rfl⟩)))))
    (z_one (z_ret (r_call ck room C__law_text (r_cons (r_join (r_str) (r_lc ck [("one", 3)] (q_seq (r_v 2)) (fun _ _ _ _ _ => x_nm ck.blk 3) (fun _ _ _ _ _ => c_nil) (fun _ _ _ _ _ => r_sub ck.blk (r_v 1) (r_v 3)))) (r_nil)))))))
/-! need_octets: slots 0=value 1=low 2=high -/
def b_need_octets : SM := ifM (orM (notM (callM m_are_octets (consM (vM 0) (consM (vM 2) (nilM))))) (cmpM .lt (biM .len (consM (vM 0) (nilM))) (vM 1))) (badM) (skM)
def m_need_octets : List W → M W := fnB 3 3 b_need_octets
theorem sc_need_octets : FnScope ["value", "low", "high"] ["value", "low", "high"] (defScope (topS 9)) := ⟨rfl, rfl, rfl, by decide +kernel, rfl, by decide +kernel, by decide +kernel⟩
theorem d_need_octets {P : Program} {w : World} {K : PySem.W.Frag} {mg : Str → Option Value} {base : Heap} {ca : Nat → Addr} {f : Addr} {fd : FuncData} (F : Fun K "need_octets" "need_octets" (topS 9) f fd) (z_len : mg "len" = none) (C_are_octets : Cl P w K mg base ca 2 "are_octets" m_are_octets) : Gn P w K mg base ca 3 f fd ["value", "low", "high"] m_need_octets := by
  refine Gn.of F sc_need_octets rfl rfl fun cdv A outer s H room ck => ?_
  have hp : PassesOwn (model (cxF P w K mg base ["value", "low", "high"] "need_octets" (topS 9) f cdv A outer s H).prog (cxF P w K mg base ["value", "low", "high"] "need_octets" (topS 9) f cdv A outer s H).w) (cxF P w K mg base ["value", "low", "high"] "need_octets" (topS 9) f cdv A outer s H).A (cxF P w K mg base ["value", "low", "high"] "need_octets" (topS 9) f cdv A outer s H).env (cxF P w K mg base ["value", "low", "high"] "need_octets" (topS 9) f cdv A outer s H).xe := PassesOwn.never
  unfold b_need_octets
  exact z_one (z_if (PW.pt (w_or (t_not (t_val (r_call ck room C_are_octets (r_cons (r_v 0) (r_cons (r_v 2) (r_nil)))))) (w_or1 (t_cmp ck rfl (r_biB b1_len z_len (r_cons (r_v 0) (r_nil))) (r_v 1))))) (z_one (z_bad)) (z_nil))
/-! Chunks_fault: slots 0=self 1=octet -/
def b_Chunks_fault : SM := sq (ifM (notM (mcallM 0 "can_stand" m_Chunks_can_stand (vM 0) (consM (vM 1) (nilM)))) (retM (kM (.int 400))) (skM)) (retM (iteM (andM (cmpM .eq (attrM 0 "place" (vM 0)) (kM (.str "size"))) (andM (cmpM .eq (vM 1) (kM (.int 13))) (cmpM .gt (binM .add (biM .len (consM (attrM 0 "body" (vM 0)) (nilM))) (attrM 0 "number" (vM 0))) (kM (.int 300))))) (kM (.int 413)) (kM .none)))
def m_Chunks_fault : List W → M W := fnB 2 2 b_Chunks_fault
theorem sc_Chunks_fault : FnScope ["self", "octet"] ["self", "octet"] (defScope (inClass (topS 20) 2)) := ⟨rfl, rfl, rfl, by decide +kernel, rfl, by decide +kernel, by decide +kernel⟩
theorem d_Chunks_fault {P : Program} {w : World} {K : PySem.W.Frag} {mg : Str → Option Value} {base : Heap} {ca : Nat → Addr} {f : Addr} {fd : FuncData} (F : Fun K "fault" "Chunks.fault" (inClass (topS 20) 2) f fd) (M_Chunks_can_stand : Mt P w K mg base ca 2 0 "can_stand" m_Chunks_can_stand) (n_Chunks_body : Fa K ca 0 "body") (z_len : mg "len" = none) (n_Chunks_number : Fa K ca 0 "number") (c_BODY : Gc K mg "BODY" (.int 300)) (n_Chunks_place : Fa K ca 0 "place") : Gn P w K mg base ca 3 f fd ["self", "octet"] m_Chunks_fault := by
  refine Gn.of F sc_Chunks_fault rfl rfl fun cdv A outer s H room ck => ?_
  have hp : PassesOwn (model (cxF P w K mg base ["self", "octet"] "Chunks.fault" (inClass (topS 20) 2) f cdv A outer s H).prog (cxF P w K mg base ["self", "octet"] "Chunks.fault" (inClass (topS 20) 2) f cdv A outer s H).w) (cxF P w K mg base ["self", "octet"] "Chunks.fault" (inClass (topS 20) 2) f cdv A outer s H).A (cxF P w K mg base ["self", "octet"] "Chunks.fault" (inClass (topS 20) 2) f cdv A outer s H).env (cxF P w K mg base ["self", "octet"] "Chunks.fault" (inClass (topS 20) 2) f cdv A outer s H).xe := PassesOwn.never
  unfold b_Chunks_fault
  exact z_cons (z_if (t_not (t_val (r_mc ck room 0 M_Chunks_can_stand (r_v 0) (r_cons (r_v 1) (r_nil))))) (z_one (z_ret (r_int))) (z_nil))
    (z_one (z_ret (r_ite (PW.pt (w_and (t_cmp ck rfl (r_attr 0 n_Chunks_place (r_v 0)) (r_str)) (w_and (t_cmp ck rfl (r_v 1) (r_int)) (w_and1 (t_cmp ck rfl (r_bin rfl (r_biB b1_len z_len (r_cons (r_attr 0 n_Chunks_body (r_v 0)) (r_nil))) (r_attr 0 n_Chunks_number (r_v 0))) (r_gc c_BODY)))))) (r_int) (r_non))))
/-! Chunks_go_on: slots 0=self 1=octet -/
def b_Chunks_go_on : SM := sq (ifM (cmpM .eq (attrM 0 "place" (vM 0)) (kM (.str "size"))) (exM (mcallM 0 "size" m_Chunks_size (vM 0) (consM (vM 1) (nilM)))) (ifM (cmpM .eq (attrM 0 "place" (vM 0)) (kM (.str "line"))) (asgX (tupT 2 (consT (atT 0 "left" (vM 0)) (consT (atT 0 "place" (vM 0)) (nilT)))) (tupM (consM (attrM 0 "number" (vM 0)) (consM (iteM (cmpM .gt (attrM 0 "number" (vM 0)) (kM (.int 0))) (kM (.str "octets")) (kM (.str "empty"))) (nilM))))) (ifM (cmpM .eq (attrM 0 "place" (vM 0)) (kM (.str "octets"))) (sq (exM (appM (attrM 0 "body" (vM 0)) (vM 1))) (sq (asgX (atT 0 "left" (vM 0)) (binM .sub (attrM 0 "left" (vM 0)) (kM (.int 1)))) (asgX (atT 0 "place" (vM 0)) (iteM (cmpM .gt (attrM 0 "left" (vM 0)) (kM (.int 0))) (kM (.str "octets")) (kM (.str "end")))))) (ifM (cmpM .eq (attrM 0 "place" (vM 0)) (kM (.str "behind"))) (asgX (tupT 3 (consT (atT 0 "place" (vM 0)) (consT (atT 0 "digits" (vM 0)) (consT (atT 0 "number" (vM 0)) (nilT))))) (tupM (consM (kM (.str "size")) (consM (kM (.int 0)) (consM (kM (.int 0)) (nilM)))))) (ifM (cmpM .eq (attrM 0 "place" (vM 0)) (kM (.str "last"))) (retM (kM (.bool true))) (asgX (atT 0 "place" (vM 0)) (tsubM t_NEXT (attrM 0 "place" (vM 0))))))))) (retM (kM (.bool false)))
def m_Chunks_go_on : List W → M W := fnB 2 2 b_Chunks_go_on
theorem sc_Chunks_go_on : FnScope ["self", "octet"] ["self", "octet"] (defScope (inClass (topS 20) 3)) := ⟨rfl, rfl, rfl, by decide +kernel, rfl, by decide +kernel, by decide +kernel⟩
theorem d_Chunks_go_on {P : Program} {w : World} {K : PySem.W.Frag} {mg : Str → Option Value} {base : Heap} {ca : Nat → Addr} {f : Addr} {fd : FuncData} (F : Fun K "go_on" "Chunks.go_on" (inClass (topS 20) 3) f fd) (n_Chunks_place : Fa K ca 0 "place") (M_Chunks_size : Mt P w K mg base ca 2 0 "size" m_Chunks_size) (n_Chunks_left : Fa K ca 0 "left") (n_Chunks_number : Fa K ca 0 "number") (n_Chunks_body : Fa K ca 0 "body") (n_Chunks_digits : Fa K ca 0 "digits") (c_NEXT : Gd K w mg "NEXT" t_NEXT) : Gn P w K mg base ca 3 f fd ["self", "octet"] m_Chunks_go_on := by
  refine Gn.of F sc_Chunks_go_on rfl rfl fun cdv A outer s H room ck => ?_
  have hp : PassesOwn (model (cxF P w K mg base ["self", "octet"] "Chunks.go_on" (inClass (topS 20) 3) f cdv A outer s H).prog (cxF P w K mg base ["self", "octet"] "Chunks.go_on" (inClass (topS 20) 3) f cdv A outer s H).w) (cxF P w K mg base ["self", "octet"] "Chunks.go_on" (inClass (topS 20) 3) f cdv A outer s H).A (cxF P w K mg base ["self", "octet"] "Chunks.go_on" (inClass (topS 20) 3) f cdv A outer s H).env (cxF P w K mg base ["self", "octet"] "Chunks.go_on" (inClass (topS 20) 3) f cdv A outer s H).xe := PassesOwn.never
  unfold b_Chunks_go_on
  exact z_cons (z_if (t_cmp ck rfl (r_attr 0 n_Chunks_place (r_v 0)) (r_str)) (z_one (z_ex (r_mc ck room 0 M_Chunks_size (r_v 0) (r_cons (r_v 1) (r_nil))))) (z_one (z_if (t_cmp ck rfl (r_attr 0 n_Chunks_place (r_v 0)) (r_str)) (z_one (z_asgX (k_tup ck (k_cons (k_at 0 n_Chunks_left (r_v 0)) (k_cons (k_at 0 n_Chunks_place (r_v 0)) (k_nil)))) (r_tup (r_cons (r_attr 0 n_Chunks_number (r_v 0)) (r_cons (r_ite (t_cmp ck rfl (r_attr 0 n_Chunks_number (r_v 0)) (r_int)) (r_str) (r_str)) (r_nil)))))) (z_one (z_if (t_cmp ck rfl (r_attr 0 n_Chunks_place (r_v 0)) (r_str)) (z_cons (z_ex (r_app (r_attr 0 n_Chunks_body (r_v 0)) (r_v 1)))
    (z_cons (z_asgX (k_at 0 n_Chunks_left (r_v 0)) (r_bin rfl (r_attr 0 n_Chunks_left (r_v 0)) (r_int)))
    (z_one (z_asgX (k_at 0 n_Chunks_place (r_v 0)) (r_ite (t_cmp ck rfl (r_attr 0 n_Chunks_left (r_v 0)) (r_int)) (r_str) (r_str)))))) (z_one (z_if (t_cmp ck rfl (r_attr 0 n_Chunks_place (r_v 0)) (r_str)) (z_one (z_asgX (k_tup ck (k_cons (k_at 0 n_Chunks_place (r_v 0)) (k_cons (k_at 0 n_Chunks_digits (r_v 0)) (k_cons (k_at 0 n_Chunks_number (r_v 0)) (k_nil))))) (r_tup (r_cons (r_str) (r_cons (r_int) (r_cons (r_int) (r_nil))))))) (z_one (z_if (t_cmp ck rfl (r_attr 0 n_Chunks_place (r_v 0)) (r_str)) (z_one (z_ret (r_bl))) (z_one (z_asgX (k_at 0 n_Chunks_place (r_v 0)) (r_tsub c_NEXT (r_attr 0 n_Chunks_place (r_v 0))))))))))))))
    (z_one (z_ret (r_bl)))
/-! chunk_of: slots 0=octets -/
def b_chunk_of : SM := retM (binM .add (binM .add (callM m_lines_octets (consM (tupM (consM (callM m_hex_text (consM (biM .len (consM (vM 0) (nilM))) (nilM))) (nilM))) (nilM))) (vM 0)) (tupM (consM (kM (.int 13)) (consM (kM (.int 10)) (nilM)))))
def m_chunk_of : List W → M W := fnB 1 1 b_chunk_of
theorem sc_chunk_of : FnScope ["octets"] ["octets"] (defScope (topS 23)) := ⟨rfl, rfl, rfl, by decide +kernel, rfl, by decide +kernel, by decide +kernel⟩
theorem d_chunk_of {P : Program} {w : World} {K : PySem.W.Frag} {mg : Str → Option Value} {base : Heap} {ca : Nat → Addr} {f : Addr} {fd : FuncData} (F : Fun K "chunk_of" "chunk_of" (topS 23) f fd) (C_lines_octets : Cl P w K mg base ca 2 "lines_octets" m_lines_octets) (C_hex_text : Cl P w K mg base ca 1 "hex_text" m_hex_text) (z_len : mg "len" = none) : Gn P w K mg base ca 3 f fd ["octets"] m_chunk_of := by
  refine Gn.of F sc_chunk_of rfl rfl fun cdv A outer s H room ck => ?_
  have hp : PassesOwn (model (cxF P w K mg base ["octets"] "chunk_of" (topS 23) f cdv A outer s H).prog (cxF P w K mg base ["octets"] "chunk_of" (topS 23) f cdv A outer s H).w) (cxF P w K mg base ["octets"] "chunk_of" (topS 23) f cdv A outer s H).A (cxF P w K mg base ["octets"] "chunk_of" (topS 23) f cdv A outer s H).env (cxF P w K mg base ["octets"] "chunk_of" (topS 23) f cdv A outer s H).xe := PassesOwn.never
  unfold b_chunk_of
  exact z_one (z_ret (r_bin rfl (r_bin rfl (r_call ck room C_lines_octets (r_cons (r_tup (r_cons (r_call ck room C_hex_text (r_cons (r_biB b1_len z_len (r_cons (r_v 0) (r_nil))) (r_nil))) (r_nil))) (r_nil))) (r_v 0)) (r_tup (r_cons (r_int) (r_cons (r_int) (r_nil))))))
/-! _law_cut: slots 0=cup 1=body 2=found 3=left 4=most 5=many 6=digits 7=number -/
def b__law_cut : SM := sq (par3M 2 3 4 (consM (tupM (nilM)) (consM (vM 1) (consM (callM m__law_some (consM (vM 0) (consM (lstM (consM (kM (.int 1)) (consM (kM (.int 3)) (consM (kM (.int 40)) (consM (kM (.int 300)) (nilM)))))) (nilM)))) (nilM))))) (sq (whM (cmpM .ne (vM 3) (tupM (nilM))) (sq (asgM (.nm 5) (biM .min (consM (biM .len (consM (vM 3) (nilM))) (consM (binM .add (kM (.int 1)) (callM m__law_roll (consM (vM 0) (consM (vM 4) (nilM))))) (nilM))))) (sq (asgM (.nm 6) (binM .add (lstM (consM (kM (.int 48)) (consM (kM (.int 49)) (consM (kM (.int 50)) (consM (kM (.int 51)) (consM (kM (.int 52)) (consM (kM (.int 53)) (consM (kM (.int 54)) (consM (kM (.int 55)) (consM (kM (.int 56)) (consM (kM (.int 57)) (nilM)))))))))))) (callM m__law_some (consM (vM 0) (consM (lstM (consM (lstM (consM (kM (.int 65)) (consM (kM (.int 66)) (consM (kM (.int 67)) (consM (kM (.int 68)) (consM (kM (.int 69)) (consM (kM (.int 70)) (nilM)))))))) (consM (lstM (consM (kM (.int 97)) (consM (kM (.int 98)) (consM (kM (.int 99)) (consM (kM (.int 100)) (consM (kM (.int 101)) (consM (kM (.int 102)) (nilM)))))))) (nilM)))) (nilM)))))) (sq (asgM (.nm 7) (tupM (consM (subM (vM 6) (binM .fdiv (vM 5) (kM (.int 256)))) (consM (subM (vM 6) (binM .mod (biM .int (consM (binM .fdiv (vM 5) (kM (.int 16))) (nilM))) (kM (.int 16)))) (consM (subM (vM 6) (binM .mod (biM .int (consM (vM 5) (nilM))) (kM (.int 16)))) (nilM)))))) (sq (asgM (.nm 7) (iteM (orM (cmpM .gt (vM 5) (kM (.int 255))) (cmpM .eq (callM m__law_roll (consM (vM 0) (consM (kM (.int 2)) (nilM)))) (kM (.int 0)))) (binM .add (op2M mulT (tupM (consM (kM (.int 48)) (nilM))) (callM m__law_roll (consM (vM 0) (consM (kM (.int 2)) (nilM))))) (vM 7)) (iteM (orM (cmpM .gt (vM 5) (kM (.int 15))) (cmpM .eq (callM m__law_roll (consM (vM 0) (consM (kM (.int 2)) (nilM)))) (kM (.int 0)))) (slcM (vM 7) (soM (kM (.int 1))) (noM)) (slcM (vM 7) (soM (kM (.int 2))) (noM))))) (par2M 2 3 (consM (binM .add (binM .add (binM .add (binM .add (vM 2) (vM 7)) (tupM (consM (kM (.int 13)) (consM (kM (.int 10)) (nilM))))) (slcM (vM 3) (noM) (soM (vM 5)))) (tupM (consM (kM (.int 13)) (consM (kM (.int 10)) (nilM))))) (consM (slcM (vM 3) (soM (vM 5)) (noM)) (nilM))))))))) (retM (binM .add (binM .add (vM 2) (op2M mulT (tupM (consM (kM (.int 48)) (nilM))) (binM .add (kM (.int 1)) (callM m__law_roll (consM (vM 0) (consM (kM (.int 4)) (nilM))))))) (tupM (consM (kM (.int 13)) (consM (kM (.int 10)) (consM (kM (.int 13)) (consM (kM (.int 10)) (nilM)))))))))
def m__law_cut : List W → M W := fnB 2 8 b__law_cut
theorem sc__law_cut : FnScope ["cup", "body", "found", "left", "most", "many", "digits", "number"] ["cup", "body"] (defScope (topS 33)) := ⟨rfl, rfl, rfl, by decide +kernel, rfl, by decide +kernel, by decide +kernel⟩
theorem d__law_cut {P : Program} {w : World} {K : PySem.W.Frag} {mg : Str → Option Value} {base : Heap} {ca : Nat → Addr} {f : Addr} {fd : FuncData} (F : Fun K "_law_cut" "_law_cut" (topS 33) f fd) (C__law_some : Cl P w K mg base ca 2 "_law_some" m__law_some) (C__law_roll : Cl P w K mg base ca 1 "_law_roll" m__law_roll) (z_len : mg "len" = none) (z_min : mg "min" = none) (z_int : mg "int" = none) : Gn P w K mg base ca 3 f fd ["cup", "body"] m__law_cut := by
  refine Gn.of F sc__law_cut rfl rfl fun cdv A outer s H room ck => ?_
  have hp : PassesOwn (model (cxF P w K mg base ["cup", "body", "found", "left", "most", "many", "digits", "number"] "_law_cut" (topS 33) f cdv A outer s H).prog (cxF P w K mg base ["cup", "body", "found", "left", "most", "many", "digits", "number"] "_law_cut" (topS 33) f cdv A outer s H).w) (cxF P w K mg base ["cup", "body", "found", "left", "most", "many", "digits", "number"] "_law_cut" (topS 33) f cdv A outer s H).A (cxF P w K mg base ["cup", "body", "found", "left", "most", "many", "digits", "number"] "_law_cut" (topS 33) f cdv A outer s H).env (cxF P w K mg base ["cup", "body", "found", "left", "most", "many", "digits", "number"] "_law_cut" (topS 33) f cdv A outer s H).xe := PassesOwn.never
  unfold b__law_cut
  exact z_cons (z_par3 ck 2 3 4 (r_cons (r_tup (r_nil)) (r_cons (r_v 1) (r_cons (r_call ck room C__law_some (r_cons (r_v 0) (r_cons (r_lst (r_cons (r_int) (r_cons (r_int) (r_cons (r_int) (r_cons (r_int) (r_nil)))))) (r_nil)))) (r_nil)))))
    (z_cons (z_wh hp (t_cmp ck rfl (r_v 3) (r_tup (r_nil))) (z_cons (z_asg (x_nm ck 5) (r_biB (b1_min ck) z_min (r_cons (r_biB b1_len z_len (r_cons (r_v 3) (r_nil))) (r_cons (r_bin rfl (r_int) (r_call ck room C__law_roll (r_cons (r_v 0) (r_cons (r_v 4) (r_nil))))) (r_nil)))))
    (z_cons (z_asg (x_nm ck 6) (r_bin rfl (r_lst (r_cons (r_int) (r_cons (r_int) (r_cons (r_int) (r_cons (r_int) (r_cons (r_int) (r_cons (r_int) (r_cons (r_int) (r_cons (r_int) (r_cons (r_int) (r_cons (r_int) (r_nil)))))))))))) (r_call ck room C__law_some (r_cons (r_v 0) (r_cons (r_lst (r_cons (r_lst (r_cons (r_int) (r_cons (r_int) (r_cons (r_int) (r_cons (r_int) (r_cons (r_int) (r_cons (r_int) (r_nil)))))))) (r_cons (r_lst (r_cons (r_int) (r_cons (r_int) (r_cons (r_int) (r_cons (r_int) (r_cons (r_int) (r_cons (r_int) (r_nil)))))))) (r_nil)))) (r_nil))))))
    (z_cons (z_asg (x_nm ck 7) (r_tup (r_cons (r_sub ck (r_v 6) (r_bin rfl (r_v 5) (r_int))) (r_cons (r_sub ck (r_v 6) (r_bin rfl (r_biT b1_int z_int (r_cons (r_bin rfl (r_v 5) (r_int)) (r_nil))) (r_int))) (r_cons (r_sub ck (r_v 6) (r_bin rfl (r_biT b1_int z_int (r_cons (r_v 5) (r_nil))) (r_int))) (r_nil))))))
    (z_cons (z_asg (x_nm ck 7) (r_ite (PW.pt (w_or (t_cmp ck rfl (r_v 5) (r_int)) (w_or1 (t_cmp ck rfl (r_call ck room C__law_roll (r_cons (r_v 0) (r_cons (r_int) (r_nil)))) (r_int))))) (r_bin rfl (r_mulT (r_tup (r_cons (r_int) (r_nil))) (r_call ck room C__law_roll (r_cons (r_v 0) (r_cons (r_int) (r_nil))))) (r_v 7)) (r_ite (PW.pt (w_or (t_cmp ck rfl (r_v 5) (r_int)) (w_or1 (t_cmp ck rfl (r_call ck room C__law_roll (r_cons (r_v 0) (r_cons (r_int) (r_nil)))) (r_int))))) (r_slc (r_v 7) (.inr ⟨_, _, rfl, rfl, r_int⟩) (.inl ⟨rfl, rfl⟩)) (r_slc (r_v 7) (.inr ⟨_, _, rfl, rfl, r_int⟩) (.inl ⟨rfl, rfl⟩)))))
    (z_one (z_par2 ck 2 3 (r_cons (r_bin rfl (r_bin rfl (r_bin rfl (r_bin rfl (r_v 2) (r_v 7)) (r_tup (r_cons (r_int) (r_cons (r_int) (r_nil))))) (r_slc (r_v 3) (.inl ⟨rfl, rfl⟩) (.inr ⟨_, _, rfl, rfl, r_v 5⟩))) (r_tup (r_cons (r_int) (r_cons (r_int) (r_nil))))) (r_cons (r_slc (r_v 3) (.inr ⟨_, _, rfl, rfl, r_v 5⟩) (.inl ⟨rfl, rfl⟩)) (r_nil))))))))))
    (z_one (z_ret (r_bin rfl (r_bin rfl (r_v 2) (r_mulT (r_tup (r_cons (r_int) (r_nil))) (r_bin rfl (r_int) (r_call ck room C__law_roll (r_cons (r_v 0) (r_cons (r_int) (r_nil))))))) (r_tup (r_cons (r_int) (r_cons (r_int) (r_cons (r_int) (r_cons (r_int) (r_nil))))))))))
/-! _law_body: slots 0=cup 1=many 2=at -/
def b__law_body : SM := sq (asgM (.nm 1) (callM m__law_some (consM (vM 0) (consM (lstM (consM (kM (.int 0)) (consM (kM (.int 1)) (consM (kM (.int 2)) (consM (kM (.int 15)) (consM (kM (.int 16)) (consM (kM (.int 17)) (consM (kM (.int 255)) (consM (kM (.int 256)) (consM (kM (.int 300)) (consM (callM m__law_roll (consM (vM 0) (consM (kM (.int 301)) (nilM)))) (nilM)))))))))))) (nilM))))) (retM (slcM (biM .tuple (consM (op2M mulL (lcE (rng1I (consM (biM .min (consM (vM 1) (consM (kM (.int 30)) (nilM)))) (nilM))) (.nm 2) [2] (yesM) (callM m__law_some (consM (vM 0) (consM (lstM (consM (kM (.int 13)) (consM (kM (.int 10)) (consM (kM (.int 48)) (consM (kM (.int 97)) (consM (kM (.int 255)) (consM (callM m__law_roll (consM (vM 0) (consM (kM (.int 256)) (nilM)))) (nilM)))))))) (nilM))))) (kM (.int 10))) (nilM))) (noM) (soM (vM 1))))
def m__law_body : List W → M W := fnB 1 3 b__law_body
theorem sc__law_body : FnScope ["cup", "many", "at"] ["cup"] (defScope (topS 34)) := ⟨rfl, rfl, rfl, by decide +kernel, rfl, by decide +kernel, by decide +kernel⟩
theorem d__law_body {P : Program} {w : World} {K : PySem.W.Frag} {mg : Str → Option Value} {base : Heap} {ca : Nat → Addr} {f : Addr} {fd : FuncData} (F : Fun K "_law_body" "_law_body" (topS 34) f fd) (C__law_some : Cl P w K mg base ca 2 "_law_some" m__law_some) (C__law_roll : Cl P w K mg base ca 1 "_law_roll" m__law_roll) (z_range : mg "range" = none) (z_min : mg "min" = none) (z_tuple : mg "tuple" = none) : Gn P w K mg base ca 3 f fd ["cup"] m__law_body := by
  refine Gn.of F sc__law_body rfl rfl fun cdv A outer s H room ck => ?_
  have hp : PassesOwn (model (cxF P w K mg base ["cup", "many", "at"] "_law_body" (topS 34) f cdv A outer s H).prog (cxF P w K mg base ["cup", "many", "at"] "_law_body" (topS 34) f cdv A outer s H).w) (cxF P w K mg base ["cup", "many", "at"] "_law_body" (topS 34) f cdv A outer s H).A (cxF P w K mg base ["cup", "many", "at"] "_law_body" (topS 34) f cdv A outer s H).env (cxF P w K mg base ["cup", "many", "at"] "_law_body" (topS 34) f cdv A outer s H).xe := PassesOwn.never
  unfold b__law_body
  exact z_cons (z_asg (x_nm ck 1) (r_call ck room C__law_some (r_cons (r_v 0) (r_cons (r_lst (r_cons (r_int) (r_cons (r_int) (r_cons (r_int) (r_cons (r_int) (r_cons (r_int) (r_cons (r_int) (r_cons (r_int) (r_cons (r_int) (r_cons (r_int) (r_cons (r_call ck room C__law_roll (r_cons (r_v 0) (r_cons (r_int) (r_nil)))) (r_nil)))))))))))) (r_nil)))))
    (z_one (z_ret (r_slc (r_biT b1_tuple z_tuple (r_cons (r_mulL (r_lc ck [("at", 2)] (q_rng1 z_range (r_cons (r_biB (b1_min ck) z_min (r_cons (r_v 1) (r_cons (r_int) (r_nil)))) (r_nil))) (fun _ _ _ _ _ => x_nm ck.blk 2) (fun _ _ _ _ _ => c_nil) (fun _ _ _ _ _ => r_call ck.blk room C__law_some (r_cons (r_v 0) (r_cons (r_lst (r_cons (r_int) (r_cons (r_int) (r_cons (r_int) (r_cons (r_int) (r_cons (r_int) (r_cons (r_call ck.blk room C__law_roll (r_cons (r_v 0) (r_cons (r_int) (r_nil)))) (r_nil)))))))) (r_nil))))) (r_int)) (r_nil))) (.inl ⟨rfl, rfl⟩) (.inr ⟨_, _, rfl, rfl, r_v 1⟩))))
/-! _law_due: slots 0=body 1=sizes 2=found 3=left 4=fits 5=size 6=many -/
def b__law_due : SM := sq (par3M 2 3 4 (consM (tupM (nilM)) (consM (vM 0) (consM (kM (.bool true)) (nilM))))) (sq (foM (.nm 5) (seqI (binM .add (biM .list (consM (vM 1) (nilM))) (lstM (consM (biM .len (consM (vM 0) (nilM))) (nilM))))) (sq (asgM (.nm 6) (iteM (andM (vM 4) (cmpM .le (vM 5) (biM .len (consM (vM 3) (nilM))))) (vM 5) (kM (.int 0)))) (sq (asgM (.nm 4) (andM (vM 4) (cmpM .le (vM 5) (biM .len (consM (vM 3) (nilM)))))) (ifM (cmpM .gt (vM 6) (kM (.int 0))) (par2M 2 3 (consM (binM .add (binM .add (binM .add (binM .add (vM 2) (callM m__law_hex (consM (vM 6) (nilM)))) (tupM (consM (kM (.int 13)) (consM (kM (.int 10)) (nilM))))) (slcM (vM 3) (noM) (soM (vM 6)))) (tupM (consM (kM (.int 13)) (consM (kM (.int 10)) (nilM))))) (consM (slcM (vM 3) (soM (vM 6)) (noM)) (nilM)))) (skM))))) (sq (ifM (cmpM .ne (vM 3) (tupM (nilM))) (asgM (.nm 2) (binM .add (binM .add (binM .add (binM .add (vM 2) (callM m__law_hex (consM (biM .len (consM (vM 3) (nilM))) (nilM)))) (tupM (consM (kM (.int 13)) (consM (kM (.int 10)) (nilM))))) (vM 3)) (tupM (consM (kM (.int 13)) (consM (kM (.int 10)) (nilM)))))) (skM)) (retM (binM .add (vM 2) (tupM (consM (kM (.int 48)) (consM (kM (.int 13)) (consM (kM (.int 10)) (consM (kM (.int 13)) (consM (kM (.int 10)) (nilM)))))))))))
def m__law_due : List W → M W := fnB 2 7 b__law_due
theorem sc__law_due : FnScope ["body", "sizes", "found", "left", "fits", "size", "many"] ["body", "sizes"] (defScope (topS 36)) := ⟨rfl, rfl, rfl, by decide +kernel, rfl, by decide +kernel, by decide +kernel⟩
theorem d__law_due {P : Program} {w : World} {K : PySem.W.Frag} {mg : Str → Option Value} {base : Heap} {ca : Nat → Addr} {f : Addr} {fd : FuncData} (F : Fun K "_law_due" "_law_due" (topS 36) f fd) (z_list : mg "list" = none) (z_len : mg "len" = none) (C__law_hex : Cl P w K mg base ca 2 "_law_hex" m__law_hex) : Gn P w K mg base ca 3 f fd ["body", "sizes"] m__law_due := by
  refine Gn.of F sc__law_due rfl rfl fun cdv A outer s H room ck => ?_
  have hp : PassesOwn (model (cxF P w K mg base ["body", "sizes", "found", "left", "fits", "size", "many"] "_law_due" (topS 36) f cdv A outer s H).prog (cxF P w K mg base ["body", "sizes", "found", "left", "fits", "size", "many"] "_law_due" (topS 36) f cdv A outer s H).w) (cxF P w K mg base ["body", "sizes", "found", "left", "fits", "size", "many"] "_law_due" (topS 36) f cdv A outer s H).A (cxF P w K mg base ["body", "sizes", "found", "left", "fits", "size", "many"] "_law_due" (topS 36) f cdv A outer s H).env (cxF P w K mg base ["body", "sizes", "found", "left", "fits", "size", "many"] "_law_due" (topS 36) f cdv A outer s H).xe := PassesOwn.never
  unfold b__law_due
  exact z_cons (z_par3 ck 2 3 4 (r_cons (r_tup (r_nil)) (r_cons (r_v 0) (r_cons (r_bl) (r_nil)))))
    (z_cons (z_for ck hp (q_seq (r_bin rfl (r_biT b1_list z_list (r_cons (r_v 1) (r_nil))) (r_lst (r_cons (r_biB b1_len z_len (r_cons (r_v 0) (r_nil))) (r_nil))))) (x_nm ck 5) (z_cons (z_asg (x_nm ck 6) (r_ite (PW.pt (w_and (t_val (r_v 4)) (w_and1 (t_cmp ck rfl (r_v 5) (r_biB b1_len z_len (r_cons (r_v 3) (r_nil))))))) (r_v 5) (r_int)))
    (z_cons (z_asg (x_nm ck 4) (r_and (r_v 4) (r_b1 (r_cmp ck rfl (r_v 5) (r_biB b1_len z_len (r_cons (r_v 3) (r_nil)))))))
    (z_one (z_if (t_cmp ck rfl (r_v 6) (r_int)) (z_one (z_par2 ck 2 3 (r_cons (r_bin rfl (r_bin rfl (r_bin rfl (r_bin rfl (r_v 2) (r_call ck room C__law_hex (r_cons (r_v 6) (r_nil)))) (r_tup (r_cons (r_int) (r_cons (r_int) (r_nil))))) (r_slc (r_v 3) (.inl ⟨rfl, rfl⟩) (.inr ⟨_, _, rfl, rfl, r_v 6⟩))) (r_tup (r_cons (r_int) (r_cons (r_int) (r_nil))))) (r_cons (r_slc (r_v 3) (.inr ⟨_, _, rfl, rfl, r_v 6⟩) (.inl ⟨rfl, rfl⟩)) (r_nil))))) (z_nil))))))
    (z_cons (z_if (t_cmp ck rfl (r_v 3) (r_tup (r_nil))) (z_one (z_asg (x_nm ck 2) (r_bin rfl (r_bin rfl (r_bin rfl (r_bin rfl (r_v 2) (r_call ck room C__law_hex (r_cons (r_biB b1_len z_len (r_cons (r_v 3) (r_nil))) (r_nil)))) (r_tup (r_cons (r_int) (r_cons (r_int) (r_nil))))) (r_v 3)) (r_tup (r_cons (r_int) (r_cons (r_int) (r_nil))))))) (z_nil))
    (z_one (z_ret (r_bin rfl (r_v 2) (r_tup (r_cons (r_int) (r_cons (r_int) (r_cons (r_int) (r_cons (r_int) (r_cons (r_int) (r_nil))))))))))))
/-! _law_spoilt: slots 0=cup 1=row 2=at 3=octet 4=way -/
def b__law_spoilt : SM := sq (asgM (.nm 2) (callM m__law_roll (consM (vM 0) (consM (binM .add (biM .len (consM (vM 1) (nilM))) (kM (.int 1))) (nilM))))) (sq (asgM (.nm 3) (callM m__law_some (consM (vM 0) (consM (lstM (consM (kM (.int 13)) (consM (kM (.int 10)) (consM (kM (.int 48)) (consM (kM (.int 49)) (consM (kM (.int 65)) (consM (kM (.int 71)) (consM (kM (.int 96)) (consM (kM (.int 102)) (consM (kM (.int 103)) (consM (kM (.int 64)) (consM (kM (.int 47)) (consM (kM (.int 58)) (consM (kM (.int 32)) (consM (kM (.int 255)) (consM (callM m__law_roll (consM (vM 0) (consM (kM (.int 256)) (nilM)))) (nilM))))))))))))))))) (nilM))))) (sq (asgM (.nm 4) (callM m__law_roll (consM (vM 0) (consM (kM (.int 4)) (nilM))))) (retM (iteM (cmpM .eq (vM 4) (kM (.int 0))) (binM .add (slcM (vM 1) (noM) (soM (vM 2))) (slcM (vM 1) (soM (binM .add (vM 2) (kM (.int 1)))) (noM))) (binM .add (binM .add (slcM (vM 1) (noM) (soM (vM 2))) (tupM (consM (vM 3) (nilM)))) (slcM (vM 1) (soM (binM .add (vM 2) (iteM (cmpM .gt (vM 4) (kM (.int 1))) (kM (.int 1)) (kM (.int 0))))) (noM)))))))
def m__law_spoilt : List W → M W := fnB 2 5 b__law_spoilt
theorem sc__law_spoilt : FnScope ["cup", "row", "at", "octet", "way"] ["cup", "row"] (defScope (topS 37)) := ⟨rfl, rfl, rfl, by decide +kernel, rfl, by decide +kernel, by decide +kernel⟩
theorem d__law_spoilt {P : Program} {w : World} {K : PySem.W.Frag} {mg : Str → Option Value} {base : Heap} {ca : Nat → Addr} {f : Addr} {fd : FuncData} (F : Fun K "_law_spoilt" "_law_spoilt" (topS 37) f fd) (C__law_roll : Cl P w K mg base ca 1 "_law_roll" m__law_roll) (z_len : mg "len" = none) (C__law_some : Cl P w K mg base ca 2 "_law_some" m__law_some) : Gn P w K mg base ca 3 f fd ["cup", "row"] m__law_spoilt := by
  refine Gn.of F sc__law_spoilt rfl rfl fun cdv A outer s H room ck => ?_
  have hp : PassesOwn (model (cxF P w K mg base ["cup", "row", "at", "octet", "way"] "_law_spoilt" (topS 37) f cdv A outer s H).prog (cxF P w K mg base ["cup", "row", "at", "octet", "way"] "_law_spoilt" (topS 37) f cdv A outer s H).w) (cxF P w K mg base ["cup", "row", "at", "octet", "way"] "_law_spoilt" (topS 37) f cdv A outer s H).A (cxF P w K mg base ["cup", "row", "at", "octet", "way"] "_law_spoilt" (topS 37) f cdv A outer s H).env (cxF P w K mg base ["cup", "row", "at", "octet", "way"] "_law_spoilt" (topS 37) f cdv A outer s H).xe := PassesOwn.never
  unfold b__law_spoilt
  exact z_cons (z_asg (x_nm ck 2) (r_call ck room C__law_roll (r_cons (r_v 0) (r_cons (r_bin rfl (r_biB b1_len z_len (r_cons (r_v 1) (r_nil))) (r_int)) (r_nil)))))
    (z_cons (z_asg (x_nm ck 3) (r_call ck room C__law_some (r_cons (r_v 0) (r_cons (r_lst (r_cons (r_int) (r_cons (r_int) (r_cons (r_int) (r_cons (r_int) (r_cons (r_int) (r_cons (r_int) (r_cons (r_int) (r_cons (r_int) (r_cons (r_int) (r_cons (r_int) (r_cons (r_int) (r_cons (r_int) (r_cons (r_int) (r_cons (r_int) (r_cons (r_call ck room C__law_roll (r_cons (r_v 0) (r_cons (r_int) (r_nil)))) (r_nil))))))))))))))))) (r_nil)))))
    (z_cons (z_asg (x_nm ck 4) (r_call ck room C__law_roll (r_cons (r_v 0) (r_cons (r_int) (r_nil)))))
    (z_one (z_ret (r_ite (t_cmp ck rfl (r_v 4) (r_int)) (r_bin rfl (r_slc (r_v 1) (.inl ⟨rfl, rfl⟩) (.inr ⟨_, _, rfl, rfl, r_v 2⟩)) (r_slc (r_v 1) (.inr ⟨_, _, rfl, rfl, r_bin rfl (r_v 2) (r_int)⟩) (.inl ⟨rfl, rfl⟩))) (r_bin rfl (r_bin rfl (r_slc (r_v 1) (.inl ⟨rfl, rfl⟩) (.inr ⟨_, _, rfl, rfl, r_v 2⟩)) (r_tup (r_cons (r_v 3) (r_nil)))) (r_slc (r_v 1) (.inr ⟨_, _, rfl, rfl, r_bin rfl (r_v 2) (r_ite (t_cmp ck rfl (r_v 4) (r_int)) (r_int) (r_int))⟩) (.inl ⟨rfl, rfl⟩))))))))
/-! chunks_by: slots 0=body 1=sizes 2=found 3=left 4=size -/
def b_chunks_by : SM := sq (par2M 2 3 (consM (tupM (nilM)) (consM (vM 0) (nilM)))) (sq (foM (.nm 4) (seqI (vM 1)) (ifM (cmpM .le (vM 4) (biM .len (consM (vM 3) (nilM)))) (par2M 2 3 (consM (binM .add (vM 2) (callM m_chunk_of (consM (slcM (vM 3) (noM) (soM (vM 4))) (nilM)))) (consM (slcM (vM 3) (soM (vM 4)) (noM)) (nilM)))) (brkM))) (retM (binM .add (binM .add (binM .add (vM 2) (iteM (cmpM .ne (vM 3) (tupM (nilM))) (callM m_chunk_of (consM (vM 3) (nilM))) (tupM (nilM)))) (callM m_text_octets (consM (kM (.str "0")) (nilM)))) (tupM (consM (kM (.int 13)) (consM (kM (.int 10)) (consM (kM (.int 13)) (consM (kM (.int 10)) (nilM)))))))))
def m_chunks_by : List W → M W := fnB 2 5 b_chunks_by
theorem sc_chunks_by : FnScope ["body", "sizes", "found", "left", "size"] ["body", "sizes"] (defScope (topS 24)) := ⟨rfl, rfl, rfl, by decide +kernel, rfl, by decide +kernel, by decide +kernel⟩
theorem d_chunks_by {P : Program} {w : World} {K : PySem.W.Frag} {mg : Str → Option Value} {base : Heap} {ca : Nat → Addr} {f : Addr} {fd : FuncData} (F : Fun K "chunks_by" "chunks_by" (topS 24) f fd) (z_len : mg "len" = none) (C_chunk_of : Cl P w K mg base ca 3 "chunk_of" m_chunk_of) (C_text_octets : Cl P w K mg base ca 1 "text_octets" m_text_octets) : Gn P w K mg base ca 4 f fd ["body", "sizes"] m_chunks_by := by
  refine Gn.of F sc_chunks_by rfl rfl fun cdv A outer s H room ck => ?_
  have hp : PassesOwn (model (cxF P w K mg base ["body", "sizes", "found", "left", "size"] "chunks_by" (topS 24) f cdv A outer s H).prog (cxF P w K mg base ["body", "sizes", "found", "left", "size"] "chunks_by" (topS 24) f cdv A outer s H).w) (cxF P w K mg base ["body", "sizes", "found", "left", "size"] "chunks_by" (topS 24) f cdv A outer s H).A (cxF P w K mg base ["body", "sizes", "found", "left", "size"] "chunks_by" (topS 24) f cdv A outer s H).env (cxF P w K mg base ["body", "sizes", "found", "left", "size"] "chunks_by" (topS 24) f cdv A outer s H).xe := PassesOwn.never
  unfold b_chunks_by
  exact z_cons (z_par2 ck 2 3 (r_cons (r_tup (r_nil)) (r_cons (r_v 0) (r_nil))))
    (z_cons (z_for ck hp (q_seq (r_v 1)) (x_nm ck 4) (z_one (z_if (t_cmp ck rfl (r_v 4) (r_biB b1_len z_len (r_cons (r_v 3) (r_nil)))) (z_one (z_par2 ck 2 3 (r_cons (r_bin rfl (r_v 2) (r_call ck room C_chunk_of (r_cons (r_slc (r_v 3) (.inl ⟨rfl, rfl⟩) (.inr ⟨_, _, rfl, rfl, r_v 4⟩)) (r_nil)))) (r_cons (r_slc (r_v 3) (.inr ⟨_, _, rfl, rfl, r_v 4⟩) (.inl ⟨rfl, rfl⟩)) (r_nil))))) (z_one (z_brk)))))
    (z_one (z_ret (r_bin rfl (r_bin rfl (r_bin rfl (r_v 2) (r_ite (t_cmp ck rfl (r_v 3) (r_tup (r_nil))) (r_call ck room C_chunk_of (r_cons (r_v 3) (r_nil))) (r_tup (r_nil)))) (r_call ck room C_text_octets (r_cons (r_str) (r_nil)))) (r_tup (r_cons (r_int) (r_cons (r_int) (r_cons (r_int) (r_cons (r_int) (r_nil))))))))))
/-! chunks_in: slots 0=octets 1=chunks 2=at 3=octet 4=code -/
def b_chunks_in : SM := sq (exM (callM m_need_octets (consM (vM 0) (consM (kM (.int 0)) (consM (kM (.int 2000)) (nilM)))))) (sq (asgM (.nm 1) (newM 0 m_Chunks___init__ (nilM))) (sq (foM (.tup [2, 3]) (enumI (consM (vM 0) (nilM))) (sq (asgM (.nm 4) (mcallM 0 "fault" m_Chunks_fault (vM 1) (consM (vM 3) (nilM)))) (sq (ifM (cmpM .isnn (vM 4) (kM .none)) (retM (tupM (consM (kM (.str "wrong")) (consM (vM 4) (consM (vM 2) (nilM)))))) (skM)) (ifM (mcallM 0 "go_on" m_Chunks_go_on (vM 1) (consM (vM 3) (nilM))) (retM (tupM (consM (kM (.str "whole")) (consM (biM .tuple (consM (attrM 0 "body" (vM 1)) (nilM))) (consM (binM .add (vM 2) (kM (.int 1))) (nilM)))))) (skM))))) (retM (kM .none))))
def m_chunks_in : List W → M W := fnB 1 5 b_chunks_in
theorem sc_chunks_in : FnScope ["octets", "chunks", "at", "octet", "code"] ["octets"] (defScope (topS 26)) := ⟨rfl, rfl, rfl, by decide +kernel, rfl, by decide +kernel, by decide +kernel⟩
theorem d_chunks_in {P : Program} {w : World} {K : PySem.W.Frag} {mg : Str → Option Value} {base : Heap} {ca : Nat → Addr} {f : Addr} {fd : FuncData} (F : Fun K "chunks_in" "chunks_in" (topS 26) f fd) (C_need_octets : Cl P w K mg base ca 3 "need_octets" m_need_octets) (c_ROW : Gc K mg "ROW" (.int 2000)) (N_Chunks : Mn P w K mg base ca 1 0 "Chunks" m_Chunks___init__) (z_enumerate : mg "enumerate" = none) (M_Chunks_fault : Mt P w K mg base ca 3 0 "fault" m_Chunks_fault) (M_Chunks_go_on : Mt P w K mg base ca 3 0 "go_on" m_Chunks_go_on) (n_Chunks_body : Fa K ca 0 "body") (z_tuple : mg "tuple" = none) : Gn P w K mg base ca 4 f fd ["octets"] m_chunks_in := by
  refine Gn.of F sc_chunks_in rfl rfl fun cdv A outer s H room ck => ?_
  have hp : PassesOwn (model (cxF P w K mg base ["octets", "chunks", "at", "octet", "code"] "chunks_in" (topS 26) f cdv A outer s H).prog (cxF P w K mg base ["octets", "chunks", "at", "octet", "code"] "chunks_in" (topS 26) f cdv A outer s H).w) (cxF P w K mg base ["octets", "chunks", "at", "octet", "code"] "chunks_in" (topS 26) f cdv A outer s H).A (cxF P w K mg base ["octets", "chunks", "at", "octet", "code"] "chunks_in" (topS 26) f cdv A outer s H).env (cxF P w K mg base ["octets", "chunks", "at", "octet", "code"] "chunks_in" (topS 26) f cdv A outer s H).xe := PassesOwn.never
  unfold b_chunks_in
  exact z_cons (z_ex (r_call ck room C_need_octets (r_cons (r_v 0) (r_cons (r_int) (r_cons (r_gc c_ROW) (r_nil))))))
    (z_cons (z_asg (x_nm ck 1) (r_new0 ck room 0 N_Chunks))
    (z_cons (z_for ck hp (q_enum z_enumerate (r_cons (r_v 0) (r_nil))) (x_tup ck (x_cons ck 2 (x_cons ck 3 (x_nil)))) (z_cons (z_asg (x_nm ck 4) (r_mc ck room 0 M_Chunks_fault (r_v 1) (r_cons (r_v 3) (r_nil))))
    (z_cons (z_if (t_cmp ck rfl (r_v 4) (r_non)) (z_one (z_ret (r_tup (r_cons (r_str) (r_cons (r_v 4) (r_cons (r_v 2) (r_nil))))))) (z_nil))
    (z_one (z_if (t_val (r_mc ck room 0 M_Chunks_go_on (r_v 1) (r_cons (r_v 3) (r_nil)))) (z_one (z_ret (r_tup (r_cons (r_str) (r_cons (r_biT b1_tuple z_tuple (r_cons (r_attr 0 n_Chunks_body (r_v 1)) (r_nil))) (r_cons (r_bin rfl (r_v 2) (r_int)) (r_nil))))))) (z_nil))))))
    (z_one (z_ret (r_non)))))
/-! chunks_of: slots 0=body 1=sizes -/
def b_chunks_of : SM := sq (exM (callM m_need_octets (consM (vM 0) (consM (kM (.int 0)) (consM (kM (.int 300)) (nilM)))))) (sq (exM (callM m_need_sizes (consM (vM 1) (nilM)))) (retM (callM m_chunks_by (consM (vM 0) (consM (vM 1) (nilM))))))
def m_chunks_of : List W → M W := fnB 2 2 b_chunks_of
theorem sc_chunks_of : FnScope ["body", "sizes"] ["body", "sizes"] (defScope (topS 25)) := ⟨rfl, rfl, rfl, by decide +kernel, rfl, by decide +kernel, by decide +kernel⟩
theorem d_chunks_of {P : Program} {w : World} {K : PySem.W.Frag} {mg : Str → Option Value} {base : Heap} {ca : Nat → Addr} {f : Addr} {fd : FuncData} (F : Fun K "chunks_of" "chunks_of" (topS 25) f fd) (C_need_octets : Cl P w K mg base ca 3 "need_octets" m_need_octets) (c_BODY : Gc K mg "BODY" (.int 300)) (C_need_sizes : Cl P w K mg base ca 2 "need_sizes" m_need_sizes) (C_chunks_by : Cl P w K mg base ca 4 "chunks_by" m_chunks_by) : Gn P w K mg base ca 5 f fd ["body", "sizes"] m_chunks_of := by
  refine Gn.of F sc_chunks_of rfl rfl fun cdv A outer s H room ck => ?_
  have hp : PassesOwn (model (cxF P w K mg base ["body", "sizes"] "chunks_of" (topS 25) f cdv A outer s H).prog (cxF P w K mg base ["body", "sizes"] "chunks_of" (topS 25) f cdv A outer s H).w) (cxF P w K mg base ["body", "sizes"] "chunks_of" (topS 25) f cdv A outer s H).A (cxF P w K mg base ["body", "sizes"] "chunks_of" (topS 25) f cdv A outer s H).env (cxF P w K mg base ["body", "sizes"] "chunks_of" (topS 25) f cdv A outer s H).xe := PassesOwn.never
  unfold b_chunks_of
  exact z_cons (z_ex (r_call ck room C_need_octets (r_cons (r_v 0) (r_cons (r_int) (r_cons (r_gc c_BODY) (r_nil))))))
    (z_cons (z_ex (r_call ck room C_need_sizes (r_cons (r_v 1) (r_nil))))
    (z_one (z_ret (r_call ck room C_chunks_by (r_cons (r_v 0) (r_cons (r_v 1) (r_nil)))))))
/-! law: slots 0=script 1=cup 2=turn 3=body 4=sizes 5=row 6=other 7=one 8=due 9=many 10=full 11=rows 12=more 13=code 14=line 15=told 16=at -/
def b_law : SM := sq (asgM (.nm 1) (callM m__law_cup (consM (vM 0) (nilM)))) (sq (foM (.nm 2) (rng1I (consM (kM (.int 6)) (nilM))) (sq (asgM (.nm 3) (callM m__law_body (consM (vM 1) (nilM)))) (sq (asgM (.nm 4) (biM .tuple (consM (lcE (rng1I (consM (callM m__law_roll (consM (vM 1) (consM (kM (.int 6)) (nilM)))) (nilM))) (.nm 16) [16] (yesM) (callM m__law_some (consM (vM 1) (consM (lstM (consM (kM (.int 1)) (consM (kM (.int 2)) (consM (kM (.int 16)) (consM (kM (.int 300)) (consM (binM .add (kM (.int 1)) (callM m__law_roll (consM (vM 1) (consM (kM (.int 300)) (nilM))))) (nilM))))))) (nilM))))) (nilM)))) (sq (asgM (.nm 5) (callM m_chunks_of (consM (vM 3) (consM (vM 4) (nilM))))) (sq (ifM (orM (cmpM .ne (biM .repr (consM (vM 5) (nilM))) (biM .repr (consM (callM m__law_due (consM (vM 3) (consM (vM 4) (nilM)))) (nilM)))) (cmpM .ne (biM .repr (consM (callM m_chunks_in (consM (binM .add (vM 5) (tupM (consM (kM (.int 48)) (consM (kM (.int 13)) (nilM))))) (nilM))) (nilM))) (biM .repr (consM (tupM (consM (kM (.str "whole")) (consM (vM 3) (consM (biM .len (consM (vM 5) (nilM))) (nilM))))) (nilM))))) (retM (kM (.bool false))) (skM)) (sq (asgM (.nm 6) (callM m__law_cut (consM (vM 1) (consM (slcM (vM 3) (noM) (soM (callM m__law_some (consM (vM 1) (consM (lstM (consM (kM (.int 120)) (consM (kM (.int 20)) (consM (kM (.int 3)) (nilM))))) (nilM)))))) (nilM))))) (foM (.nm 7) (seqI (tupM (consM (vM 6) (consM (callM m__law_spoilt (consM (vM 1) (consM (vM 6) (nilM)))) (consM (callM m__law_spoilt (consM (vM 1) (consM (callM m__law_spoilt (consM (vM 1) (consM (vM 6) (nilM)))) (nilM)))) (consM (callM m__law_spoilt (consM (vM 1) (consM (vM 5) (nilM)))) (nilM))))))) (sq (asgM (.nm 8) (callM m__law_chunks (consM (vM 7) (nilM)))) (sq (ifM (cmpM .ne (biM .repr (consM (callM m_chunks_in (consM (vM 7) (nilM))) (nilM))) (biM .repr (consM (vM 8) (nilM)))) (retM (kM (.bool false))) (skM)) (ifM (andM (cmpM .isnn (vM 8) (kM .none)) (cmpM .isnn (callM m_chunks_in (consM (iteM (cmpM .eq (subM (vM 8) (kM (.int 0))) (kM (.str "whole"))) (slcM (vM 7) (noM) (soM (binM .sub (subM (vM 8) (kM (.int 2))) (kM (.int 1))))) (slcM (vM 7) (noM) (soM (subM (vM 8) (kM (.int 2)))))) (nilM))) (kM .none))) (retM (kM (.bool false))) (skM))))))))))) (sq (asgM (.nm 9) (binM .add (callM m__law_roll (consM (vM 1) (consM (kM (.int 300)) (nilM)))) (kM (.int 1)))) (sq (asgM (.nm 10) (slcM (callM m_chunks_of (consM (op2M mulT (tupM (consM (kM (.int 1)) (nilM))) (vM 9)) (consM (tupM (nilM)) (nilM)))) (noM) (soM (negM (kM (.int 5)))))) (sq (asgM (.nm 11) (lstM (consM (tupM (consM (binM .sub (kM (.int 301)) (vM 9)) (consM (kM (.int 413)) (nilM)))) (consM (tupM (consM (binM .sub (kM (.int 300)) (vM 9)) (consM (kM (.int 0)) (nilM)))) (nilM))))) (sq (foM (.tup [12, 13]) (seqI (vM 11)) (sq (asgM (.nm 14) (iteM (cmpM .gt (vM 12) (kM (.int 0))) (callM m__law_hex (consM (vM 12) (nilM))) (tupM (consM (kM (.int 48)) (nilM))))) (sq (asgM (.nm 15) (callM m_chunks_in (consM (binM .add (binM .add (vM 10) (vM 14)) (tupM (consM (kM (.int 13)) (nilM)))) (nilM)))) (ifM (cmpM .ne (biM .repr (consM (vM 15) (nilM))) (biM .repr (consM (iteM (cmpM .gt (vM 13) (kM (.int 0))) (tupM (consM (kM (.str "wrong")) (consM (vM 13) (consM (binM .add (biM .len (consM (vM 10) (nilM))) (biM .len (consM (vM 14) (nilM)))) (nilM))))) (kM .none)) (nilM)))) (retM (kM (.bool false))) (skM))))) (sq (asgM (.nm 11) (lstM (consM (tupM (consM (tupM (nilM)) (consM (kM .none) (nilM)))) (consM (tupM (consM (tupM (consM (kM (.int 48)) (nilM))) (consM (kM .none) (nilM)))) (consM (tupM (consM (tupM (consM (kM (.int 48)) (consM (kM (.int 13)) (consM (kM (.int 10)) (consM (kM (.int 13)) (nilM)))))) (consM (kM .none) (nilM)))) (consM (tupM (consM (tupM (consM (kM (.int 48)) (consM (kM (.int 13)) (consM (kM (.int 10)) (consM (kM (.int 13)) (consM (kM (.int 10)) (nilM))))))) (consM (tupM (consM (kM (.str "whole")) (consM (tupM (nilM)) (consM (kM (.int 5)) (nilM))))) (nilM)))) (nilM))))))) (sq (asgM (.nm 11) (binM .add (vM 11) (lstM (consM (tupM (consM (tupM (consM (kM (.int 48)) (consM (kM (.int 48)) (consM (kM (.int 48)) (consM (kM (.int 48)) (consM (kM (.int 13)) (consM (kM (.int 10)) (consM (kM (.int 13)) (consM (kM (.int 10)) (consM (kM (.int 7)) (nilM))))))))))) (consM (tupM (consM (kM (.str "whole")) (consM (tupM (nilM)) (consM (kM (.int 8)) (nilM))))) (nilM)))) (nilM))))) (sq (asgM (.nm 11) (binM .add (vM 11) (lstM (consM (tupM (consM (tupM (consM (kM (.int 48)) (consM (kM (.int 48)) (consM (kM (.int 48)) (consM (kM (.int 48)) (consM (kM (.int 48)) (nilM))))))) (consM (tupM (consM (kM (.str "wrong")) (consM (kM (.int 400)) (consM (kM (.int 4)) (nilM))))) (nilM)))) (consM (tupM (consM (tupM (consM (kM (.int 13)) (nilM))) (consM (tupM (consM (kM (.str "wrong")) (consM (kM (.int 400)) (consM (kM (.int 0)) (nilM))))) (nilM)))) (consM (tupM (consM (tupM (consM (kM (.int 49)) (consM (kM (.int 10)) (nilM)))) (consM (tupM (consM (kM (.str "wrong")) (consM (kM (.int 400)) (consM (kM (.int 1)) (nilM))))) (nilM)))) (nilM))))))) (sq (asgM (.nm 11) (binM .add (vM 11) (lstM (consM (tupM (consM (tupM (consM (kM (.int 49)) (consM (kM (.int 13)) (consM (kM (.int 13)) (nilM))))) (consM (tupM (consM (kM (.str "wrong")) (consM (kM (.int 400)) (consM (kM (.int 2)) (nilM))))) (nilM)))) (nilM))))) (sq (asgM (.nm 11) (binM .add (vM 11) (lstM (consM (tupM (consM (tupM (consM (kM (.int 49)) (consM (kM (.int 13)) (consM (kM (.int 10)) (consM (kM (.int 7)) (consM (kM (.int 10)) (nilM))))))) (consM (tupM (consM (kM (.str "wrong")) (consM (kM (.int 400)) (consM (kM (.int 4)) (nilM))))) (nilM)))) (consM (tupM (consM (tupM (consM (kM (.int 49)) (consM (kM (.int 13)) (consM (kM (.int 10)) (consM (kM (.int 7)) (consM (kM (.int 13)) (consM (kM (.int 13)) (nilM)))))))) (consM (tupM (consM (kM (.str "wrong")) (consM (kM (.int 400)) (consM (kM (.int 5)) (nilM))))) (nilM)))) (consM (tupM (consM (tupM (consM (kM (.int 48)) (consM (kM (.int 13)) (consM (kM (.int 10)) (consM (kM (.int 10)) (nilM)))))) (consM (tupM (consM (kM (.str "wrong")) (consM (kM (.int 400)) (consM (kM (.int 3)) (nilM))))) (nilM)))) (nilM))))))) (sq (asgM (.nm 11) (binM .add (vM 11) (lstM (consM (tupM (consM (tupM (consM (kM (.int 49)) (consM (kM (.int 50)) (consM (kM (.int 67)) (consM (kM (.int 13)) (nilM)))))) (consM (kM .none) (nilM)))) (nilM))))) (sq (asgM (.nm 11) (binM .add (vM 11) (lstM (consM (tupM (consM (tupM (consM (kM (.int 49)) (consM (kM (.int 50)) (consM (kM (.int 68)) (consM (kM (.int 13)) (nilM)))))) (consM (tupM (consM (kM (.str "wrong")) (consM (kM (.int 413)) (consM (kM (.int 3)) (nilM))))) (nilM)))) (consM (tupM (consM (tupM (consM (kM (.int 102)) (consM (kM (.int 102)) (consM (kM (.int 102)) (consM (kM (.int 102)) (consM (kM (.int 13)) (nilM))))))) (consM (tupM (consM (kM (.str "wrong")) (consM (kM (.int 413)) (consM (kM (.int 4)) (nilM))))) (nilM)))) (consM (tupM (consM (tupM (consM (kM (.int 71)) (nilM))) (consM (tupM (consM (kM (.str "wrong")) (consM (kM (.int 400)) (consM (kM (.int 0)) (nilM))))) (nilM)))) (nilM))))))) (sq (asgM (.nm 11) (binM .add (vM 11) (lstM (consM (tupM (consM (tupM (consM (kM (.int 49)) (consM (kM (.int 59)) (nilM)))) (consM (tupM (consM (kM (.str "wrong")) (consM (kM (.int 400)) (consM (kM (.int 1)) (nilM))))) (nilM)))) (nilM))))) (sq (foM (.tup [5, 8]) (seqI (vM 11)) (ifM (cmpM .ne (biM .repr (consM (callM m_chunks_in (consM (vM 5) (nilM))) (nilM))) (biM .repr (consM (vM 8) (nilM)))) (retM (kM (.bool false))) (skM))) (retM (kM (.bool true)))))))))))))))))
def m_law : List W → M W := fnB 1 17 b_law
theorem sc_law : FnScope ["script", "cup", "turn", "body", "sizes", "row", "other", "one", "due", "many", "full", "rows", "more", "code", "line", "told", "at"] ["script"] (defScope (topS 38)) := ⟨rfl, rfl, rfl, by decide +kernel, rfl, by decide +kernel, by decide +kernel⟩
theorem d_law {P : Program} {w : World} {K : PySem.W.Frag} {mg : Str → Option Value} {base : Heap} {ca : Nat → Addr} {f : Addr} {fd : FuncData} (F : Fun K "law" "law" (topS 38) f fd) (C__law_cup : Cl P w K mg base ca 1 "_law_cup" m__law_cup) (z_range : mg "range" = none) (C__law_body : Cl P w K mg base ca 3 "_law_body" m__law_body) (C__law_roll : Cl P w K mg base ca 1 "_law_roll" m__law_roll) (C__law_some : Cl P w K mg base ca 2 "_law_some" m__law_some) (z_tuple : mg "tuple" = none) (C_chunks_of : Cl P w K mg base ca 5 "chunks_of" m_chunks_of) (C_chunks_in : Cl P w K mg base ca 4 "chunks_in" m_chunks_in) (z_repr : mg "repr" = none) (z_len : mg "len" = none) (C__law_due : Cl P w K mg base ca 3 "_law_due" m__law_due) (C__law_cut : Cl P w K mg base ca 3 "_law_cut" m__law_cut) (C__law_spoilt : Cl P w K mg base ca 3 "_law_spoilt" m__law_spoilt) (C__law_chunks : Cl P w K mg base ca 1 "_law_chunks" m__law_chunks) (C__law_hex : Cl P w K mg base ca 2 "_law_hex" m__law_hex) : Gn P w K mg base ca 6 f fd ["script"] m_law := by
  refine Gn.of F sc_law rfl rfl fun cdv A outer s H room ck => ?_
  have hp : PassesOwn (model (cxF P w K mg base ["script", "cup", "turn", "body", "sizes", "row", "other", "one", "due", "many", "full", "rows", "more", "code", "line", "told", "at"] "law" (topS 38) f cdv A outer s H).prog (cxF P w K mg base ["script", "cup", "turn", "body", "sizes", "row", "other", "one", "due", "many", "full", "rows", "more", "code", "line", "told", "at"] "law" (topS 38) f cdv A outer s H).w) (cxF P w K mg base ["script", "cup", "turn", "body", "sizes", "row", "other", "one", "due", "many", "full", "rows", "more", "code", "line", "told", "at"] "law" (topS 38) f cdv A outer s H).A (cxF P w K mg base ["script", "cup", "turn", "body", "sizes", "row", "other", "one", "due", "many", "full", "rows", "more", "code", "line", "told", "at"] "law" (topS 38) f cdv A outer s H).env (cxF P w K mg base ["script", "cup", "turn", "body", "sizes", "row", "other", "one", "due", "many", "full", "rows", "more", "code", "line", "told", "at"] "law" (topS 38) f cdv A outer s H).xe := PassesOwn.never
  unfold b_law
  exact z_cons (z_asg (x_nm ck 1) (r_call ck room C__law_cup (r_cons (r_v 0) (r_nil))))
    (z_cons (z_for ck hp (q_rng1 z_range (r_cons (r_int) (r_nil))) (x_nm ck 2) (z_cons (z_asg (x_nm ck 3) (r_call ck room C__law_body (r_cons (r_v 1) (r_nil))))
    (z_cons (z_asg (x_nm ck 4) (r_biT b1_tuple z_tuple (r_cons (r_lc ck [("at", 16)] (q_rng1 z_range (r_cons (r_call ck room C__law_roll (r_cons (r_v 1) (r_cons (r_int) (r_nil)))) (r_nil))) (fun _ _ _ _ _ => x_nm ck.blk 16) (fun _ _ _ _ _ => c_nil) (fun _ _ _ _ _ => r_call ck.blk room C__law_some (r_cons (r_v 1) (r_cons (r_lst (r_cons (r_int) (r_cons (r_int) (r_cons (r_int) (r_cons (r_int) (r_cons (r_bin rfl (r_int) (r_call ck.blk room C__law_roll (r_cons (r_v 1) (r_cons (r_int) (r_nil))))) (r_nil))))))) (r_nil))))) (r_nil))))
    (z_cons (z_asg (x_nm ck 5) (r_call ck room C_chunks_of (r_cons (r_v 3) (r_cons (r_v 4) (r_nil)))))
    (z_cons (z_if (PW.pt (w_or (t_cmp ck rfl (r_biB (b1_repr ck) z_repr (r_cons (r_v 5) (r_nil))) (r_biB (b1_repr ck) z_repr (r_cons (r_call ck room C__law_due (r_cons (r_v 3) (r_cons (r_v 4) (r_nil)))) (r_nil)))) (w_or1 (t_cmp ck rfl (r_biB (b1_repr ck) z_repr (r_cons (r_call ck room C_chunks_in (r_cons (r_bin rfl (r_v 5) (r_tup (r_cons (r_int) (r_cons (r_int) (r_nil))))) (r_nil))) (r_nil))) (r_biB (b1_repr ck) z_repr (r_cons (r_tup (r_cons (r_str) (r_cons (r_v 3) (r_cons (r_biB b1_len z_len (r_cons (r_v 5) (r_nil))) (r_nil))))) (r_nil))))))) (z_one (z_ret (r_bl))) (z_nil))
    (z_cons (z_asg (x_nm ck 6) (r_call ck room C__law_cut (r_cons (r_v 1) (r_cons (r_slc (r_v 3) (.inl ⟨rfl, rfl⟩) (.inr ⟨_, _, rfl, rfl, r_call ck room C__law_some (r_cons (r_v 1) (r_cons (r_lst (r_cons (r_int) (r_cons (r_int) (r_cons (r_int) (r_nil))))) (r_nil)))⟩)) (r_nil)))))
    (z_one (z_for ck hp (q_seq (r_tup (r_cons (r_v 6) (r_cons (r_call ck room C__law_spoilt (r_cons (r_v 1) (r_cons (r_v 6) (r_nil)))) (r_cons (r_call ck room C__law_spoilt (r_cons (r_v 1) (r_cons (r_call ck room C__law_spoilt (r_cons (r_v 1) (r_cons (r_v 6) (r_nil)))) (r_nil)))) (r_cons (r_call ck room C__law_spoilt (r_cons (r_v 1) (r_cons (r_v 5) (r_nil)))) (r_nil))))))) (x_nm ck 7) (z_cons (z_asg (x_nm ck 8) (r_call ck room C__law_chunks (r_cons (r_v 7) (r_nil))))
    (z_cons (z_if (t_cmp ck rfl (r_biB (b1_repr ck) z_repr (r_cons (r_call ck room C_chunks_in (r_cons (r_v 7) (r_nil))) (r_nil))) (r_biB (b1_repr ck) z_repr (r_cons (r_v 8) (r_nil)))) (z_one (z_ret (r_bl))) (z_nil))
    (z_one (z_if (PW.pt (w_and (t_cmp ck rfl (r_v 8) (r_non)) (w_and1 (t_cmp ck rfl (r_call ck room C_chunks_in (r_cons (r_ite (t_cmp ck rfl (r_sub ck (r_v 8) (r_int)) (r_str)) (r_slc (r_v 7) (.inl ⟨rfl, rfl⟩) (.inr ⟨_, _, rfl, rfl, r_bin rfl (r_sub ck (r_v 8) (r_int)) (r_int)⟩)) (r_slc (r_v 7) (.inl ⟨rfl, rfl⟩) (.inr ⟨_, _, rfl, rfl, r_sub ck (r_v 8) (r_int)⟩))) (r_nil))) (r_non))))) (z_one (z_ret (r_bl))) (z_nil)))))))))))))
    (z_cons (z_asg (x_nm ck 9) (r_bin rfl (r_call ck room C__law_roll (r_cons (r_v 1) (r_cons (r_int) (r_nil)))) (r_int)))
    (z_cons (z_asg (x_nm ck 10) (r_slc (r_call ck room C_chunks_of (r_cons (r_mulT (r_tup (r_cons (r_int) (r_nil))) (r_v 9)) (r_cons (r_tup (r_nil)) (r_nil)))) (.inl ⟨rfl, rfl⟩) (.inr ⟨_, _, rfl, rfl, r_neg (r_int)⟩)))
    (z_cons (z_asg (x_nm ck 11) (r_lst (r_cons (r_tup (r_cons (r_bin rfl (r_int) (r_v 9)) (r_cons (r_int) (r_nil)))) (r_cons (r_tup (r_cons (r_bin rfl (r_int) (r_v 9)) (r_cons (r_int) (r_nil)))) (r_nil)))))
    (z_cons (z_for ck hp (q_seq (r_v 11)) (x_tup ck (x_cons ck 12 (x_cons ck 13 (x_nil)))) (z_cons (z_asg (x_nm ck 14) (r_ite (t_cmp ck rfl (r_v 12) (r_int)) (r_call ck room C__law_hex (r_cons (r_v 12) (r_nil))) (r_tup (r_cons (r_int) (r_nil)))))
    (z_cons (z_asg (x_nm ck 15) (r_call ck room C_chunks_in (r_cons (r_bin rfl (r_bin rfl (r_v 10) (r_v 14)) (r_tup (r_cons (r_int) (r_nil)))) (r_nil))))
    (z_one (z_if (t_cmp ck rfl (r_biB (b1_repr ck) z_repr (r_cons (r_v 15) (r_nil))) (r_biB (b1_repr ck) z_repr (r_cons (r_ite (t_cmp ck rfl (r_v 13) (r_int)) (r_tup (r_cons (r_str) (r_cons (r_v 13) (r_cons (r_bin rfl (r_biB b1_len z_len (r_cons (r_v 10) (r_nil))) (r_biB b1_len z_len (r_cons (r_v 14) (r_nil)))) (r_nil))))) (r_non)) (r_nil)))) (z_one (z_ret (r_bl))) (z_nil))))))
    (z_cons (z_asg (x_nm ck 11) (r_lst (r_cons (r_tup (r_cons (r_tup (r_nil)) (r_cons (r_non) (r_nil)))) (r_cons (r_tup (r_cons (r_tup (r_cons (r_int) (r_nil))) (r_cons (r_non) (r_nil)))) (r_cons (r_tup (r_cons (r_tup (r_cons (r_int) (r_cons (r_int) (r_cons (r_int) (r_cons (r_int) (r_nil)))))) (r_cons (r_non) (r_nil)))) (r_cons (r_tup (r_cons (r_tup (r_cons (r_int) (r_cons (r_int) (r_cons (r_int) (r_cons (r_int) (r_cons (r_int) (r_nil))))))) (r_cons (r_tup (r_cons (r_str) (r_cons (r_tup (r_nil)) (r_cons (r_int) (r_nil))))) (r_nil)))) (r_nil)))))))
    (z_cons (z_asg (x_nm ck 11) (r_bin rfl (r_v 11) (r_lst (r_cons (r_tup (r_cons (r_tup (r_cons (r_int) (r_cons (r_int) (r_cons (r_int) (r_cons (r_int) (r_cons (r_int) (r_cons (r_int) (r_cons (r_int) (r_cons (r_int) (r_cons (r_int) (r_nil))))))))))) (r_cons (r_tup (r_cons (r_str) (r_cons (r_tup (r_nil)) (r_cons (r_int) (r_nil))))) (r_nil)))) (r_nil)))))
    (z_cons (z_asg (x_nm ck 11) (r_bin rfl (r_v 11) (r_lst (r_cons (r_tup (r_cons (r_tup (r_cons (r_int) (r_cons (r_int) (r_cons (r_int) (r_cons (r_int) (r_cons (r_int) (r_nil))))))) (r_cons (r_tup (r_cons (r_str) (r_cons (r_int) (r_cons (r_int) (r_nil))))) (r_nil)))) (r_cons (r_tup (r_cons (r_tup (r_cons (r_int) (r_nil))) (r_cons (r_tup (r_cons (r_str) (r_cons (r_int) (r_cons (r_int) (r_nil))))) (r_nil)))) (r_cons (r_tup (r_cons (r_tup (r_cons (r_int) (r_cons (r_int) (r_nil)))) (r_cons (r_tup (r_cons (r_str) (r_cons (r_int) (r_cons (r_int) (r_nil))))) (r_nil)))) (r_nil)))))))
    (z_cons (z_asg (x_nm ck 11) (r_bin rfl (r_v 11) (r_lst (r_cons (r_tup (r_cons (r_tup (r_cons (r_int) (r_cons (r_int) (r_cons (r_int) (r_nil))))) (r_cons (r_tup (r_cons (r_str) (r_cons (r_int) (r_cons (r_int) (r_nil))))) (r_nil)))) (r_nil)))))
    (z_cons (z_asg (x_nm ck 11) (r_bin rfl (r_v 11) (r_lst (r_cons (r_tup (r_cons (r_tup (r_cons (r_int) (r_cons (r_int) (r_cons (r_int) (r_cons (r_int) (r_cons (r_int) (r_nil))))))) (r_cons (r_tup (r_cons (r_str) (r_cons (r_int) (r_cons (r_int) (r_nil))))) (r_nil)))) (r_cons (r_tup (r_cons (r_tup (r_cons (r_int) (r_cons (r_int) (r_cons (r_int) (r_cons (r_int) (r_cons (r_int) (r_cons (r_int) (r_nil)))))))) (r_cons (r_tup (r_cons (r_str) (r_cons (r_int) (r_cons (r_int) (r_nil))))) (r_nil)))) (r_cons (r_tup (r_cons (r_tup (r_cons (r_int) (r_cons (r_int) (r_cons (r_int) (r_cons (r_int) (r_nil)))))) (r_cons (r_tup (r_cons (r_str) (r_cons (r_int) (r_cons (r_int) (r_nil))))) (r_nil)))) (r_nil)))))))
    (z_cons (z_asg (x_nm ck 11) (r_bin rfl (r_v 11) (r_lst (r_cons (r_tup (r_cons (r_tup (r_cons (r_int) (r_cons (r_int) (r_cons (r_int) (r_cons (r_int) (r_nil)))))) (r_cons (r_non) (r_nil)))) (r_nil)))))
    (z_cons (z_asg (x_nm ck 11) (r_bin rfl (r_v 11) (r_lst (r_cons (r_tup (r_cons (r_tup (r_cons (r_int) (r_cons (r_int) (r_cons (r_int) (r_cons (r_int) (r_nil)))))) (r_cons (r_tup (r_cons (r_str) (r_cons (r_int) (r_cons (r_int) (r_nil))))) (r_nil)))) (r_cons (r_tup (r_cons (r_tup (r_cons (r_int) (r_cons (r_int) (r_cons (r_int) (r_cons (r_int) (r_cons (r_int) (r_nil))))))) (r_cons (r_tup (r_cons (r_str) (r_cons (r_int) (r_cons (r_int) (r_nil))))) (r_nil)))) (r_cons (r_tup (r_cons (r_tup (r_cons (r_int) (r_nil))) (r_cons (r_tup (r_cons (r_str) (r_cons (r_int) (r_cons (r_int) (r_nil))))) (r_nil)))) (r_nil)))))))
    (z_cons (z_asg (x_nm ck 11) (r_bin rfl (r_v 11) (r_lst (r_cons (r_tup (r_cons (r_tup (r_cons (r_int) (r_cons (r_int) (r_nil)))) (r_cons (r_tup (r_cons (r_str) (r_cons (r_int) (r_cons (r_int) (r_nil))))) (r_nil)))) (r_nil)))))
    (z_cons (z_for ck hp (q_seq (r_v 11)) (x_tup ck (x_cons ck 5 (x_cons ck 8 (x_nil)))) (z_one (z_if (t_cmp ck rfl (r_biB (b1_repr ck) z_repr (r_cons (r_call ck room C_chunks_in (r_cons (r_v 5) (r_nil))) (r_nil))) (r_biB (b1_repr ck) z_repr (r_cons (r_v 8) (r_nil)))) (z_one (z_ret (r_bl))) (z_nil))))
    (z_one (z_ret (r_bl)))))))))))))))))
theorem all_mk {w : World} {K : PySem.W.Frag} {h : Heap} {mg : Str → Option Value} {fa : Addr} (X : K.In h) (G : h.Ns mainGlobals mg) (hfa : mg "law" = some (.ref fa))
    {od_is_whole an_is_whole : Option Addr} {sl_is_whole : Array (Option Value)} {f_is_whole : Addr} {oc_is_whole kV_is_whole dc_is_whole pm_is_whole cd_is_whole ct_is_whole : Value}
    {od_is_tuple_of an_is_tuple_of : Option Addr} {sl_is_tuple_of : Array (Option Value)} {f_is_tuple_of : Addr} {oc_is_tuple_of kV_is_tuple_of dc_is_tuple_of pm_is_tuple_of cd_is_tuple_of ct_is_tuple_of : Value}
    {od_text_octets an_text_octets : Option Addr} {sl_text_octets : Array (Option Value)} {f_text_octets : Addr} {oc_text_octets kV_text_octets dc_text_octets pm_text_octets cd_text_octets ct_text_octets : Value}
    {od_worth_of an_worth_of : Option Addr} {sl_worth_of : Array (Option Value)} {f_worth_of : Addr} {oc_worth_of kV_worth_of dc_worth_of pm_worth_of cd_worth_of ct_worth_of : Value}
    {od_Chunks___init__ an_Chunks___init__ : Option Addr} {sl_Chunks___init__ : Array (Option Value)} {f_Chunks___init__ : Addr} {oc_Chunks___init__ kV_Chunks___init__ dc_Chunks___init__ pm_Chunks___init__ cd_Chunks___init__ ct_Chunks___init__ : Value}
    {od_hex_text an_hex_text : Option Addr} {sl_hex_text : Array (Option Value)} {f_hex_text : Addr} {oc_hex_text kV_hex_text dc_hex_text pm_hex_text cd_hex_text ct_hex_text : Value}
    {od__law_cup an__law_cup : Option Addr} {sl__law_cup : Array (Option Value)} {f__law_cup : Addr} {oc__law_cup kV__law_cup dc__law_cup pm__law_cup cd__law_cup ct__law_cup : Value}
    {od__law_roll an__law_roll : Option Addr} {sl__law_roll : Array (Option Value)} {f__law_roll : Addr} {oc__law_roll kV__law_roll dc__law_roll pm__law_roll cd__law_roll ct__law_roll : Value}
    {od__law_text an__law_text : Option Addr} {sl__law_text : Array (Option Value)} {f__law_text : Addr} {oc__law_text kV__law_text dc__law_text pm__law_text cd__law_text ct__law_text : Value}
    {od__law_chunks an__law_chunks : Option Addr} {sl__law_chunks : Array (Option Value)} {f__law_chunks : Addr} {oc__law_chunks kV__law_chunks dc__law_chunks pm__law_chunks cd__law_chunks ct__law_chunks : Value}
    {od_are_octets an_are_octets : Option Addr} {sl_are_octets : Array (Option Value)} {f_are_octets : Addr} {oc_are_octets kV_are_octets dc_are_octets pm_are_octets cd_are_octets ct_are_octets : Value}
    {od_lines_octets an_lines_octets : Option Addr} {sl_lines_octets : Array (Option Value)} {f_lines_octets : Addr} {oc_lines_octets kV_lines_octets dc_lines_octets pm_lines_octets cd_lines_octets ct_lines_octets : Value}
    {od_Chunks_can_stand an_Chunks_can_stand : Option Addr} {sl_Chunks_can_stand : Array (Option Value)} {f_Chunks_can_stand : Addr} {oc_Chunks_can_stand kV_Chunks_can_stand dc_Chunks_can_stand pm_Chunks_can_stand cd_Chunks_can_stand ct_Chunks_can_stand : Value}
    {od_Chunks_size an_Chunks_size : Option Addr} {sl_Chunks_size : Array (Option Value)} {f_Chunks_size : Addr} {oc_Chunks_size kV_Chunks_size dc_Chunks_size pm_Chunks_size cd_Chunks_size ct_Chunks_size : Value}
    {od_need_sizes an_need_sizes : Option Addr} {sl_need_sizes : Array (Option Value)} {f_need_sizes : Addr} {oc_need_sizes kV_need_sizes dc_need_sizes pm_need_sizes cd_need_sizes ct_need_sizes : Value}
    {od__law_some an__law_some : Option Addr} {sl__law_some : Array (Option Value)} {f__law_some : Addr} {oc__law_some kV__law_some dc__law_some pm__law_some cd__law_some ct__law_some : Value}
    {od__law_hex an__law_hex : Option Addr} {sl__law_hex : Array (Option Value)} {f__law_hex : Addr} {oc__law_hex kV__law_hex dc__law_hex pm__law_hex cd__law_hex ct__law_hex : Value}
    {od_need_octets an_need_octets : Option Addr} {sl_need_octets : Array (Option Value)} {f_need_octets : Addr} {oc_need_octets kV_need_octets dc_need_octets pm_need_octets cd_need_octets ct_need_octets : Value}
    {od_Chunks_fault an_Chunks_fault : Option Addr} {sl_Chunks_fault : Array (Option Value)} {f_Chunks_fault : Addr} {oc_Chunks_fault kV_Chunks_fault dc_Chunks_fault pm_Chunks_fault cd_Chunks_fault ct_Chunks_fault : Value}
    {od_Chunks_go_on an_Chunks_go_on : Option Addr} {sl_Chunks_go_on : Array (Option Value)} {f_Chunks_go_on : Addr} {oc_Chunks_go_on kV_Chunks_go_on dc_Chunks_go_on pm_Chunks_go_on cd_Chunks_go_on ct_Chunks_go_on : Value}
    {od_chunk_of an_chunk_of : Option Addr} {sl_chunk_of : Array (Option Value)} {f_chunk_of : Addr} {oc_chunk_of kV_chunk_of dc_chunk_of pm_chunk_of cd_chunk_of ct_chunk_of : Value}
    {od__law_cut an__law_cut : Option Addr} {sl__law_cut : Array (Option Value)} {f__law_cut : Addr} {oc__law_cut kV__law_cut dc__law_cut pm__law_cut cd__law_cut ct__law_cut : Value}
    {od__law_body an__law_body : Option Addr} {sl__law_body : Array (Option Value)} {f__law_body : Addr} {oc__law_body kV__law_body dc__law_body pm__law_body cd__law_body ct__law_body : Value}
    {od__law_due an__law_due : Option Addr} {sl__law_due : Array (Option Value)} {f__law_due : Addr} {oc__law_due kV__law_due dc__law_due pm__law_due cd__law_due ct__law_due : Value}
    {od__law_spoilt an__law_spoilt : Option Addr} {sl__law_spoilt : Array (Option Value)} {f__law_spoilt : Addr} {oc__law_spoilt kV__law_spoilt dc__law_spoilt pm__law_spoilt cd__law_spoilt ct__law_spoilt : Value}
    {od_chunks_by an_chunks_by : Option Addr} {sl_chunks_by : Array (Option Value)} {f_chunks_by : Addr} {oc_chunks_by kV_chunks_by dc_chunks_by pm_chunks_by cd_chunks_by ct_chunks_by : Value}
    {od_chunks_in an_chunks_in : Option Addr} {sl_chunks_in : Array (Option Value)} {f_chunks_in : Addr} {oc_chunks_in kV_chunks_in dc_chunks_in pm_chunks_in cd_chunks_in ct_chunks_in : Value}
    {od_chunks_of an_chunks_of : Option Addr} {sl_chunks_of : Array (Option Value)} {f_chunks_of : Addr} {oc_chunks_of kV_chunks_of dc_chunks_of pm_chunks_of cd_chunks_of ct_chunks_of : Value}
    {od_law an_law : Option Addr} {sl_law : Array (Option Value)} {f_law : Addr} {oc_law kV_law dc_law pm_law cd_law ct_law : Value}
    {A_Chunks : Addr}
    (aC_Chunks : PySem.W.nsIn K mainGlobals "Chunks" = some (some (.ref A_Chunks))) (pg_Chunks : PySem.W.plainGet K A_Chunks Str.empty = true) (hd_Chunks : PySem.W.hasDictIn K A_Chunks = true) (po_Chunks : PySem.W.plainOver K A_Chunks = true) (sa_Chunks : PySem.W.findIn K (.ref A_Chunks) "__setattr__" = some (some (.builtin "object.__setattr__"))) (mk_Chunks : PySem.W.makesIn K A_Chunks = true) (kc_Chunks : PySem.W.keepIn K (.ref A_Chunks) = true)
    (a_is_whole : PySem.W.nsIn K mainGlobals "is_whole" = some (some (.ref f_is_whole))) (l_is_whole : K.lookup f_is_whole = some ⟨oc_is_whole, od_is_whole, .func (PySem.W.fnOf "is_whole" "is_whole" (defArgs (topS 5)) (defBody (topS 5)) (defScope (topS 5)) .none kV_is_whole dc_is_whole pm_is_whole an_is_whole cd_is_whole ct_is_whole), sl_is_whole⟩) (e_is_whole : PySem.W.codeIn K cd_is_whole "is_whole" = true) (k_is_whole : PySem.W.keepIn K (.ref f_is_whole) = true)
    (a_is_tuple_of : PySem.W.nsIn K mainGlobals "is_tuple_of" = some (some (.ref f_is_tuple_of))) (l_is_tuple_of : K.lookup f_is_tuple_of = some ⟨oc_is_tuple_of, od_is_tuple_of, .func (PySem.W.fnOf "is_tuple_of" "is_tuple_of" (defArgs (topS 6)) (defBody (topS 6)) (defScope (topS 6)) .none kV_is_tuple_of dc_is_tuple_of pm_is_tuple_of an_is_tuple_of cd_is_tuple_of ct_is_tuple_of), sl_is_tuple_of⟩) (e_is_tuple_of : PySem.W.codeIn K cd_is_tuple_of "is_tuple_of" = true) (k_is_tuple_of : PySem.W.keepIn K (.ref f_is_tuple_of) = true)
    (a_text_octets : PySem.W.nsIn K mainGlobals "text_octets" = some (some (.ref f_text_octets))) (l_text_octets : K.lookup f_text_octets = some ⟨oc_text_octets, od_text_octets, .func (PySem.W.fnOf "text_octets" "text_octets" (defArgs (topS 10)) (defBody (topS 10)) (defScope (topS 10)) .none kV_text_octets dc_text_octets pm_text_octets an_text_octets cd_text_octets ct_text_octets), sl_text_octets⟩) (e_text_octets : PySem.W.codeIn K cd_text_octets "text_octets" = true) (k_text_octets : PySem.W.keepIn K (.ref f_text_octets) = true)
    (a_worth_of : PySem.W.nsIn K mainGlobals "worth_of" = some (some (.ref f_worth_of))) (l_worth_of : K.lookup f_worth_of = some ⟨oc_worth_of, od_worth_of, .func (PySem.W.fnOf "worth_of" "worth_of" (defArgs (topS 19)) (defBody (topS 19)) (defScope (topS 19)) .none kV_worth_of dc_worth_of pm_worth_of an_worth_of cd_worth_of ct_worth_of), sl_worth_of⟩) (e_worth_of : PySem.W.codeIn K cd_worth_of "worth_of" = true) (k_worth_of : PySem.W.keepIn K (.ref f_worth_of) = true)
    (a_Chunks___init__ : PySem.W.findIn K (.ref A_Chunks) "__init__" = some (some (.ref f_Chunks___init__))) (i_Chunks___init__ : PySem.W.isFn K (.ref f_Chunks___init__) = true) (l_Chunks___init__ : K.lookup f_Chunks___init__ = some ⟨oc_Chunks___init__, od_Chunks___init__, .func (PySem.W.fnOf "__init__" "Chunks.__init__" (defArgs (inClass (topS 20) 0)) (defBody (inClass (topS 20) 0)) (defScope (inClass (topS 20) 0)) .none kV_Chunks___init__ dc_Chunks___init__ pm_Chunks___init__ an_Chunks___init__ cd_Chunks___init__ ct_Chunks___init__), sl_Chunks___init__⟩) (e_Chunks___init__ : PySem.W.codeIn K cd_Chunks___init__ "Chunks.__init__" = true) (k_Chunks___init__ : PySem.W.keepIn K (.ref f_Chunks___init__) = true)
    (a_hex_text : PySem.W.nsIn K mainGlobals "hex_text" = some (some (.ref f_hex_text))) (l_hex_text : K.lookup f_hex_text = some ⟨oc_hex_text, od_hex_text, .func (PySem.W.fnOf "hex_text" "hex_text" (defArgs (topS 21)) (defBody (topS 21)) (defScope (topS 21)) .none kV_hex_text dc_hex_text pm_hex_text an_hex_text cd_hex_text ct_hex_text), sl_hex_text⟩) (e_hex_text : PySem.W.codeIn K cd_hex_text "hex_text" = true) (k_hex_text : PySem.W.keepIn K (.ref f_hex_text) = true)
    (a__law_cup : PySem.W.nsIn K mainGlobals "_law_cup" = some (some (.ref f__law_cup))) (l__law_cup : K.lookup f__law_cup = some ⟨oc__law_cup, od__law_cup, .func (PySem.W.fnOf "_law_cup" "_law_cup" (defArgs (topS 28)) (defBody (topS 28)) (defScope (topS 28)) .none kV__law_cup dc__law_cup pm__law_cup an__law_cup cd__law_cup ct__law_cup), sl__law_cup⟩) (e__law_cup : PySem.W.codeIn K cd__law_cup "_law_cup" = true) (k__law_cup : PySem.W.keepIn K (.ref f__law_cup) = true)
    (a__law_roll : PySem.W.nsIn K mainGlobals "_law_roll" = some (some (.ref f__law_roll))) (l__law_roll : K.lookup f__law_roll = some ⟨oc__law_roll, od__law_roll, .func (PySem.W.fnOf "_law_roll" "_law_roll" (defArgs (topS 29)) (defBody (topS 29)) (defScope (topS 29)) .none kV__law_roll dc__law_roll pm__law_roll an__law_roll cd__law_roll ct__law_roll), sl__law_roll⟩) (e__law_roll : PySem.W.codeIn K cd__law_roll "_law_roll" = true) (k__law_roll : PySem.W.keepIn K (.ref f__law_roll) = true)
    (a__law_text : PySem.W.nsIn K mainGlobals "_law_text" = some (some (.ref f__law_text))) (l__law_text : K.lookup f__law_text = some ⟨oc__law_text, od__law_text, .func (PySem.W.fnOf "_law_text" "_law_text" (defArgs (topS 31)) (defBody (topS 31)) (defScope (topS 31)) .none kV__law_text dc__law_text pm__law_text an__law_text cd__law_text ct__law_text), sl__law_text⟩) (e__law_text : PySem.W.codeIn K cd__law_text "_law_text" = true) (k__law_text : PySem.W.keepIn K (.ref f__law_text) = true)
    (a__law_chunks : PySem.W.nsIn K mainGlobals "_law_chunks" = some (some (.ref f__law_chunks))) (l__law_chunks : K.lookup f__law_chunks = some ⟨oc__law_chunks, od__law_chunks, .func (PySem.W.fnOf "_law_chunks" "_law_chunks" (defArgs (topS 32)) (defBody (topS 32)) (defScope (topS 32)) .none kV__law_chunks dc__law_chunks pm__law_chunks an__law_chunks cd__law_chunks ct__law_chunks), sl__law_chunks⟩) (e__law_chunks : PySem.W.codeIn K cd__law_chunks "_law_chunks" = true) (k__law_chunks : PySem.W.keepIn K (.ref f__law_chunks) = true)
    (a_are_octets : PySem.W.nsIn K mainGlobals "are_octets" = some (some (.ref f_are_octets))) (l_are_octets : K.lookup f_are_octets = some ⟨oc_are_octets, od_are_octets, .func (PySem.W.fnOf "are_octets" "are_octets" (defArgs (topS 8)) (defBody (topS 8)) (defScope (topS 8)) .none kV_are_octets dc_are_octets pm_are_octets an_are_octets cd_are_octets ct_are_octets), sl_are_octets⟩) (e_are_octets : PySem.W.codeIn K cd_are_octets "are_octets" = true) (k_are_octets : PySem.W.keepIn K (.ref f_are_octets) = true)
    (a_lines_octets : PySem.W.nsIn K mainGlobals "lines_octets" = some (some (.ref f_lines_octets))) (l_lines_octets : K.lookup f_lines_octets = some ⟨oc_lines_octets, od_lines_octets, .func (PySem.W.fnOf "lines_octets" "lines_octets" (defArgs (topS 11)) (defBody (topS 11)) (defScope (topS 11)) .none kV_lines_octets dc_lines_octets pm_lines_octets an_lines_octets cd_lines_octets ct_lines_octets), sl_lines_octets⟩) (e_lines_octets : PySem.W.codeIn K cd_lines_octets "lines_octets" = true) (k_lines_octets : PySem.W.keepIn K (.ref f_lines_octets) = true)
    (a_Chunks_can_stand : PySem.W.findIn K (.ref A_Chunks) "can_stand" = some (some (.ref f_Chunks_can_stand))) (i_Chunks_can_stand : PySem.W.isFn K (.ref f_Chunks_can_stand) = true) (l_Chunks_can_stand : K.lookup f_Chunks_can_stand = some ⟨oc_Chunks_can_stand, od_Chunks_can_stand, .func (PySem.W.fnOf "can_stand" "Chunks.can_stand" (defArgs (inClass (topS 20) 1)) (defBody (inClass (topS 20) 1)) (defScope (inClass (topS 20) 1)) .none kV_Chunks_can_stand dc_Chunks_can_stand pm_Chunks_can_stand an_Chunks_can_stand cd_Chunks_can_stand ct_Chunks_can_stand), sl_Chunks_can_stand⟩) (e_Chunks_can_stand : PySem.W.codeIn K cd_Chunks_can_stand "Chunks.can_stand" = true) (k_Chunks_can_stand : PySem.W.keepIn K (.ref f_Chunks_can_stand) = true)
    (a_Chunks_size : PySem.W.findIn K (.ref A_Chunks) "size" = some (some (.ref f_Chunks_size))) (i_Chunks_size : PySem.W.isFn K (.ref f_Chunks_size) = true) (l_Chunks_size : K.lookup f_Chunks_size = some ⟨oc_Chunks_size, od_Chunks_size, .func (PySem.W.fnOf "size" "Chunks.size" (defArgs (inClass (topS 20) 4)) (defBody (inClass (topS 20) 4)) (defScope (inClass (topS 20) 4)) .none kV_Chunks_size dc_Chunks_size pm_Chunks_size an_Chunks_size cd_Chunks_size ct_Chunks_size), sl_Chunks_size⟩) (e_Chunks_size : PySem.W.codeIn K cd_Chunks_size "Chunks.size" = true) (k_Chunks_size : PySem.W.keepIn K (.ref f_Chunks_size) = true)
    (a_need_sizes : PySem.W.nsIn K mainGlobals "need_sizes" = some (some (.ref f_need_sizes))) (l_need_sizes : K.lookup f_need_sizes = some ⟨oc_need_sizes, od_need_sizes, .func (PySem.W.fnOf "need_sizes" "need_sizes" (defArgs (topS 22)) (defBody (topS 22)) (defScope (topS 22)) .none kV_need_sizes dc_need_sizes pm_need_sizes an_need_sizes cd_need_sizes ct_need_sizes), sl_need_sizes⟩) (e_need_sizes : PySem.W.codeIn K cd_need_sizes "need_sizes" = true) (k_need_sizes : PySem.W.keepIn K (.ref f_need_sizes) = true)
    (a__law_some : PySem.W.nsIn K mainGlobals "_law_some" = some (some (.ref f__law_some))) (l__law_some : K.lookup f__law_some = some ⟨oc__law_some, od__law_some, .func (PySem.W.fnOf "_law_some" "_law_some" (defArgs (topS 30)) (defBody (topS 30)) (defScope (topS 30)) .none kV__law_some dc__law_some pm__law_some an__law_some cd__law_some ct__law_some), sl__law_some⟩) (e__law_some : PySem.W.codeIn K cd__law_some "_law_some" = true) (k__law_some : PySem.W.keepIn K (.ref f__law_some) = true)
    (a__law_hex : PySem.W.nsIn K mainGlobals "_law_hex" = some (some (.ref f__law_hex))) (l__law_hex : K.lookup f__law_hex = some ⟨oc__law_hex, od__law_hex, .func (PySem.W.fnOf "_law_hex" "_law_hex" (defArgs (topS 35)) (defBody (topS 35)) (defScope (topS 35)) .none kV__law_hex dc__law_hex pm__law_hex an__law_hex cd__law_hex ct__law_hex), sl__law_hex⟩) (e__law_hex : PySem.W.codeIn K cd__law_hex "_law_hex" = true) (k__law_hex : PySem.W.keepIn K (.ref f__law_hex) = true)
    (a_need_octets : PySem.W.nsIn K mainGlobals "need_octets" = some (some (.ref f_need_octets))) (l_need_octets : K.lookup f_need_octets = some ⟨oc_need_octets, od_need_octets, .func (PySem.W.fnOf "need_octets" "need_octets" (defArgs (topS 9)) (defBody (topS 9)) (defScope (topS 9)) .none kV_need_octets dc_need_octets pm_need_octets an_need_octets cd_need_octets ct_need_octets), sl_need_octets⟩) (e_need_octets : PySem.W.codeIn K cd_need_octets "need_octets" = true) (k_need_octets : PySem.W.keepIn K (.ref f_need_octets) = true)
    (a_Chunks_fault : PySem.W.findIn K (.ref A_Chunks) "fault" = some (some (.ref f_Chunks_fault))) (i_Chunks_fault : PySem.W.isFn K (.ref f_Chunks_fault) = true) (l_Chunks_fault : K.lookup f_Chunks_fault = some ⟨oc_Chunks_fault, od_Chunks_fault, .func (PySem.W.fnOf "fault" "Chunks.fault" (defArgs (inClass (topS 20) 2)) (defBody (inClass (topS 20) 2)) (defScope (inClass (topS 20) 2)) .none kV_Chunks_fault dc_Chunks_fault pm_Chunks_fault an_Chunks_fault cd_Chunks_fault ct_Chunks_fault), sl_Chunks_fault⟩) (e_Chunks_fault : PySem.W.codeIn K cd_Chunks_fault "Chunks.fault" = true) (k_Chunks_fault : PySem.W.keepIn K (.ref f_Chunks_fault) = true)
    (a_Chunks_go_on : PySem.W.findIn K (.ref A_Chunks) "go_on" = some (some (.ref f_Chunks_go_on))) (i_Chunks_go_on : PySem.W.isFn K (.ref f_Chunks_go_on) = true) (l_Chunks_go_on : K.lookup f_Chunks_go_on = some ⟨oc_Chunks_go_on, od_Chunks_go_on, .func (PySem.W.fnOf "go_on" "Chunks.go_on" (defArgs (inClass (topS 20) 3)) (defBody (inClass (topS 20) 3)) (defScope (inClass (topS 20) 3)) .none kV_Chunks_go_on dc_Chunks_go_on pm_Chunks_go_on an_Chunks_go_on cd_Chunks_go_on ct_Chunks_go_on), sl_Chunks_go_on⟩) (e_Chunks_go_on : PySem.W.codeIn K cd_Chunks_go_on "Chunks.go_on" = true) (k_Chunks_go_on : PySem.W.keepIn K (.ref f_Chunks_go_on) = true)
    (a_chunk_of : PySem.W.nsIn K mainGlobals "chunk_of" = some (some (.ref f_chunk_of))) (l_chunk_of : K.lookup f_chunk_of = some ⟨oc_chunk_of, od_chunk_of, .func (PySem.W.fnOf "chunk_of" "chunk_of" (defArgs (topS 23)) (defBody (topS 23)) (defScope (topS 23)) .none kV_chunk_of dc_chunk_of pm_chunk_of an_chunk_of cd_chunk_of ct_chunk_of), sl_chunk_of⟩) (e_chunk_of : PySem.W.codeIn K cd_chunk_of "chunk_of" = true) (k_chunk_of : PySem.W.keepIn K (.ref f_chunk_of) = true)
    (a__law_cut : PySem.W.nsIn K mainGlobals "_law_cut" = some (some (.ref f__law_cut))) (l__law_cut : K.lookup f__law_cut = some ⟨oc__law_cut, od__law_cut, .func (PySem.W.fnOf "_law_cut" "_law_cut" (defArgs (topS 33)) (defBody (topS 33)) (defScope (topS 33)) .none kV__law_cut dc__law_cut pm__law_cut an__law_cut cd__law_cut ct__law_cut), sl__law_cut⟩) (e__law_cut : PySem.W.codeIn K cd__law_cut "_law_cut" = true) (k__law_cut : PySem.W.keepIn K (.ref f__law_cut) = true)
    (a__law_body : PySem.W.nsIn K mainGlobals "_law_body" = some (some (.ref f__law_body))) (l__law_body : K.lookup f__law_body = some ⟨oc__law_body, od__law_body, .func (PySem.W.fnOf "_law_body" "_law_body" (defArgs (topS 34)) (defBody (topS 34)) (defScope (topS 34)) .none kV__law_body dc__law_body pm__law_body an__law_body cd__law_body ct__law_body), sl__law_body⟩) (e__law_body : PySem.W.codeIn K cd__law_body "_law_body" = true) (k__law_body : PySem.W.keepIn K (.ref f__law_body) = true)
    (a__law_due : PySem.W.nsIn K mainGlobals "_law_due" = some (some (.ref f__law_due))) (l__law_due : K.lookup f__law_due = some ⟨oc__law_due, od__law_due, .func (PySem.W.fnOf "_law_due" "_law_due" (defArgs (topS 36)) (defBody (topS 36)) (defScope (topS 36)) .none kV__law_due dc__law_due pm__law_due an__law_due cd__law_due ct__law_due), sl__law_due⟩) (e__law_due : PySem.W.codeIn K cd__law_due "_law_due" = true) (k__law_due : PySem.W.keepIn K (.ref f__law_due) = true)
    (a__law_spoilt : PySem.W.nsIn K mainGlobals "_law_spoilt" = some (some (.ref f__law_spoilt))) (l__law_spoilt : K.lookup f__law_spoilt = some ⟨oc__law_spoilt, od__law_spoilt, .func (PySem.W.fnOf "_law_spoilt" "_law_spoilt" (defArgs (topS 37)) (defBody (topS 37)) (defScope (topS 37)) .none kV__law_spoilt dc__law_spoilt pm__law_spoilt an__law_spoilt cd__law_spoilt ct__law_spoilt), sl__law_spoilt⟩) (e__law_spoilt : PySem.W.codeIn K cd__law_spoilt "_law_spoilt" = true) (k__law_spoilt : PySem.W.keepIn K (.ref f__law_spoilt) = true)
    (a_chunks_by : PySem.W.nsIn K mainGlobals "chunks_by" = some (some (.ref f_chunks_by))) (l_chunks_by : K.lookup f_chunks_by = some ⟨oc_chunks_by, od_chunks_by, .func (PySem.W.fnOf "chunks_by" "chunks_by" (defArgs (topS 24)) (defBody (topS 24)) (defScope (topS 24)) .none kV_chunks_by dc_chunks_by pm_chunks_by an_chunks_by cd_chunks_by ct_chunks_by), sl_chunks_by⟩) (e_chunks_by : PySem.W.codeIn K cd_chunks_by "chunks_by" = true) (k_chunks_by : PySem.W.keepIn K (.ref f_chunks_by) = true)
    (a_chunks_in : PySem.W.nsIn K mainGlobals "chunks_in" = some (some (.ref f_chunks_in))) (l_chunks_in : K.lookup f_chunks_in = some ⟨oc_chunks_in, od_chunks_in, .func (PySem.W.fnOf "chunks_in" "chunks_in" (defArgs (topS 26)) (defBody (topS 26)) (defScope (topS 26)) .none kV_chunks_in dc_chunks_in pm_chunks_in an_chunks_in cd_chunks_in ct_chunks_in), sl_chunks_in⟩) (e_chunks_in : PySem.W.codeIn K cd_chunks_in "chunks_in" = true) (k_chunks_in : PySem.W.keepIn K (.ref f_chunks_in) = true)
    (a_chunks_of : PySem.W.nsIn K mainGlobals "chunks_of" = some (some (.ref f_chunks_of))) (l_chunks_of : K.lookup f_chunks_of = some ⟨oc_chunks_of, od_chunks_of, .func (PySem.W.fnOf "chunks_of" "chunks_of" (defArgs (topS 25)) (defBody (topS 25)) (defScope (topS 25)) .none kV_chunks_of dc_chunks_of pm_chunks_of an_chunks_of cd_chunks_of ct_chunks_of), sl_chunks_of⟩) (e_chunks_of : PySem.W.codeIn K cd_chunks_of "chunks_of" = true) (k_chunks_of : PySem.W.keepIn K (.ref f_chunks_of) = true)
    (a_law : PySem.W.nsIn K mainGlobals "law" = some (some (.ref f_law))) (l_law : K.lookup f_law = some ⟨oc_law, od_law, .func (PySem.W.fnOf "law" "law" (defArgs (topS 38)) (defBody (topS 38)) (defScope (topS 38)) .none kV_law dc_law pm_law an_law cd_law ct_law), sl_law⟩) (e_law : PySem.W.codeIn K cd_law "law" = true) (k_law : PySem.W.keepIn K (.ref f_law) = true)
    (n_Chunks_body : PySem.W.findIn K (.ref A_Chunks) "body" = some none)
    (n_Chunks_digits : PySem.W.findIn K (.ref A_Chunks) "digits" = some none)
    (n_Chunks_left : PySem.W.findIn K (.ref A_Chunks) "left" = some none)
    (n_Chunks_number : PySem.W.findIn K (.ref A_Chunks) "number" = some none)
    (n_Chunks_place : PySem.W.findIn K (.ref A_Chunks) "place" = some none)
    (z_abs : PySem.W.nsIn K mainGlobals "abs" = some none)
    (z_all : PySem.W.nsIn K mainGlobals "all" = some none)
    (z_bool : PySem.W.nsIn K mainGlobals "bool" = some none)
    (z_enumerate : PySem.W.nsIn K mainGlobals "enumerate" = some none)
    (z_int : PySem.W.nsIn K mainGlobals "int" = some none)
    (z_isinstance : PySem.W.nsIn K mainGlobals "isinstance" = some none)
    (z_len : PySem.W.nsIn K mainGlobals "len" = some none)
    (z_list : PySem.W.nsIn K mainGlobals "list" = some none)
    (z_min : PySem.W.nsIn K mainGlobals "min" = some none)
    (z_ord : PySem.W.nsIn K mainGlobals "ord" = some none)
    (z_range : PySem.W.nsIn K mainGlobals "range" = some none)
    (z_repr : PySem.W.nsIn K mainGlobals "repr" = some none)
    (z_tuple : PySem.W.nsIn K mainGlobals "tuple" = some none)
    {t_BODY : Tok} (c_BODY : PySem.W.nsIn K mainGlobals "BODY" = some (some (.int 300 t_BODY)))
    {t_DIGITS : Tok} (c_DIGITS : PySem.W.nsIn K mainGlobals "DIGITS" = some (some (.int 4 t_DIGITS)))
    {t_HEX : Tok} (c_HEX : PySem.W.nsIn K mainGlobals "HEX" = some (some (.str "0123456789abcdef" t_HEX)))
    {r_NEXT : Addr} {i_NEXT : Array DictEntry} {n_NEXT : Nat} (c_NEXT : PySem.W.nsIn K mainGlobals "NEXT" = some (some (.ref r_NEXT))) (u_NEXT : K.lookup r_NEXT = some ⟨.type "dict", none, .dict i_NEXT n_NEXT, #[]⟩) (w_NEXT : (r_NEXT == sysModules) = false) (v_NEXT : TblOk w i_NEXT.toList t_NEXT)
    {t_ROW : Tok} (c_ROW : PySem.W.nsIn K mainGlobals "ROW" = some (some (.int 2000 t_ROW)))
    {t_SIZES : Tok} (c_SIZES : PySem.W.nsIn K mainGlobals "SIZES" = some (some (.int 300 t_SIZES))) :
    ∃ (ca : Nat → Addr), ∃ fd : FuncData, (∀ (s : Shared) (v : Value), BindsTo s fd ⟨[v], []⟩ [("script", v)]) ∧ ∀ base : Heap, K.In base → base.Ns mainGlobals mg → Gn pgm w K mg base ca 6 fa fd ["script"] m_law := by
  have eq := hfa.symm.trans (PySem.W.mg_of X G a_law)
  cases eq
  have y_abs : mg "abs" = none := PySem.W.mg_none_of X G z_abs
  have y_all : mg "all" = none := PySem.W.mg_none_of X G z_all
  have y_bool : mg "bool" = none := PySem.W.mg_none_of X G z_bool
  have y_enumerate : mg "enumerate" = none := PySem.W.mg_none_of X G z_enumerate
  have y_int : mg "int" = none := PySem.W.mg_none_of X G z_int
  have y_isinstance : mg "isinstance" = none := PySem.W.mg_none_of X G z_isinstance
  have y_len : mg "len" = none := PySem.W.mg_none_of X G z_len
  have y_list : mg "list" = none := PySem.W.mg_none_of X G z_list
  have y_min : mg "min" = none := PySem.W.mg_none_of X G z_min
  have y_ord : mg "ord" = none := PySem.W.mg_none_of X G z_ord
  have y_range : mg "range" = none := PySem.W.mg_none_of X G z_range
  have y_repr : mg "repr" = none := PySem.W.mg_none_of X G z_repr
  have y_tuple : mg "tuple" = none := PySem.W.mg_none_of X G z_tuple
  have g_BODY : Gc K mg "BODY" (.int 300) := Gc.int (PySem.W.mg_of X G c_BODY)
  have g_DIGITS : Gc K mg "DIGITS" (.int 4) := Gc.int (PySem.W.mg_of X G c_DIGITS)
  have g_HEX : Gc K mg "HEX" (.str "0123456789abcdef") := Gc.str (PySem.W.mg_of X G c_HEX)
  have g_NEXT : Gd K w mg "NEXT" t_NEXT := ⟨⟨r_NEXT, i_NEXT, n_NEXT, PySem.W.mg_of X G c_NEXT, u_NEXT, w_NEXT, v_NEXT⟩⟩
  have g_ROW : Gc K mg "ROW" (.int 2000) := Gc.int (PySem.W.mg_of X G c_ROW)
  have g_SIZES : Gc K mg "SIZES" (.int 300) := Gc.int (PySem.W.mg_of X G c_SIZES)
  refine ⟨fun _ => A_Chunks, PySem.W.fnOf "law" "law" (defArgs (topS 38)) (defBody (topS 38)) (defScope (topS 38)) .none kV_law dc_law pm_law an_law cd_law ct_law, fun s v => .of_eq rfl, fun base _ _ => ?_⟩
  have cl_Chunks : Cls K A_Chunks := ⟨pg_Chunks, hd_Chunks, po_Chunks, sa_Chunks⟩
  have x_Chunks_body : Fa K (fun _ => A_Chunks) 0 "body" := ⟨cl_Chunks, n_Chunks_body⟩
  have x_Chunks_digits : Fa K (fun _ => A_Chunks) 0 "digits" := ⟨cl_Chunks, n_Chunks_digits⟩
  have x_Chunks_left : Fa K (fun _ => A_Chunks) 0 "left" := ⟨cl_Chunks, n_Chunks_left⟩
  have x_Chunks_number : Fa K (fun _ => A_Chunks) 0 "number" := ⟨cl_Chunks, n_Chunks_number⟩
  have x_Chunks_place : Fa K (fun _ => A_Chunks) 0 "place" := ⟨cl_Chunks, n_Chunks_place⟩
  have F_is_whole := fun_mk (st := topS 5) l_is_whole e_is_whole k_is_whole
  have C_is_whole : Cl pgm w K mg base (fun _ => A_Chunks) 1 "is_whole" m_is_whole := ⟨⟨f_is_whole, _, _, d_is_whole F_is_whole y_isinstance y_bool y_int, PySem.W.mg_of X G a_is_whole, k_is_whole, F_is_whole.binds (ps := ["value", "low", "high"]) fun _ _ _ _ _ _ us hl => match us, hl with | [_, _, _], _ => rfl⟩⟩
  have F_is_tuple_of := fun_mk (st := topS 6) l_is_tuple_of e_is_tuple_of k_is_tuple_of
  have C_is_tuple_of : Cl pgm w K mg base (fun _ => A_Chunks) 1 "is_tuple_of" m_is_tuple_of := ⟨⟨f_is_tuple_of, _, _, d_is_tuple_of F_is_tuple_of y_len y_isinstance y_tuple, PySem.W.mg_of X G a_is_tuple_of, k_is_tuple_of, F_is_tuple_of.binds (ps := ["value", "low", "high"]) fun _ _ _ _ _ _ us hl => match us, hl with | [_, _, _], _ => rfl⟩⟩
  have F_text_octets := fun_mk (st := topS 10) l_text_octets e_text_octets k_text_octets
  have C_text_octets : Cl pgm w K mg base (fun _ => A_Chunks) 1 "text_octets" m_text_octets := ⟨⟨f_text_octets, _, _, d_text_octets F_text_octets y_ord y_tuple, PySem.W.mg_of X G a_text_octets, k_text_octets, F_text_octets.binds (ps := ["text"]) fun _ _ _ _ _ _ us hl => match us, hl with | [_], _ => rfl⟩⟩
  have F_worth_of := fun_mk (st := topS 19) l_worth_of e_worth_of k_worth_of
  have C_worth_of : Cl pgm w K mg base (fun _ => A_Chunks) 1 "worth_of" m_worth_of := ⟨⟨f_worth_of, _, _, d_worth_of F_worth_of , PySem.W.mg_of X G a_worth_of, k_worth_of, F_worth_of.binds (ps := ["octet"]) fun _ _ _ _ _ _ us hl => match us, hl with | [_], _ => rfl⟩⟩
  have F_Chunks___init__ := fun_mk (st := inClass (topS 20) 0) l_Chunks___init__ e_Chunks___init__ k_Chunks___init__
  have N_Chunks : Mn pgm w K mg base (fun _ => A_Chunks) 1 0 "Chunks" m_Chunks___init__ := ⟨⟨f_Chunks___init__, _, _, d_Chunks___init__ F_Chunks___init__ x_Chunks_place x_Chunks_digits x_Chunks_number x_Chunks_left x_Chunks_body, ⟨mk_Chunks, a_Chunks___init__, i_Chunks___init__, kc_Chunks⟩, PySem.W.mg_of X G aC_Chunks, F_Chunks___init__.binds (ps := ["self"]) fun _ _ _ _ _ _ us hl => match us, hl with | [_], _ => rfl⟩⟩
  have F_hex_text := fun_mk (st := topS 21) l_hex_text e_hex_text k_hex_text
  have C_hex_text : Cl pgm w K mg base (fun _ => A_Chunks) 1 "hex_text" m_hex_text := ⟨⟨f_hex_text, _, _, d_hex_text F_hex_text g_HEX, PySem.W.mg_of X G a_hex_text, k_hex_text, F_hex_text.binds (ps := ["number"]) fun _ _ _ _ _ _ us hl => match us, hl with | [_], _ => rfl⟩⟩
  have F__law_cup := fun_mk (st := topS 28) l__law_cup e__law_cup k__law_cup
  have C__law_cup : Cl pgm w K mg base (fun _ => A_Chunks) 1 "_law_cup" m__law_cup := ⟨⟨f__law_cup, _, _, d__law_cup F__law_cup y_list y_abs y_int, PySem.W.mg_of X G a__law_cup, k__law_cup, F__law_cup.binds (ps := ["script"]) fun _ _ _ _ _ _ us hl => match us, hl with | [_], _ => rfl⟩⟩
  have F__law_roll := fun_mk (st := topS 29) l__law_roll e__law_roll k__law_roll
  have C__law_roll : Cl pgm w K mg base (fun _ => A_Chunks) 1 "_law_roll" m__law_roll := ⟨⟨f__law_roll, _, _, d__law_roll F__law_roll y_int, PySem.W.mg_of X G a__law_roll, k__law_roll, F__law_roll.binds (ps := ["cup", "many"]) fun _ _ _ _ _ _ us hl => match us, hl with | [_, _], _ => rfl⟩⟩
  have F__law_text := fun_mk (st := topS 31) l__law_text e__law_text k__law_text
  have C__law_text : Cl pgm w K mg base (fun _ => A_Chunks) 1 "_law_text" m__law_text := ⟨⟨f__law_text, _, _, d__law_text F__law_text y_tuple, PySem.W.mg_of X G a__law_text, k__law_text, F__law_text.binds (ps := ["text"]) fun _ _ _ _ _ _ us hl => match us, hl with | [_], _ => rfl⟩⟩
  have F__law_chunks := fun_mk (st := topS 32) l__law_chunks e__law_chunks k__law_chunks
  have C__law_chunks : Cl pgm w K mg base (fun _ => A_Chunks) 1 "_law_chunks" m__law_chunks := ⟨⟨f__law_chunks, _, _, d__law_chunks F__law_chunks y_range y_len y_min, PySem.W.mg_of X G a__law_chunks, k__law_chunks, F__law_chunks.binds (ps := ["row"]) fun _ _ _ _ _ _ us hl => match us, hl with | [_], _ => rfl⟩⟩
  have F_are_octets := fun_mk (st := topS 8) l_are_octets e_are_octets k_are_octets
  have C_are_octets : Cl pgm w K mg base (fun _ => A_Chunks) 2 "are_octets" m_are_octets := ⟨⟨f_are_octets, _, _, d_are_octets F_are_octets C_is_whole y_all C_is_tuple_of, PySem.W.mg_of X G a_are_octets, k_are_octets, F_are_octets.binds (ps := ["value", "most"]) fun _ _ _ _ _ _ us hl => match us, hl with | [_, _], _ => rfl⟩⟩
  have F_lines_octets := fun_mk (st := topS 11) l_lines_octets e_lines_octets k_lines_octets
  have C_lines_octets : Cl pgm w K mg base (fun _ => A_Chunks) 2 "lines_octets" m_lines_octets := ⟨⟨f_lines_octets, _, _, d_lines_octets F_lines_octets C_text_octets y_tuple, PySem.W.mg_of X G a_lines_octets, k_lines_octets, F_lines_octets.binds (ps := ["lines"]) fun _ _ _ _ _ _ us hl => match us, hl with | [_], _ => rfl⟩⟩
  have F_Chunks_can_stand := fun_mk (st := inClass (topS 20) 1) l_Chunks_can_stand e_Chunks_can_stand k_Chunks_can_stand
  have M_Chunks_can_stand : Mt pgm w K mg base (fun _ => A_Chunks) 2 0 "can_stand" m_Chunks_can_stand := ⟨⟨f_Chunks_can_stand, _, _, d_Chunks_can_stand F_Chunks_can_stand x_Chunks_place x_Chunks_digits g_DIGITS C_worth_of g_NEXT, ⟨a_Chunks_can_stand, i_Chunks_can_stand, k_Chunks_can_stand⟩, cl_Chunks, F_Chunks_can_stand.binds (ps := ["self", "octet"]) fun _ _ _ _ _ _ us hl => match us, hl with | [_, _], _ => rfl⟩⟩
  have F_Chunks_size := fun_mk (st := inClass (topS 20) 4) l_Chunks_size e_Chunks_size k_Chunks_size
  have M_Chunks_size : Mt pgm w K mg base (fun _ => A_Chunks) 2 0 "size" m_Chunks_size := ⟨⟨f_Chunks_size, _, _, d_Chunks_size F_Chunks_size x_Chunks_place x_Chunks_number x_Chunks_digits C_worth_of, ⟨a_Chunks_size, i_Chunks_size, k_Chunks_size⟩, cl_Chunks, F_Chunks_size.binds (ps := ["self", "octet"]) fun _ _ _ _ _ _ us hl => match us, hl with | [_, _], _ => rfl⟩⟩
  have F_need_sizes := fun_mk (st := topS 22) l_need_sizes e_need_sizes k_need_sizes
  have C_need_sizes : Cl pgm w K mg base (fun _ => A_Chunks) 2 "need_sizes" m_need_sizes := ⟨⟨f_need_sizes, _, _, d_need_sizes F_need_sizes C_is_whole g_BODY y_all C_is_tuple_of g_SIZES, PySem.W.mg_of X G a_need_sizes, k_need_sizes, F_need_sizes.binds (ps := ["value"]) fun _ _ _ _ _ _ us hl => match us, hl with | [_], _ => rfl⟩⟩
  have F__law_some := fun_mk (st := topS 30) l__law_some e__law_some k__law_some
  have C__law_some : Cl pgm w K mg base (fun _ => A_Chunks) 2 "_law_some" m__law_some := ⟨⟨f__law_some, _, _, d__law_some F__law_some C__law_roll y_len, PySem.W.mg_of X G a__law_some, k__law_some, F__law_some.binds (ps := ["cup", "things"]) fun _ _ _ _ _ _ us hl => match us, hl with | [_, _], _ => rfl⟩⟩
  have F__law_hex := fun_mk (st := topS 35) l__law_hex e__law_hex k__law_hex
  have C__law_hex : Cl pgm w K mg base (fun _ => A_Chunks) 2 "_law_hex" m__law_hex := ⟨⟨f__law_hex, _, _, d__law_hex F__law_hex y_int C__law_text, PySem.W.mg_of X G a__law_hex, k__law_hex, F__law_hex.binds (ps := ["number"]) fun _ _ _ _ _ _ us hl => match us, hl with | [_], _ => rfl⟩⟩
  have F_need_octets := fun_mk (st := topS 9) l_need_octets e_need_octets k_need_octets
  have C_need_octets : Cl pgm w K mg base (fun _ => A_Chunks) 3 "need_octets" m_need_octets := ⟨⟨f_need_octets, _, _, d_need_octets F_need_octets y_len C_are_octets, PySem.W.mg_of X G a_need_octets, k_need_octets, F_need_octets.binds (ps := ["value", "low", "high"]) fun _ _ _ _ _ _ us hl => match us, hl with | [_, _, _], _ => rfl⟩⟩
  have F_Chunks_fault := fun_mk (st := inClass (topS 20) 2) l_Chunks_fault e_Chunks_fault k_Chunks_fault
  have M_Chunks_fault : Mt pgm w K mg base (fun _ => A_Chunks) 3 0 "fault" m_Chunks_fault := ⟨⟨f_Chunks_fault, _, _, d_Chunks_fault F_Chunks_fault M_Chunks_can_stand x_Chunks_body y_len x_Chunks_number g_BODY x_Chunks_place, ⟨a_Chunks_fault, i_Chunks_fault, k_Chunks_fault⟩, cl_Chunks, F_Chunks_fault.binds (ps := ["self", "octet"]) fun _ _ _ _ _ _ us hl => match us, hl with | [_, _], _ => rfl⟩⟩
  have F_Chunks_go_on := fun_mk (st := inClass (topS 20) 3) l_Chunks_go_on e_Chunks_go_on k_Chunks_go_on
  have M_Chunks_go_on : Mt pgm w K mg base (fun _ => A_Chunks) 3 0 "go_on" m_Chunks_go_on := ⟨⟨f_Chunks_go_on, _, _, d_Chunks_go_on F_Chunks_go_on x_Chunks_place M_Chunks_size x_Chunks_left x_Chunks_number x_Chunks_body x_Chunks_digits g_NEXT, ⟨a_Chunks_go_on, i_Chunks_go_on, k_Chunks_go_on⟩, cl_Chunks, F_Chunks_go_on.binds (ps := ["self", "octet"]) fun _ _ _ _ _ _ us hl => match us, hl with | [_, _], _ => rfl⟩⟩
  have F_chunk_of := fun_mk (st := topS 23) l_chunk_of e_chunk_of k_chunk_of
  have C_chunk_of : Cl pgm w K mg base (fun _ => A_Chunks) 3 "chunk_of" m_chunk_of := ⟨⟨f_chunk_of, _, _, d_chunk_of F_chunk_of C_lines_octets C_hex_text y_len, PySem.W.mg_of X G a_chunk_of, k_chunk_of, F_chunk_of.binds (ps := ["octets"]) fun _ _ _ _ _ _ us hl => match us, hl with | [_], _ => rfl⟩⟩
  have F__law_cut := fun_mk (st := topS 33) l__law_cut e__law_cut k__law_cut
  have C__law_cut : Cl pgm w K mg base (fun _ => A_Chunks) 3 "_law_cut" m__law_cut := ⟨⟨f__law_cut, _, _, d__law_cut F__law_cut C__law_some C__law_roll y_len y_min y_int, PySem.W.mg_of X G a__law_cut, k__law_cut, F__law_cut.binds (ps := ["cup", "body"]) fun _ _ _ _ _ _ us hl => match us, hl with | [_, _], _ => rfl⟩⟩
  have F__law_body := fun_mk (st := topS 34) l__law_body e__law_body k__law_body
  have C__law_body : Cl pgm w K mg base (fun _ => A_Chunks) 3 "_law_body" m__law_body := ⟨⟨f__law_body, _, _, d__law_body F__law_body C__law_some C__law_roll y_range y_min y_tuple, PySem.W.mg_of X G a__law_body, k__law_body, F__law_body.binds (ps := ["cup"]) fun _ _ _ _ _ _ us hl => match us, hl with | [_], _ => rfl⟩⟩
  have F__law_due := fun_mk (st := topS 36) l__law_due e__law_due k__law_due
  have C__law_due : Cl pgm w K mg base (fun _ => A_Chunks) 3 "_law_due" m__law_due := ⟨⟨f__law_due, _, _, d__law_due F__law_due y_list y_len C__law_hex, PySem.W.mg_of X G a__law_due, k__law_due, F__law_due.binds (ps := ["body", "sizes"]) fun _ _ _ _ _ _ us hl => match us, hl with | [_, _], _ => rfl⟩⟩
  have F__law_spoilt := fun_mk (st := topS 37) l__law_spoilt e__law_spoilt k__law_spoilt
  have C__law_spoilt : Cl pgm w K mg base (fun _ => A_Chunks) 3 "_law_spoilt" m__law_spoilt := ⟨⟨f__law_spoilt, _, _, d__law_spoilt F__law_spoilt C__law_roll y_len C__law_some, PySem.W.mg_of X G a__law_spoilt, k__law_spoilt, F__law_spoilt.binds (ps := ["cup", "row"]) fun _ _ _ _ _ _ us hl => match us, hl with | [_, _], _ => rfl⟩⟩
  have F_chunks_by := fun_mk (st := topS 24) l_chunks_by e_chunks_by k_chunks_by
  have C_chunks_by : Cl pgm w K mg base (fun _ => A_Chunks) 4 "chunks_by" m_chunks_by := ⟨⟨f_chunks_by, _, _, d_chunks_by F_chunks_by y_len C_chunk_of C_text_octets, PySem.W.mg_of X G a_chunks_by, k_chunks_by, F_chunks_by.binds (ps := ["body", "sizes"]) fun _ _ _ _ _ _ us hl => match us, hl with | [_, _], _ => rfl⟩⟩
  have F_chunks_in := fun_mk (st := topS 26) l_chunks_in e_chunks_in k_chunks_in
  have C_chunks_in : Cl pgm w K mg base (fun _ => A_Chunks) 4 "chunks_in" m_chunks_in := ⟨⟨f_chunks_in, _, _, d_chunks_in F_chunks_in C_need_octets g_ROW N_Chunks y_enumerate M_Chunks_fault M_Chunks_go_on x_Chunks_body y_tuple, PySem.W.mg_of X G a_chunks_in, k_chunks_in, F_chunks_in.binds (ps := ["octets"]) fun _ _ _ _ _ _ us hl => match us, hl with | [_], _ => rfl⟩⟩
  have F_chunks_of := fun_mk (st := topS 25) l_chunks_of e_chunks_of k_chunks_of
  have C_chunks_of : Cl pgm w K mg base (fun _ => A_Chunks) 5 "chunks_of" m_chunks_of := ⟨⟨f_chunks_of, _, _, d_chunks_of F_chunks_of C_need_octets g_BODY C_need_sizes C_chunks_by, PySem.W.mg_of X G a_chunks_of, k_chunks_of, F_chunks_of.binds (ps := ["body", "sizes"]) fun _ _ _ _ _ _ us hl => match us, hl with | [_, _], _ => rfl⟩⟩
  have F_law := fun_mk (st := topS 38) l_law e_law k_law
  exact d_law F_law C__law_cup y_range C__law_body C__law_roll C__law_some y_tuple C_chunks_of C_chunks_in y_repr y_len C__law_due C__law_cut C__law_spoilt C__law_chunks C__law_hex
end MP

namespace MP
open PySem L2 PySem.Spec PyProof.Rows
theorem roll_ok {c0 c1 many : Int} {R : Sto} {q : W → Sto → Prop} (h0 : 0 ≤ c0) (hm : 0 < many ∧ many < 18446744073709551616)
    (k : ∀ v c0' c1', 0 ≤ v → v < many → 0 ≤ c0' → q (.d (.int v)) (.lst [.d (.int c0'), .d (.int c1')] :: R)) :
    post (m__law_roll [.r 0, .d (.int many)] (.lst [.d (.int c0), .d (.int c1)] :: R)) q := by
  have e0 : ∀ a b : Int, (O.lst [.d (.int a), .d (.int b)] :: R)[0]? = some (.lst [.d (.int a), .d (.int b)]) := fun _ _ => rfl
  refine post_fn rfl ?_
  unfold b__law_roll
  have i0 : ∀ a b : Int, L2.atI [W.d (.int a), W.d (.int b)] 0 = some (.d (.int a)) := fun _ _ => rfl
  have i1 : ∀ a b : Int, L2.atI [W.d (.int a), W.d (.int b)] 1 = some (.d (.int b)) := fun _ _ => rfl
  have j0 : ∀ a b : Int, ixN [W.d (.int a), W.d (.int b)].length 0 = some 0 := fun _ _ => rfl
  have j1 : ∀ a b : Int, ixN [W.d (.int a), W.d (.int b)].length 1 = some 1 := fun _ _ => rfl
  simp (disch := first | omega | (simp [SZ]; done) | (simp [SZ]; omega)) only [post_bnd, post_ret, post_some, sq_ap, a_k, a_v, getV_cons0, getV_cons, a_bin, a_cmp, a_ch, a_neg, a_not, a_and, a_or, a_ite, a_sub, a_slc, a_no, a_so, a_nil', a_cons', a_tup, a_lst, a_nl, a_ndk, a_call, a_bi, a_isi, a_app, a_sd, a_tst, a_sk, a_brk, a_cnt, a_bad, a_ex, a_ret, a_retN, a_if, a_asg, a_par2, a_par3, a_set, a_for, a_seq, a_enum, a_rng1, a_rng2, a_lc, v_add, v_sub, v_band, v_neg, v_trB, v_trI, v_trN, v_lt, v_le, v_gt, v_ge, v_eqI, v_neI, v_eqS, v_neS, v_isn, v_isnn, v_int, v_abs, v_lenT, v_lenL, v_tupL, v_lstL, true_and, and_true, if_true, if_false, ite_true, ite_false, List.length_cons, List.length_nil, Option.map_some, Option.some.injEq, exists_eq_left', v_mul, v_fdiv, v_mod, v_pow, List.set_cons_zero, List.set_cons_succ, List.map_cons, List.map_nil, List.replicate_succ, List.replicate_zero, List.cons_append, List.nil_append, List.append_nil, leave_same, v_ixR (e0 _ _) (i0 _ _), v_ixR (e0 _ _) (i1 _ _), v_setR (e0 _ _) (j0 _ _), v_setR (e0 _ _) (j1 _ _)]
  by_cases c : 0 < c0
  · rw [if_pos (decide_eq_true c)]
    exact k _ _ _ (Int.emod_nonneg _ (by omega)) (Int.emod_lt_of_pos _ hm.1) (Int.ediv_nonneg h0 (by omega))
  · rw [if_neg (by simpa using c)]
    exact k _ _ _ (Int.emod_nonneg _ (by omega)) (Int.emod_lt_of_pos _ hm.1) h0
theorem some_ok {c0 c1 : Int} {R : Sto} {q : W → Sto → Prop} {xs : List D} {w : W} (hw : w = .d (.list xs) ∨ w = .d (.tuple xs)) (h0 : 0 ≤ c0) (hx : xs ≠ []) (hl : xs.length < 1000)
    (k : ∀ x c0' c1', x ∈ xs → 0 ≤ c0' → q (.d x) (.lst [.d (.int c0'), .d (.int c1')] :: R)) :
    post (m__law_some [.r 0, w] (.lst [.d (.int c0), .d (.int c1)] :: R)) q := by
  have hpos : 0 < xs.length := List.length_pos_iff.mpr hx
  have key : ∀ v : Int, 0 ≤ v → v < xs.length → ∃ x, x ∈ xs ∧ L2.atI xs v = some x := by
    intro v h1 h2
    have hi : v.toNat < xs.length := by omega
    refine ⟨xs[v.toNat], List.getElem_mem hi, ?_⟩
    have e := L2.atI_nat (xs := xs) (j := v.toNat) (v := xs[v.toNat]) (List.getElem?_eq_getElem hi)
    rw [Int.toNat_of_nonneg h1] at e
    exact e
  refine post_fn rfl ?_
  unfold b__law_some
  rcases hw with rfl | rfl
  · simp only [post_bnd, post_ret, post_some, sq_ap, a_k, a_v, getV_cons0, getV_cons, a_bin, a_cmp, a_ch, a_neg, a_not, a_and, a_or, a_ite, a_sub, a_slc, a_no, a_so, a_nil', a_cons', a_tup, a_lst, a_nl, a_ndk, a_call, a_bi, a_isi, a_app, a_sd, a_tst, a_sk, a_brk, a_cnt, a_bad, a_ex, a_ret, a_retN, a_if, a_asg, a_par2, a_par3, a_set, a_for, a_seq, a_enum, a_rng1, a_rng2, a_lc, v_add, v_sub, v_band, v_neg, v_trB, v_trI, v_trN, v_lt, v_le, v_gt, v_ge, v_eqI, v_neI, v_eqS, v_neS, v_isn, v_isnn, v_int, v_abs, v_lenT, v_lenL, v_tupL, v_lstL, true_and, and_true, if_true, if_false, ite_true, ite_false, List.length_cons, List.length_nil, Option.map_some, Option.some.injEq, exists_eq_left', v_mul, v_fdiv, v_mod, v_pow, List.set_cons_zero, List.set_cons_succ, List.map_cons, List.map_nil, List.replicate_succ, List.replicate_zero, List.cons_append, List.nil_append, List.append_nil]
    refine roll_ok h0 ⟨by omega, by omega⟩ fun v a b h1 h2 h3 => ?_
    obtain ⟨x, hm, e⟩ := key v h1 h2
    rw [v_ixL e, leave_same (by simp)]
    exact k x a b hm h3
  · simp only [post_bnd, post_ret, post_some, sq_ap, a_k, a_v, getV_cons0, getV_cons, a_bin, a_cmp, a_ch, a_neg, a_not, a_and, a_or, a_ite, a_sub, a_slc, a_no, a_so, a_nil', a_cons', a_tup, a_lst, a_nl, a_ndk, a_call, a_bi, a_isi, a_app, a_sd, a_tst, a_sk, a_brk, a_cnt, a_bad, a_ex, a_ret, a_retN, a_if, a_asg, a_par2, a_par3, a_set, a_for, a_seq, a_enum, a_rng1, a_rng2, a_lc, v_add, v_sub, v_band, v_neg, v_trB, v_trI, v_trN, v_lt, v_le, v_gt, v_ge, v_eqI, v_neI, v_eqS, v_neS, v_isn, v_isnn, v_int, v_abs, v_lenT, v_lenL, v_tupL, v_lstL, true_and, and_true, if_true, if_false, ite_true, ite_false, List.length_cons, List.length_nil, Option.map_some, Option.some.injEq, exists_eq_left', v_mul, v_fdiv, v_mod, v_pow, List.set_cons_zero, List.set_cons_succ, List.map_cons, List.map_nil, List.replicate_succ, List.replicate_zero, List.cons_append, List.nil_append, List.append_nil]
    refine roll_ok h0 ⟨by omega, by omega⟩ fun v a b h1 h2 h3 => ?_
    obtain ⟨x, hm, e⟩ := key v h1 h2
    rw [v_ixT e, leave_same (by simp)]
    exact k x a b hm h3
theorem cup_ok {ns : List Int} {q : W → Sto → Prop} (hl : ns.length ≤ 63) (k : ∀ c0 c1 : Int, 0 ≤ c0 → q (.r 0) [.lst [.d (.int c0), .d (.int c1)]]) : post (m__law_cup [.d (.list (ns.map .int))] []) q := by
  refine post_fn rfl ?_
  unfold b__law_cup
  have e1 : ((10 : Int) ^ (18 : Int).toNat) = 1000000000000000000 := by decide
  have hd : ∃ n : Int, L2.atI (ns.map PyData.int ++ [.int 0]) 0 = some (.int n) := by
    cases ns with
    | nil => exact ⟨0, rfl⟩
    | cons n r => exact ⟨n, L2.atI_nat (j := 0) rfl⟩
  obtain ⟨n, hn⟩ := hd
  simp (disch := first | omega | (simp [SZ]; done) | (simp [SZ]; omega)) only [post_bnd, post_ret, post_some, sq_ap, a_k, a_v, getV_cons0, getV_cons, a_bin, a_cmp, a_ch, a_neg, a_not, a_and, a_or, a_ite, a_sub, a_slc, a_no, a_so, a_nil', a_cons', a_tup, a_lst, a_nl, a_ndk, a_call, a_bi, a_isi, a_app, a_sd, a_tst, a_sk, a_brk, a_cnt, a_bad, a_ex, a_ret, a_retN, a_if, a_asg, a_par2, a_par3, a_set, a_for, a_seq, a_enum, a_rng1, a_rng2, a_lc, v_add, v_sub, v_band, v_neg, v_trB, v_trI, v_trN, v_lt, v_le, v_gt, v_ge, v_eqI, v_neI, v_eqS, v_neS, v_isn, v_isnn, v_int, v_abs, v_lenT, v_lenL, v_tupL, v_lstL, true_and, and_true, if_true, if_false, ite_true, ite_false, List.length_cons, List.length_nil, Option.map_some, Option.some.injEq, exists_eq_left', v_mul, v_fdiv, v_mod, v_pow, List.set_cons_zero, List.set_cons_succ, List.map_cons, List.map_nil, List.replicate_succ, List.replicate_zero, List.cons_append, List.nil_append, List.append_nil, dataOf, v_catL, v_ixL hn, e1]
  have z1 : (0 + 1 : Nat) ≤ SZ := by decide
  have z2 : (0 + 1 + 1 : Nat) ≤ SZ := by decide
  refine ⟨z1, ?_⟩
  generalize hm : (if n < 0 then -n else n) = m
  have hm0 : 0 ≤ m := by
    rw [← hm]
    by_cases c : n < 0
    · rw [if_pos c]; omega
    · rw [if_neg c]; omega
  by_cases c : 1000000000000000000 ≤ m
  · rw [if_pos (decide_eq_true c)]
    refine ⟨z2, k _ _ ?_⟩
    exact Int.ediv_nonneg hm0 (by omega)
  · rw [if_neg (by simpa using c)]
    exact ⟨z2, k _ _ (Int.le_refl _)⟩
end MP

namespace MP
open PySem L2 PySem.Spec PyProof.Rows
theorem lc_map {turn : D → M (Option D)} {f : D → D} {S : Sto} {q : List D → Sto → Prop} : ∀ (items : List D), (∀ x ∈ items, ∀ q : Option D → Sto → Prop, q (some (f x)) S → post (turn x S) q) → q (items.map f) S → post (lcM turn items S) q
  | [], _, k => k
  | x :: r, h, k => by
    unfold lcM
    rw [post_bnd]
    refine h x List.mem_cons_self _ ?_
    rw [post_bnd]
    refine lc_map r (fun y m => h y (List.mem_cons_of_mem _ m)) ?_
    exact k
theorem isw_ok {S : Sto} {q : W → Sto → Prop} {v lo hi : Int} (h : lo ≤ v ∧ v ≤ hi) (k : q (.d (.bool true)) S) : post (m_is_whole [.d (.int v), .d (.int lo), .d (.int hi)] S) q := by
  refine post_fn rfl ?_
  unfold b_is_whole
  have i1 : isI "int" (.int v) = some true := rfl
  have i2 : isI "bool" (.int v) = some false := rfl
  simp only [post_bnd, post_ret, post_some, sq_ap, a_k, a_v, getV_cons0, getV_cons, a_bin, a_cmp, a_ch, a_neg, a_not, a_and, a_or, a_ite, a_sub, a_slc, a_no, a_so, a_nil', a_cons', a_tup, a_lst, a_nl, a_ndk, a_call, a_bi, a_isi, a_app, a_sd, a_tst, a_sk, a_brk, a_cnt, a_bad, a_ex, a_ret, a_retN, a_if, a_asg, a_par2, a_par3, a_set, a_for, a_seq, a_enum, a_rng1, a_rng2, a_lc, v_add, v_sub, v_band, v_neg, v_trB, v_trI, v_trN, v_lt, v_le, v_gt, v_ge, v_eqI, v_neI, v_eqS, v_neS, v_isn, v_isnn, v_int, v_abs, v_lenT, v_lenL, v_tupL, v_lstL, true_and, and_true, if_true, if_false, ite_true, ite_false, List.length_cons, List.length_nil, Option.map_some, Option.some.injEq, exists_eq_left', v_mul, v_fdiv, v_mod, v_pow, List.set_cons_zero, List.set_cons_succ, List.map_cons, List.map_nil, List.replicate_succ, List.replicate_zero, List.cons_append, List.nil_append, List.append_nil, v_isi i1, v_isi i2, leave_same (Nat.le_refl _), decide_eq_true h.1, decide_eq_true h.2, Bool.not_false]
  exact k
theorem text_ok {S : Sto} {q : W → Sto → Prop} {z : Str} (hz : z.cps.toList.length ≤ 1000) (k : q (.d (T (cpsI z))) S) : post (m_text_octets [.d (.str z)] S) q := by
  refine post_fn rfl ?_
  unfold b_text_octets
  simp only [a_ret, a_bi, a_cons', a_lc, a_seq, a_v, getV_cons0, getV_cons, post_ret, a_nil', List.map_cons, List.map_nil, List.cons_append, List.nil_append, List.replicate_succ, List.replicate_zero]
  refine ⟨_, rfl, ?_⟩
  refine lc_map (f := fun d => match d with
    | .str y => (match sign1 y with
      | some c => .int (c : Nat)
      | none => .none)
    | _ => .none) _ ?_ ?_
  · intro x m q h
    obtain ⟨c, hc, rfl⟩ := List.mem_map.mp m
    unfold lcT
    have eb : bindP (.nm 1) (.d (.str ⟨#[c]⟩)) (wipeW [some (.d (.str z)), none] [1]) = some [some (.d (.str z)), some (.d (.str ⟨#[c]⟩))] := rfl
    rw [eb]
    simp only [opt_some, bnd_ret, yesM, if_true, post_bnd, a_bi, a_cons', a_v, a_k, a_nil', getV_cons0, getV_cons, post_ret, ord_turn]
    exact h
  · refine ⟨by simp only [List.length_map]; show _ ≤ 16777216; omega, ?_⟩
    rw [List.map_map]
    simp only [v_tupL, leave_same (Nat.le_refl _)]
    have e : T (cpsI z) = .tuple (List.map ((fun d => match d with
    | .str y => (match sign1 y with
      | some c => .int (c : Nat)
      | none => .none)
    | _ => .none) ∘ fun c => (PyData.str ⟨#[c]⟩ : D)) z.cps.toList) := by
      show PyData.tuple ((z.cps.toList.map fun c => ((c : Nat) : Int)).map .int) = _
      rw [List.map_map]
      rfl
    rw [e] at k
    exact k
end MP

namespace MP.Q0
open PySem L2 PySem.Spec PyProof.Rows
theorem roll_ok {c0 c1 many : Int} {R : Sto} {q : W → Sto → Prop} (h0 : 0 ≤ c0) (hm : 0 < many ∧ many < 18446744073709551616)
    (k : ∀ v c0' c1', 0 ≤ v → v < many → 0 ≤ c0' → q (.d (.int v)) (.lst [.d (.int c0'), .d (.int c1')] :: R)) : post (m__law_roll [.r 0, .d (.int many)] (.lst [.d (.int c0), .d (.int c1)] :: R)) q := by
  first
    | (simp only [post_def]; exact MP.roll_ok h0 hm k)
    | (simp only [post_def] at *; exact MP.roll_ok h0 hm k)
theorem some_ok {c0 c1 : Int} {R : Sto} {q : W → Sto → Prop} {xs : List D} {w : W} (hw : w = .d (.list xs) ∨ w = .d (.tuple xs)) (h0 : 0 ≤ c0) (hx : xs ≠ []) (hl : xs.length < 1000)
    (k : ∀ x c0' c1', x ∈ xs → 0 ≤ c0' → q (.d x) (.lst [.d (.int c0'), .d (.int c1')] :: R)) : post (m__law_some [.r 0, w] (.lst [.d (.int c0), .d (.int c1)] :: R)) q := by
  first
    | (simp only [post_def]; exact MP.some_ok hw h0 hx hl k)
    | (simp only [post_def] at *; exact MP.some_ok hw h0 hx hl k)
theorem cup_ok {ns : List Int} {q : W → Sto → Prop} (hl : ns.length ≤ 63) (k : ∀ c0 c1 : Int, 0 ≤ c0 → q (.r 0) [.lst [.d (.int c0), .d (.int c1)]]) : post (m__law_cup [.d (.list (ns.map .int))] []) q := by
  first
    | (simp only [post_def]; exact MP.cup_ok hl k)
    | (simp only [post_def] at *; exact MP.cup_ok hl k)
theorem isw_ok {S : Sto} {q : W → Sto → Prop} {v lo hi : Int} (h : lo ≤ v ∧ v ≤ hi) (k : q (.d (.bool true)) S) : post (m_is_whole [.d (.int v), .d (.int lo), .d (.int hi)] S) q := by
  first
    | (simp only [post_def]; exact MP.isw_ok h k)
    | (simp only [post_def] at *; exact MP.isw_ok h k)
theorem text_ok {S : Sto} {q : W → Sto → Prop} {z : Str} (hz : z.cps.toList.length ≤ 1000) (k : q (.d (T (cpsI z))) S) : post (m_text_octets [.d (.str z)] S) q := by
  first
    | (simp only [post_def]; exact MP.text_ok hz k)
    | (simp only [post_def] at *; exact MP.text_ok hz k)
end MP.Q0

namespace MP.Q0
open PySem L2 PySem.Spec PyProof.Rows
/-! reckoning rules of classes, index, join, repeats -/
section
variable {S : Sto} {ρ : Sl} {q : W → Sto → Prop} {Q : Fl → Sto → Prop}
theorem a_attr (c : Nat) (f : Str) (o : EM) : post (attrM c f o ρ S) q = post (o ρ S) fun x S1 => post (getA c f x S1) q := by unfold attrM; rw [post_bnd]
theorem a_mc (c : Nat) (n : Str) (m : List W → M W) (o : EM) (ms : AM) : post (mcallM c n m o ms ρ S) q = post (o ρ S) fun x S1 => post (rcvA c n x S1) fun _ S2 => post (ms ρ S2) fun ws S3 => post (m (x :: ws) S3) q := by
  unfold mcallM; rw [post_bnd]; congr 1; funext x S1; rw [post_bnd]; congr 1; funext u S2; rw [post_bnd]
theorem a_new (c : Nat) (m : List W → M W) (ms : AM) : post (newM c m ms ρ S) q = post (ms ρ S) fun ws S1 => post (newW c m ws S1) q := by unfold newM; rw [post_bnd]
theorem a_meS (m : Str → W → M W) (o a : EM) : post (meS m o a ρ S) q = post (o ρ S) fun x S1 => match x with
    | .d (.str z) => post (a ρ S1) fun y S2 => post (m z y S2) q
    | _ => False := by
  unfold meS; rw [post_bnd]; congr 1; funext x S1
  cases x with
  | r i => exact post_bad _ _
  | d x => cases x with
    | str z => exact post_bnd _ _ _ _
    | _ => exact post_bad _ _
theorem a_meL (m : List D → W → M W) (o a : EM) : post (meL m o a ρ S) q = post (o ρ S) fun x S1 => match x with
    | .d (.list z) => post (a ρ S1) fun y S2 => post (m z y S2) q
    | _ => False := by
  unfold meL; rw [post_bnd]; congr 1; funext x S1
  cases x with
  | r i => exact post_bad _ _
  | d x => cases x with
    | list z => exact post_bnd _ _ _ _
    | _ => exact post_bad _ _
theorem a_asgX (t : TM) (a : EM) : post (asgX t a ρ S) Q = post (a ρ S) fun w S1 => post (t w ρ S1) fun ρ' S2 => Q (.nx ρ') S2 := by
  unfold asgX; rw [post_bnd]; congr 1; funext x S1; rw [post_bnd]; congr 1; funext u S2; rw [post_ret]
theorem a_atT (c : Nat) (f : Str) (o : EM) (w : W) (Q : Sl → Sto → Prop) : post (atT c f o w ρ S) Q = post (o ρ S) fun x S1 => post (setA c f x w S1) fun _ S2 => Q ρ S2 := by
  unfold atT; rw [post_bnd]; congr 1; funext x S1; rw [post_bnd]; congr 1; funext u S2; rw [post_ret]
theorem a_nmT (i : Nat) (w : W) (Q : Sl → Sto → Prop) : post (nmT i w ρ S) Q = Q (ρ.set i (some w)) S := by unfold nmT; rw [post_ret]
theorem a_nilT (Q : Sl → Sto → Prop) : post (nilT [] ρ S) Q = Q ρ S := post_ret _ _ _
theorem a_consT (t : TM) (u : List W → Sl → M Sl) (w : W) (r : List W) (Q : Sl → Sto → Prop) : post (consT t u (w :: r) ρ S) Q = post (t w ρ S) fun ρ1 S1 => post (u r ρ1 S1) Q := by
  show post (bnd (t w ρ) (fun ρ' => u r ρ') S) Q = _
  rw [post_bnd]
theorem a_tupT (n : Nat) (u : List W → Sl → M Sl) (xs : List D) (Q : Sl → Sto → Prop) (h : xs.length = n) : post (tupT n u (.d (.tuple xs)) ρ S) Q = post (u (xs.map .d) ρ S) Q := by
  have e : tupT n u (.d (.tuple xs)) ρ = u (xs.map .d) ρ := by
    show (if xs.length = n then u (xs.map .d) ρ else bad) = _
    rw [if_pos h]
  rw [e]
theorem v_getA {c i : Nat} {f : Str} {fs : List (Str × W)} {w : W} (e : S[i]? = some (.ins c fs)) (h : look f fs = some w) : post (getA c f (.r i) S) q = q w S := by
  have z : getA c f (.r i) S = some (.ok w S) := by
    show (match S[i]? with
      | some (.ins d fs) => if d = c then (look f fs).map (fun w => Out.ok w S) else none
      | _ => none) = _
    rw [e]
    show (if c = c then (look f fs).map (fun w => Out.ok w S) else none) = _
    rw [if_pos rfl, h]; rfl
  rw [z]; exact post_some _ _
theorem v_setA {c i : Nat} {f : Str} {fs : List (Str × W)} {w : W} {Q : Unit → Sto → Prop} (e : S[i]? = some (.ins c fs)) (h : fs.length < 1000) : post (setA c f (.r i) w S) Q = Q () (S.set i (.ins c (pf f w fs))) := by
  have z : setA c f (.r i) w S = some (.ok () (S.set i (.ins c (pf f w fs)))) := by
    show (match S[i]? with
      | some (.ins d fs) => if d = c ∧ fs.length < 1000 then some (Out.ok () (S.set i (.ins d (pf f w fs)))) else none
      | _ => none) = _
    rw [e]
    show (if c = c ∧ fs.length < 1000 then some (Out.ok () (S.set i (.ins c (pf f w fs)))) else none) = _
    rw [if_pos ⟨rfl, h⟩]
  rw [z]; exact post_some _ _
theorem v_rcvA {c i : Nat} {f : Str} {fs : List (Str × W)} {Q : Unit → Sto → Prop} (e : S[i]? = some (.ins c fs)) (h : look f fs = none) : post (rcvA c f (.r i) S) Q = Q () S := by
  have z : rcvA c f (.r i) S = some (.ok () S) := by
    show (match S[i]? with
      | some (.ins d fs) => if d = c ∧ (look f fs).isNone = true then some (Out.ok () S) else none
      | _ => none) = _
    rw [e]
    show (if c = c ∧ (look f fs).isNone = true then some (Out.ok () S) else none) = _
    rw [if_pos ⟨rfl, by rw [h]; rfl⟩]
  rw [z]; exact post_some _ _
theorem new_ok {c : Nat} {m : List W → M W} {ws : List W} (h : post (m (.r S.length :: ws) (S ++ [.ins c []])) fun w S' => w = .d .none ∧ q (.r S.length) S') : post (newW c m ws S) q := by
  have h2 := h
  simp only [post_def] at h2 ⊢
  unfold newW
  cases e : m (.r S.length :: ws) (S ++ [.ins c []]) with
  | none => rw [e] at h2; exact h2.elim
  | some z =>
    rw [e] at h2
    cases z with
    | ex _ _ => exact h2.elim
    | ok w S3 =>
      obtain ⟨rfl, h2⟩ := h2
      exact h2
theorem v_sidx {z b : Str} {i : Nat} {rest : List Nat} (h : Builtin.Str.occurrences z b 0 z.length 1 = i :: rest) : post (sIdx z (.d (.str b)) S) q = q (.d (.int (i : Nat))) S := by
  have e : sIdx z (.d (.str b)) = ret (.d (.int (i : Nat))) := by
    show (match Builtin.Str.occurrences z b 0 z.length 1 with
      | i :: _ => (ret (.d (.int (i : Nat))) : M W)
      | [] => bad) = _
    rw [h]
  rw [e, post_ret]
theorem strsD_map : ∀ ys : List Str, strsD (ys.map .str) = some ys
  | [] => rfl
  | y :: r => by
    show (strsD (r.map .str)).map (y :: ·) = _
    rw [strsD_map r]; rfl
theorem v_sjoin {z : Str} {ys : List Str} (h : (ys.map (·.length)).sum + ys.length * z.length ≤ 1000000) : post (sJoin z (.d (.list (ys.map .str))) S) q = q (.d (.str (Txt.join z ys))) S := by
  have e : sJoin z (.d (.list (ys.map .str))) = ret (.d (.str (Txt.join z ys))) := by
    show (match strsD (ys.map .str) with
      | some (ys : List Str) => (if (ys.map (fun x => Str.length x)).sum + ys.length * z.length ≤ SZ then ret (.d (.str (Txt.join z ys))) else bad : M W)
      | none => bad) = _
    rw [strsD_map]
    show (if (ys.map (·.length)).sum + ys.length * z.length ≤ SZ then ret (.d (.str (Txt.join z ys))) else bad : M W) = _
    rw [if_pos (by show _ ≤ 16777216; omega)]
  rw [e, post_ret]
theorem v_lidx {ds : List D} {d : D} {i : Nat} (h1 : SeqAt.shaped (.list ds) = true) (h2 : SeqAt.shaped d = true) (h3 : ds.findIdx (fun z => PyData.eqv z d) = i) (h4 : i < ds.length) : post (lIdx ds (.d d) S) q = q (.d (.int (i : Nat))) S := by
  subst h3
  have e : lIdx ds (.d d) = ret (.d (.int (ds.findIdx (fun z => PyData.eqv z d) : Nat))) := if_pos ⟨h1, h2, h4⟩
  rw [e, post_ret]
theorem v_mulT {xs : List D} {k : Int} (h : -1000000 ≤ k ∧ k ≤ 1000000 ∧ (xs.length : Int) * k ≤ 1000000) : post (mulT (.d (.tuple xs)) (.d (.int k)) S) q = q (.d (.tuple (List.replicate k.toNat xs).flatten)) S := by
  have e : mulT (.d (.tuple xs)) (.d (.int k)) = ret (.d (.tuple (List.replicate k.toNat xs).flatten)) := if_pos h
  rw [e, post_ret]
theorem v_mulL {xs : List D} {k : Int} (h : -1000000 ≤ k ∧ k ≤ 1000000 ∧ xs.length * k.toNat ≤ 1000000) : post (mulL (.d (.list xs)) (.d (.int k)) S) q = q (.d (.list (List.replicate k.toNat xs).flatten)) S := by
  have e : mulL (.d (.list xs)) (.d (.int k)) = ret (.d (.list (List.replicate k.toNat xs).flatten)) := if_pos ⟨h.1, h.2.1, by have := h.2.2; show _ ≤ 16777216; omega⟩
  rw [e, post_ret]
theorem a_wh {c : EM} {b : SM} : post (whM c b ρ S) Q = post (whileM (tst c) b WF ρ S) Q := rfl
theorem wh_step {c : EM} {b : SM} {n : Nat} : post (whileM (tst c) b (n + 1) ρ S) Q = post (c ρ S) fun w S1 => post (truW w S1) fun t S2 => if t = true then post (b ρ S2) (fun f S3 => match f with
    | .nx ρ' => post (whileM (tst c) b n ρ' S3) Q
    | .ct ρ' => post (whileM (tst c) b n ρ' S3) Q
    | .bk ρ' => Q (.nx ρ') S3
    | .rt w => Q (.rt w) S3) else Q (.nx ρ) S2 := by
  conv => lhs; unfold whileM
  rw [post_bnd, a_tst]
  congr 1; funext w S1; congr 1; funext t S2
  cases t with
  | true =>
    rw [if_pos rfl, if_pos rfl, post_bnd]
    congr 1; funext f S3
    cases f <;> first | rfl | (rw [post_ret])
  | false => rw [if_neg Bool.false_ne_true, if_neg Bool.false_ne_true, post_ret]
end
end MP.Q0

namespace MP.Q0
open PySem L2 PySem.Spec PyProof.Rows
section
variable {S : Sto} {ρ : Sl} {q : W → Sto → Prop} {qb : Bool → Sto → Prop}
theorem v_lenR {i : Nat} {xs : List W} (e : S[i]? = some (.lst xs)) : post (b1W .len [.r i] S) q = q (.d (.int xs.length)) S := by
  have z : b1W .len [.r i] S = some (.ok (.d (.int xs.length)) S) := by
    show (match S[i]? with
      | some (.lst xs) => some (Out.ok (W.d (.int xs.length)) S)
      | some (.dk kvs) => some (Out.ok (W.d (.int kvs.length)) S)
      | _ => none) = _
    rw [e]
  rw [z]; exact post_some _ _
theorem v_tupR {i : Nat} {xs : List W} {ys : List D} (e : S[i]? = some (.lst xs)) (h : dataOf xs = some ys) : post (b1W .tuple [.r i] S) q = q (.d (.tuple ys)) S := by
  have z : b1W .tuple [.r i] S = some (.ok (.d (.tuple ys)) S) := by
    show (match S[i]? with
      | some (.lst xs) => (dataOf xs).map fun ys => Out.ok (W.d (.tuple ys)) S
      | _ => none) = _
    rw [e]
    show (dataOf xs).map (fun ys => Out.ok (W.d (.tuple ys)) S) = _
    rw [h]; rfl
  rw [z]; exact post_some _ _
theorem v_rcv {i : Nat} {xs : List W} {Q : Unit → Sto → Prop} (e : S[i]? = some (.lst xs)) : post (rcv .append (.r i) S) Q = Q () S := by
  have z : rcv .append (.r i) S = some (.ok () S) := by
    show (match S[i]? with
      | some (.lst _) => some (Out.ok () S)
      | _ => none) = _
    rw [e]
  rw [z]; exact post_some _ _
theorem v_app {i : Nat} {xs : List W} {w : W} (e : S[i]? = some (.lst xs)) (h : xs.length < 1000000) : post (meW .append (.r i) [w] S) q = q (.d .none) (S.set i (.lst (xs ++ [w]))) := by
  have z : meW .append (.r i) [w] S = some (.ok (.d .none) (S.set i (.lst (xs ++ [w])))) := by
    show (match S[i]? with
      | some (.lst xs) => if xs.length < SZ then some (Out.ok (W.d .none) (S.set i (.lst (xs ++ [w])))) else none
      | _ => none) = _
    rw [e]
    exact if_pos (by show _ < 16777216; omega)
  rw [z]; exact post_some _ _
theorem v_ixS {z : Str} {k : Int} {c : Nat} (h : z.length ≤ 1000000) (e : L2.atI z.cps.toList k = some c) : post (subW (.d (.str z)) (.d (.int k)) S) q = q (.d (.str ⟨#[c]⟩)) S := by
  have x : subW (.d (.str z)) (.d (.int k)) S = some (.ok (.d (.str ⟨#[c]⟩)) S) := by
    show (if z.length ≤ SZ then (L2.atI z.cps.toList k).map (fun c => Out.ok (W.d (.str ⟨#[c]⟩)) S) else none) = _
    rw [if_pos (by show _ ≤ 16777216; omega), e]; rfl
  rw [x]; exact post_some _ _
theorem v_inD {x y : D} {b : Bool} (h : inD x y = some b) : post (cmpW .inn (.d x) (.d y) S) qb = qb b S := by
  have e : cmpW .inn (.d x) (.d y) S = some (.ok b S) := by
    show (inD x y).map (fun b => Out.ok b S) = _
    rw [h]; rfl
  rw [e]; exact post_some _ _
theorem v_ninD {x y : D} {b : Bool} (h : inD x y = some b) : post (cmpW .nin (.d x) (.d y) S) qb = qb (!b) S := by
  have e : cmpW .nin (.d x) (.d y) S = some (.ok (!b) S) := by
    show (inD x y).map (fun b => Out.ok (!b) S) = _
    rw [h]; rfl
  rw [e]; exact post_some _ _
theorem v_tinB {t : List (Key × D)} {k : Key} {w : W} (hk : wKey w = some k) : post (tinW t w S) qb = qb (look k t).isSome S := by
  have e : tinW t w = opt (some (look k t).isSome) := by
    unfold tinW
    rw [hk]; rfl
  rw [e]
  exact post_ret _ _ _
end
/-! ### the reader of chunks, by itself -/
inductive Pl where
  | size | line | octets | fin | empty | last | behind
def Pl.str : Pl → Str
  | .size => "size" | .line => "line" | .octets => "octets" | .fin => "end" | .empty => "empty" | .last => "last" | .behind => "behind"
def Pl.isSize : Pl → Bool | .size => true | _ => false
def Pl.isLine : Pl → Bool | .line => true | _ => false
def Pl.isOct : Pl → Bool | .octets => true | _ => false
def Pl.isBeh : Pl → Bool | .behind => true | _ => false
def Pl.isLast : Pl → Bool | .last => true | _ => false
theorem q_size (p : Pl) : (p.str == ("size" : Str)) = p.isSize := by cases p <;> decide
theorem q_line (p : Pl) : (p.str == ("line" : Str)) = p.isLine := by cases p <;> decide
theorem q_oct (p : Pl) : (p.str == ("octets" : Str)) = p.isOct := by cases p <;> decide
theorem q_beh (p : Pl) : (p.str == ("behind" : Str)) = p.isBeh := by cases p <;> decide
theorem q_last (p : Pl) : (p.str == ("last" : Str)) = p.isLast := by cases p <;> decide
theorem q_three (p : Pl) : inD (.str p.str) (.tuple [.str "line", .str "last", .str "behind"]) = some (p.isLine || p.isLast || p.isBeh) := by cases p <;> decide +kernel
theorem q_next (p : Pl) : (look (Sum.inr p.str : Key) t_NEXT).isSome = (match p with | .empty => true | .fin => true | _ => false) := by cases p <;> rfl
structure Ch where
  pl : Pl
  dg : Int
  nm : Int
  lf : Int
  bd : List Int
def chF (p : W) (d n l b : W) : List (Str × W) := [("place", p), ("digits", d), ("number", n), ("left", l), ("body", b)]
theorem l0 (p d n l b : W) : look ("place" : Str) (chF p d n l b) = some p := if_pos rfl
theorem l1 (p d n l b : W) : look ("digits" : Str) (chF p d n l b) = some d := (if_neg (by decide)).trans (if_pos rfl)
theorem l2 (p d n l b : W) : look ("number" : Str) (chF p d n l b) = some n := (if_neg (by decide)).trans ((if_neg (by decide)).trans (if_pos rfl))
theorem l3 (p d n l b : W) : look ("left" : Str) (chF p d n l b) = some l := (if_neg (by decide)).trans ((if_neg (by decide)).trans ((if_neg (by decide)).trans (if_pos rfl)))
theorem l4 (p d n l b : W) : look ("body" : Str) (chF p d n l b) = some b := (if_neg (by decide)).trans ((if_neg (by decide)).trans ((if_neg (by decide)).trans ((if_neg (by decide)).trans (if_pos rfl))))
theorem l_no {f : Str} (h : f ≠ "place" ∧ f ≠ "digits" ∧ f ≠ "number" ∧ f ≠ "left" ∧ f ≠ "body") (p d n l b : W) : look f (chF p d n l b) = none := by
  unfold chF
  simp only [look]
  rw [if_neg (Ne.symm h.1), if_neg (Ne.symm h.2.1), if_neg (Ne.symm h.2.2.1), if_neg (Ne.symm h.2.2.2.1), if_neg (Ne.symm h.2.2.2.2)]
theorem f0 (p d n l b w : W) : pf ("place" : Str) w (chF p d n l b) = chF w d n l b := if_pos rfl
theorem f1 (p d n l b w : W) : pf ("digits" : Str) w (chF p d n l b) = chF p w n l b := (if_neg (by decide)).trans (congrArg _ (if_pos rfl))
theorem f2 (p d n l b w : W) : pf ("number" : Str) w (chF p d n l b) = chF p d w l b := (if_neg (by decide)).trans (congrArg _ ((if_neg (by decide)).trans (congrArg _ (if_pos rfl))))
theorem f3 (p d n l b w : W) : pf ("left" : Str) w (chF p d n l b) = chF p d n w b := (if_neg (by decide)).trans (congrArg _ ((if_neg (by decide)).trans (congrArg _ ((if_neg (by decide)).trans (congrArg _ (if_pos rfl))))))
def wis (xs : List Int) : List W := xs.map fun o => .d (.int o)
theorem data_wis : ∀ xs : List Int, dataOf (wis xs) = some (xs.map .int)
  | [] => rfl
  | x :: r => by
    show (dataOf (wis r)).map (PyData.int x :: ·) = _
    rw [data_wis r]; rfl
def chS (c : Ch) (b : W) : List (Str × W) := chF (.d (.str c.pl.str)) (.d (.int c.dg)) (.d (.int c.nm)) (.d (.int c.lf)) b
/-- the store with a reader -/
def St (S : Sto) (c : Ch) : Sto := S ++ [.ins 0 (chS c (.r (S.length + 1))), .lst (wis c.bd)]
theorem st_len (S : Sto) (c : Ch) : (St S c).length = S.length + 2 := by unfold St; rw [List.length_append]; rfl
theorem st0 (S : Sto) (c : Ch) : (St S c)[S.length]? = some (.ins 0 (chS c (.r (S.length + 1)))) := at_end S _ _
theorem st1 (S : Sto) (c : Ch) : (St S c)[S.length + 1]? = some (.lst (wis c.bd)) := by
  unfold St
  rw [List.getElem?_append_right (by omega), show S.length + 1 - S.length = 1 by omega]; rfl
theorem set0 (S : Sto) (a b u : O) : (S ++ [a, b]).set S.length u = S ++ [u, b] := by
  rw [List.set_append_right _ _ (Nat.le_refl _), Nat.sub_self]; rfl
theorem set1 (S : Sto) (a b u : O) : (S ++ [a, b]).set (S.length + 1) u = S ++ [a, u] := by
  rw [List.set_append_right _ _ (by omega), show S.length + 1 - S.length = 1 by omega]; rfl
def worth (o : Int) : Option Int := if 48 ≤ o ∧ o ≤ 57 then some (o - 48) else if 65 ≤ o ∧ o ≤ 70 then some (o - 55) else if 97 ≤ o ∧ o ≤ 102 then some (o - 87) else none
def optD : Option Int → D
  | some v => .int v
  | none => .none
def stand (c : Ch) (o : Int) : Bool := match c.pl with
  | .size => if o = 13 then decide (0 < c.dg) else (worth o).isSome && decide (c.dg < 4)
  | .line => o == 10 | .last => o == 10 | .behind => o == 10
  | .empty => o == 13 | .fin => o == 13
  | .octets => true
def flt (c : Ch) (o : Int) : Option Int := if stand c o = true then (if c.pl.isSize = true ∧ o = 13 ∧ 300 < (c.bd.length : Int) + c.nm then some 413 else none) else some 400
def goC (c : Ch) (o : Int) : Ch := match c.pl with
  | .size => if o = 13 then { c with pl := .line } else { c with dg := c.dg + 1, nm := c.nm * 16 + (worth o).getD 0 }
  | .line => { c with lf := c.nm, pl := if 0 < c.nm then .octets else .empty }
  | .octets => { c with bd := c.bd ++ [o], lf := c.lf - 1, pl := if 0 < c.lf - 1 then .octets else .fin }
  | .behind => { c with pl := .size, dg := 0, nm := 0 }
  | .last => c
  | .empty => { c with pl := .last }
  | .fin => { c with pl := .behind }
inductive Oc where
  | wrong (k : Int) (n : Nat) | whole (b : List Int) (n : Nat)
def runC : Ch → List Int → Nat → Option Oc
  | _, [], _ => none
  | c, o :: r, n => match flt c o with
    | some k => some (.wrong k n)
    | none => if c.pl.isLast = true then some (.whole c.bd (n + 1)) else runC (goC c o) r (n + 1)
def Oc.D : Option Oc → D
  | none => .none
  | some (.wrong k n) => .tuple [.str "wrong", .int k, .int (n : Nat)]
  | some (.whole b n) => .tuple [.str "whole", T b, .int (n : Nat)]
section
variable {S : Sto} {q : W → Sto → Prop}
theorem ga0 {c : Ch} : post (getA 0 "place" (.r S.length) (St S c)) q = q (.d (.str c.pl.str)) (St S c) := v_getA (st0 S c) (l0 _ _ _ _ _)
theorem ga1 {c : Ch} : post (getA 0 "digits" (.r S.length) (St S c)) q = q (.d (.int c.dg)) (St S c) := v_getA (st0 S c) (l1 _ _ _ _ _)
theorem ga2 {c : Ch} : post (getA 0 "number" (.r S.length) (St S c)) q = q (.d (.int c.nm)) (St S c) := v_getA (st0 S c) (l2 _ _ _ _ _)
theorem ga3 {c : Ch} : post (getA 0 "left" (.r S.length) (St S c)) q = q (.d (.int c.lf)) (St S c) := v_getA (st0 S c) (l3 _ _ _ _ _)
theorem ga4 {c : Ch} : post (getA 0 "body" (.r S.length) (St S c)) q = q (.r (S.length + 1)) (St S c) := v_getA (st0 S c) (l4 _ _ _ _ _)
theorem worth_ok {o : Int} (k : q (.d (optD (worth o))) S) : post (m_worth_of [.d (.int o)] S) q := by
  refine post_fn rfl ?_
  unfold b_worth_of
  unfold worth at k
  simp (implicitDefEqProofs := false) only [sq_ap, post_bnd, post_ret, a_k, a_v, getV_cons0, getV_cons, a_bin, a_cmp, a_ch, a_neg, a_not, a_and, a_or, a_ite, a_sub, a_slc, a_no, a_so, a_nil', a_cons', a_tup, a_lst, a_nl, a_ndk, a_call, a_call0, a_bi, a_isi, a_app, a_sd, a_tst, a_sk, a_brk, a_cnt, a_bad, a_ex, a_ret, a_retN, a_if, a_asg, a_par2, a_par3, a_set, a_for, a_seq, a_enum, a_rng1, a_rng2, a_lc, a_lc2, a_aug, a_disp, a_op2, a_tsub, a_tin, a_tnin, a_itemsL, v_add, v_sub, v_band, v_neg, v_trB, v_trI, v_trN, v_lt, v_le, v_gt, v_ge, v_eqI, v_neI, v_eqS, v_neS, v_isn, v_isnn, v_int, v_abs, v_lenT, v_lenL, v_tupL, v_lstL, List.set_cons_zero, List.set_cons_succ, List.map_cons, List.map_nil, List.cons_append, List.nil_append, List.replicate_succ, List.replicate_zero, dataOf, Option.map_some, Option.some.injEq, exists_eq_left', List.length_cons, List.length_nil, asOI]
  by_cases a1 : 48 ≤ o
  · by_cases a2 : o ≤ 57
    · rw [if_pos ⟨a1, a2⟩] at k
      simp only [a1, a2, decide_true, if_true]
      rw [leave_same (Nat.le_refl _)]; exact k
    · rw [if_neg fun z => a2 z.2] at k
      simp only [a1, a2, decide_true, decide_false, if_true, Bool.false_eq_true, if_false]
      by_cases b1 : 65 ≤ o
      · by_cases b2 : o ≤ 70
        · rw [if_pos ⟨b1, b2⟩] at k
          simp only [b1, b2, decide_true, if_true]
          rw [leave_same (Nat.le_refl _)]; exact k
        · rw [if_neg fun z => b2 z.2] at k
          simp only [b1, b2, decide_true, decide_false, if_true, Bool.false_eq_true, if_false]
          by_cases c1 : 97 ≤ o
          · by_cases c2 : o ≤ 102
            · rw [if_pos ⟨c1, c2⟩] at k
              simp only [c1, c2, decide_true, if_true]
              rw [leave_same (Nat.le_refl _)]; exact k
            · rw [if_neg fun z => c2 z.2] at k
              simp only [c1, c2, decide_true, decide_false, if_true, Bool.false_eq_true, if_false]
              rw [leave_same (Nat.le_refl _)]; exact k
          · rw [if_neg fun z => c1 z.1] at k
            simp only [c1, decide_true, decide_false, if_true, Bool.false_eq_true, if_false]
            rw [leave_same (Nat.le_refl _)]; exact k
      · rw [if_neg fun z => b1 z.1, if_neg fun z => by omega] at k
        have c1 : ¬ 97 ≤ o := by omega
        simp only [b1, c1, decide_true, decide_false, if_true, Bool.false_eq_true, if_false]
        rw [leave_same (Nat.le_refl _)]; exact k
  · have b1 : ¬ 65 ≤ o := by omega
    have c1 : ¬ 97 ≤ o := by omega
    rw [if_neg fun z => a1 z.1, if_neg fun z => b1 z.1, if_neg fun z => c1 z.1] at k
    simp only [a1, b1, c1, decide_true, decide_false, if_true, Bool.false_eq_true, if_false]
    rw [leave_same (Nat.le_refl _)]; exact k
theorem none_opt (x : Option Int) : isNone (.d (optD x)) = x.isNone := by cases x <;> rfl
theorem t3 : dataOf [W.d (.str "line"), .d (.str "last"), .d (.str "behind")] = some [.str "line", .str "last", .str "behind"] := rfl
theorem stand_ok {c : Ch} {o : Int} (k : q (.d (.bool (stand c o))) (St S c)) : post (m_Chunks_can_stand [.r S.length, .d (.int o)] (St S c)) q := by
  refine post_fn rfl ?_
  unfold b_Chunks_can_stand
  have hk : wKey (.d (.str c.pl.str)) = some (.inr c.pl.str) := rfl
  generalize hN : t_NEXT = N
  simp (implicitDefEqProofs := false) only [sq_ap, post_bnd, post_ret, a_k, a_v, getV_cons0, getV_cons, a_bin, a_cmp, a_ch, a_neg, a_not, a_and, a_or, a_ite, a_sub, a_slc, a_no, a_so, a_nil', a_cons', a_tup, a_lst, a_nl, a_ndk, a_call, a_call0, a_bi, a_isi, a_app, a_sd, a_tst, a_sk, a_brk, a_cnt, a_bad, a_ex, a_ret, a_retN, a_if, a_asg, a_par2, a_par3, a_set, a_for, a_seq, a_enum, a_rng1, a_rng2, a_lc, a_lc2, a_aug, a_disp, a_op2, a_tsub, a_tin, a_tnin, a_itemsL, v_add, v_sub, v_band, v_neg, v_trB, v_trI, v_trN, v_lt, v_le, v_gt, v_ge, v_eqI, v_neI, v_eqS, v_neS, v_isn, v_isnn, v_int, v_abs, v_lenT, v_lenL, v_tupL, v_lstL, List.set_cons_zero, List.set_cons_succ, List.map_cons, List.map_nil, List.cons_append, List.nil_append, List.replicate_succ, List.replicate_zero, dataOf, Option.map_some, Option.some.injEq, exists_eq_left', List.length_cons, List.length_nil, asOI, a_attr, ga0, q_size]
  obtain ⟨p, dg, nm, lf, bd⟩ := c
  cases p
  case size =>
    simp (implicitDefEqProofs := false) only [Pl.isSize, if_true, ga1]
    unfold stand at k
    by_cases h : o = 13
    · subst h
      simp (implicitDefEqProofs := false) only [beq_self_eq_true, if_true]
      rw [v_gt, leave_same (Nat.le_refl _)]
      exact k
    · have h2 : (o == 13) = false := beq_eq_false_iff_ne.mpr h
      simp only [if_neg h] at k
      simp (implicitDefEqProofs := false) only [h2, Bool.false_eq_true, if_false]
      refine worth_ok ?_
      simp (implicitDefEqProofs := false) only [v_isnn, none_opt, v_trB]
      cases e : (worth o).isNone with
      | true =>
        have e2 : (worth o).isSome = false := by cases z : worth o <;> simp_all
        rw [e2] at k
        simp (implicitDefEqProofs := false) only [Bool.not_true, Bool.false_eq_true, if_false]
        rw [leave_same (Nat.le_refl _)]
        exact k
      | false =>
        have e2 : (worth o).isSome = true := by cases z : worth o <;> simp_all
        rw [e2] at k
        simp (implicitDefEqProofs := false) only [Bool.not_false, if_true, ga1, v_lt]
        rw [leave_same (Nat.le_refl _)]
        exact k
  all_goals
    simp (implicitDefEqProofs := false) only [Pl.isSize, Bool.false_eq_true, if_false]
    refine ⟨by decide, ?_⟩
    rw [v_inD (q_three _)]
    simp (implicitDefEqProofs := false) only [Pl.isLine, Pl.isLast, Pl.isBeh, Bool.or_false, Bool.or_true, Bool.false_or, Bool.false_eq_true, if_true, if_false, v_eqI]
  all_goals first
    | (rw [leave_same (Nat.le_refl _)]; exact k)
    | (subst hN
       rw [ga0, v_tinB rfl, q_next]
       simp (implicitDefEqProofs := false) only [v_trB, if_true, Bool.false_eq_true, if_false]
       rw [leave_same (Nat.le_refl _)]; exact k)
end
end MP.Q0

namespace MP.Q0
open PySem L2 PySem.Spec PyProof.Rows
section
variable {S : Sto} {q : W → Sto → Prop} {Q : Unit → Sto → Prop} {c : Ch}
theorem a_tup2 {ρ : Sl} {S : Sto} (u : List W → Sl → M Sl) (x y : D) (Q : Sl → Sto → Prop) : post (tupT 2 u (.d (.tuple [x, y])) ρ S) Q = post (u [.d x, .d y] ρ S) Q := a_tupT 2 u [x, y] Q rfl
theorem a_tup3 {ρ : Sl} {S : Sto} (u : List W → Sl → M Sl) (x y z : D) (Q : Sl → Sto → Prop) : post (tupT 3 u (.d (.tuple [x, y, z])) ρ S) Q = post (u [.d x, .d y, .d z] ρ S) Q := a_tupT 3 u [x, y, z] Q rfl
theorem gm1 : post (rcvA 0 "can_stand" (.r S.length) (St S c)) Q = Q () (St S c) := v_rcvA (st0 S c) (l_no (by decide) _ _ _ _ _)
theorem gm2 : post (rcvA 0 "size" (.r S.length) (St S c)) Q = Q () (St S c) := v_rcvA (st0 S c) (l_no (by decide) _ _ _ _ _)
theorem gm3 : post (rcvA 0 "fault" (.r S.length) (St S c)) Q = Q () (St S c) := v_rcvA (st0 S c) (l_no (by decide) _ _ _ _ _)
theorem gm4 : post (rcvA 0 "go_on" (.r S.length) (St S c)) Q = Q () (St S c) := v_rcvA (st0 S c) (l_no (by decide) _ _ _ _ _)
theorem gs0 (p : Pl) : post (setA 0 "place" (.r S.length) (.d (.str p.str)) (St S c)) Q = Q () (St S { c with pl := p }) := by
  rw [v_setA (st0 S c) (by show 5 < 1000; decide)]
  unfold St chS
  rw [set0, f0]
theorem gs1 (i : Int) : post (setA 0 "digits" (.r S.length) (.d (.int i)) (St S c)) Q = Q () (St S { c with dg := i }) := by
  rw [v_setA (st0 S c) (by show 5 < 1000; decide)]
  unfold St chS
  rw [set0, f1]
theorem gs2 (i : Int) : post (setA 0 "number" (.r S.length) (.d (.int i)) (St S c)) Q = Q () (St S { c with nm := i }) := by
  rw [v_setA (st0 S c) (by show 5 < 1000; decide)]
  unfold St chS
  rw [set0, f2]
theorem gs3 (i : Int) : post (setA 0 "left" (.r S.length) (.d (.int i)) (St S c)) Q = Q () (St S { c with lf := i }) := by
  rw [v_setA (st0 S c) (by show 5 < 1000; decide)]
  unfold St chS
  rw [set0, f3]
theorem gap {o : Int} (h : c.bd.length < 5000) {q : W → Sto → Prop} : post (meW .append (.r (S.length + 1)) [.d (.int o)] (St S c)) q = q (.d .none) (St S { c with bd := c.bd ++ [o] }) := by
  rw [v_app (st1 S c) (by unfold wis; rw [List.length_map]; omega)]
  have e : wis c.bd ++ [.d (.int o)] = wis (c.bd ++ [o]) := by unfold wis; rw [List.map_append]; rfl
  unfold St
  rw [set1, e]; rfl
theorem grc {q : Unit → Sto → Prop} : post (rcv .append (.r (S.length + 1)) (St S c)) q = q () (St S c) := v_rcv (st1 S c)
theorem gln : post (b1W .len [.r (S.length + 1)] (St S c)) q = q (.d (.int c.bd.length)) (St S c) := by
  rw [v_lenR (st1 S c)]
  unfold wis
  rw [List.length_map]
theorem gtp : post (b1W .tuple [.r (S.length + 1)] (St S c)) q = q (.d (T c.bd)) (St S c) := v_tupR (st1 S c) (data_wis _)
theorem fault_ok {o : Int} (k : q (.d (optD (flt c o))) (St S c)) : post (m_Chunks_fault [.r S.length, .d (.int o)] (St S c)) q := by
  refine post_fn rfl ?_
  unfold b_Chunks_fault
  unfold flt at k
  simp (implicitDefEqProofs := false) only [sq_ap, post_bnd, post_ret, a_k, a_v, getV_cons0, getV_cons, a_bin, a_cmp, a_ch, a_neg, a_not, a_and, a_or, a_ite, a_sub, a_slc, a_no, a_so, a_nil', a_cons', a_tup, a_lst, a_nl, a_ndk, a_call, a_call0, a_bi, a_isi, a_app, a_sd, a_tst, a_sk, a_brk, a_cnt, a_bad, a_ex, a_ret, a_retN, a_if, a_asg, a_par2, a_par3, a_set, a_for, a_seq, a_enum, a_rng1, a_rng2, a_lc, a_lc2, a_aug, a_disp, a_op2, a_tsub, a_tin, a_tnin, a_itemsL, v_add, v_sub, v_band, v_neg, v_trB, v_trI, v_trN, v_lt, v_le, v_gt, v_ge, v_eqI, v_neI, v_eqS, v_neS, v_isn, v_isnn, v_int, v_abs, v_lenT, v_lenL, v_tupL, v_lstL, List.set_cons_zero, List.set_cons_succ, List.map_cons, List.map_nil, List.cons_append, List.nil_append, List.replicate_succ, List.replicate_zero, dataOf, Option.map_some, Option.some.injEq, exists_eq_left', List.length_cons, List.length_nil, asOI, a_mc, gm1]
  refine stand_ok ?_
  simp (implicitDefEqProofs := false) only [v_trB]
  cases h : stand c o with
  | false =>
    rw [h, if_neg Bool.false_ne_true] at k
    try simp (implicitDefEqProofs := false) only [Bool.not_false, if_true]
    rw [leave_same (Nat.le_refl _)]; exact k
  | true =>
    rw [h, if_pos rfl] at k
    try simp (implicitDefEqProofs := false) only [Bool.not_true, Bool.false_eq_true, if_false, a_attr, ga0, v_eqS, q_size, v_trB]
    cases hs : c.pl.isSize with
    | false =>
      rw [hs, if_neg fun z => Bool.false_ne_true z.1] at k
      simp (implicitDefEqProofs := false) only [↓reduceIte, post_bnd, post_ret, a_k, a_v, getV_cons0, getV_cons, a_bin, a_cmp, a_ch, a_neg, a_not, a_and, a_or, a_ite, a_sub, a_slc, a_no, a_so, a_nil', a_cons', a_tup, a_lst, a_nl, a_ndk, a_call, a_call0, a_bi, a_isi, a_app, a_sd, a_tst, a_sk, a_brk, a_cnt, a_bad, a_ex, a_ret, a_retN, a_if, a_asg, a_par2, a_par3, a_set, a_for, a_seq, a_enum, a_rng1, a_rng2, a_lc, a_lc2, a_aug, a_disp, a_op2, a_tsub, a_tin, a_tnin, a_itemsL, v_add, v_sub, v_band, v_neg, v_trB, v_trI, v_trN, v_lt, v_le, v_gt, v_ge, v_eqI, v_neI, v_eqS, v_neS, v_isn, v_isnn, v_int, v_abs, v_lenT, v_lenL, v_tupL, v_lstL, List.set_cons_zero, List.set_cons_succ, List.map_cons, List.map_nil, List.cons_append, List.nil_append, List.replicate_succ, List.replicate_zero, dataOf, Option.map_some, Option.some.injEq, exists_eq_left', List.length_cons, List.length_nil, asOI, a_asgX, a_mc, a_attr, ga0, ga1, ga2, ga3, ga4, gm1, gm2, grc, gln, gtp, q_size, q_line, q_oct, q_beh, q_last, Bool.false_eq_true, a_tup2, a_tup3, a_consT, a_nilT, a_atT, gs1, gs2, gs3, hs]
      rw [leave_same (Nat.le_refl _)]; exact k
    | true =>
      rw [hs] at k
      simp (implicitDefEqProofs := false) only [↓reduceIte, post_bnd, post_ret, a_k, a_v, getV_cons0, getV_cons, a_bin, a_cmp, a_ch, a_neg, a_not, a_and, a_or, a_ite, a_sub, a_slc, a_no, a_so, a_nil', a_cons', a_tup, a_lst, a_nl, a_ndk, a_call, a_call0, a_bi, a_isi, a_app, a_sd, a_tst, a_sk, a_brk, a_cnt, a_bad, a_ex, a_ret, a_retN, a_if, a_asg, a_par2, a_par3, a_set, a_for, a_seq, a_enum, a_rng1, a_rng2, a_lc, a_lc2, a_aug, a_disp, a_op2, a_tsub, a_tin, a_tnin, a_itemsL, v_add, v_sub, v_band, v_neg, v_trB, v_trI, v_trN, v_lt, v_le, v_gt, v_ge, v_eqI, v_neI, v_eqS, v_neS, v_isn, v_isnn, v_int, v_abs, v_lenT, v_lenL, v_tupL, v_lstL, List.set_cons_zero, List.set_cons_succ, List.map_cons, List.map_nil, List.cons_append, List.nil_append, List.replicate_succ, List.replicate_zero, dataOf, Option.map_some, Option.some.injEq, exists_eq_left', List.length_cons, List.length_nil, asOI, a_asgX, a_mc, a_attr, ga0, ga1, ga2, ga3, ga4, gm1, gm2, grc, gln, gtp, q_size, q_line, q_oct, q_beh, q_last, Bool.false_eq_true, a_tup2, a_tup3, a_consT, a_nilT, a_atT, gs1, gs2, gs3, hs]
      by_cases ho : o = 13
      · subst ho
        try simp (implicitDefEqProofs := false) only [↓reduceIte, post_bnd, post_ret, a_k, a_v, getV_cons0, getV_cons, a_bin, a_cmp, a_ch, a_neg, a_not, a_and, a_or, a_ite, a_sub, a_slc, a_no, a_so, a_nil', a_cons', a_tup, a_lst, a_nl, a_ndk, a_call, a_call0, a_bi, a_isi, a_app, a_sd, a_tst, a_sk, a_brk, a_cnt, a_bad, a_ex, a_ret, a_retN, a_if, a_asg, a_par2, a_par3, a_set, a_for, a_seq, a_enum, a_rng1, a_rng2, a_lc, a_lc2, a_aug, a_disp, a_op2, a_tsub, a_tin, a_tnin, a_itemsL, v_add, v_sub, v_band, v_neg, v_trB, v_trI, v_trN, v_lt, v_le, v_gt, v_ge, v_eqI, v_neI, v_eqS, v_neS, v_isn, v_isnn, v_int, v_abs, v_lenT, v_lenL, v_tupL, v_lstL, List.set_cons_zero, List.set_cons_succ, List.map_cons, List.map_nil, List.cons_append, List.nil_append, List.replicate_succ, List.replicate_zero, dataOf, Option.map_some, Option.some.injEq, exists_eq_left', List.length_cons, List.length_nil, asOI, a_asgX, a_mc, a_attr, ga0, ga1, ga2, ga3, ga4, gm1, gm2, grc, gln, gtp, q_size, q_line, q_oct, q_beh, q_last, Bool.false_eq_true, a_tup2, a_tup3, a_consT, a_nilT, a_atT, gs1, gs2, gs3, beq_self_eq_true]
        by_cases hb : 300 < (c.bd.length : Int) + c.nm
        · rw [if_pos ⟨rfl, rfl, hb⟩] at k
          rw [decide_eq_true hb, if_pos rfl, leave_same (Nat.le_refl _)]; exact k
        · rw [if_neg fun z => hb z.2.2] at k
          rw [decide_eq_false hb, if_neg Bool.false_ne_true, leave_same (Nat.le_refl _)]; exact k
      · rw [if_neg fun z => ho z.2.1] at k
        have h2 : (o == 13) = false := beq_eq_false_iff_ne.mpr ho
        try simp (implicitDefEqProofs := false) only [↓reduceIte, post_bnd, post_ret, a_k, a_v, getV_cons0, getV_cons, a_bin, a_cmp, a_ch, a_neg, a_not, a_and, a_or, a_ite, a_sub, a_slc, a_no, a_so, a_nil', a_cons', a_tup, a_lst, a_nl, a_ndk, a_call, a_call0, a_bi, a_isi, a_app, a_sd, a_tst, a_sk, a_brk, a_cnt, a_bad, a_ex, a_ret, a_retN, a_if, a_asg, a_par2, a_par3, a_set, a_for, a_seq, a_enum, a_rng1, a_rng2, a_lc, a_lc2, a_aug, a_disp, a_op2, a_tsub, a_tin, a_tnin, a_itemsL, v_add, v_sub, v_band, v_neg, v_trB, v_trI, v_trN, v_lt, v_le, v_gt, v_ge, v_eqI, v_neI, v_eqS, v_neS, v_isn, v_isnn, v_int, v_abs, v_lenT, v_lenL, v_tupL, v_lstL, List.set_cons_zero, List.set_cons_succ, List.map_cons, List.map_nil, List.cons_append, List.nil_append, List.replicate_succ, List.replicate_zero, dataOf, Option.map_some, Option.some.injEq, exists_eq_left', List.length_cons, List.length_nil, asOI, a_asgX, a_mc, a_attr, ga0, ga1, ga2, ga3, ga4, gm1, gm2, grc, gln, gtp, q_size, q_line, q_oct, q_beh, q_last, Bool.false_eq_true, a_tup2, a_tup3, a_consT, a_nilT, a_atT, gs1, gs2, gs3, h2]
        rw [leave_same (Nat.le_refl _)]; exact k
theorem p_line : (W.d (.str "line") : W) = .d (.str Pl.line.str) := rfl
theorem p_size : (W.d (.str "size") : W) = .d (.str Pl.size.str) := rfl
theorem p_ite (b : Prop) [Decidable b] (x y : Pl) : (if b then W.d (.str x.str) else .d (.str y.str) : W) = .d (.str (if b then x else y).str) := by split <;> rfl
theorem st_st {d : Ch} {w : W} : leave (St S c).length w (St S d) = St S d := leave_same (by rw [st_len, st_len]; exact Nat.le_refl _)
theorem size_ok {o : Int} (hp : c.pl = .size) (h : o = 13 ∨ (worth o).isSome = true) (k : q (.d .none) (St S (goC c o))) : post (m_Chunks_size [.r S.length, .d (.int o)] (St S c)) q := by
  refine post_fn rfl ?_
  unfold b_Chunks_size
  have eg : goC c o = if o = 13 then { c with pl := .line } else { c with dg := c.dg + 1, nm := c.nm * 16 + (worth o).getD 0 } := by
    unfold goC; rw [hp]
  rw [eg] at k
  simp (implicitDefEqProofs := false) only [post_bnd, post_ret, a_k, a_v, getV_cons0, getV_cons, a_bin, a_cmp, a_ch, a_neg, a_not, a_and, a_or, a_ite, a_sub, a_slc, a_no, a_so, a_nil', a_cons', a_tup, a_lst, a_nl, a_ndk, a_call, a_call0, a_bi, a_isi, a_app, a_sd, a_tst, a_sk, a_brk, a_cnt, a_bad, a_ex, a_ret, a_retN, a_if, a_asg, a_par2, a_par3, a_set, a_for, a_seq, a_enum, a_rng1, a_rng2, a_lc, a_lc2, a_aug, a_disp, a_op2, a_tsub, a_tin, a_tnin, a_itemsL, v_add, v_sub, v_band, v_neg, v_trB, v_trI, v_trN, v_lt, v_le, v_gt, v_ge, v_eqI, v_neI, v_eqS, v_neS, v_isn, v_isnn, v_int, v_abs, v_lenT, v_lenL, v_tupL, v_lstL, List.set_cons_zero, List.set_cons_succ, List.map_cons, List.map_nil, List.cons_append, List.nil_append, List.replicate_succ, List.replicate_zero, dataOf, Option.map_some, Option.some.injEq, exists_eq_left', List.length_cons, List.length_nil, asOI, a_asgX, a_attr]
  by_cases ho : o = 13
  · subst ho
    rw [if_pos rfl] at k
    try simp (implicitDefEqProofs := false) only [beq_self_eq_true, if_true, a_atT, a_v, getV_cons0, post_ret]
    rw [p_line, gs0, st_st]
    exact k
  · rw [if_neg ho] at k
    have h2 : (o == 13) = false := beq_eq_false_iff_ne.mpr ho
    obtain ⟨v, hv⟩ := Option.isSome_iff_exists.mp (h.resolve_left ho)
    rw [hv] at k
    try simp (implicitDefEqProofs := false) only [h2, Bool.false_eq_true, if_false, ga1, ga2, v_add]
    rw [v_mul (.inr (by decide))]
    refine worth_ok ?_
    rw [hv]
    try simp (implicitDefEqProofs := false) only [optD, v_add, dataOf, Option.map_some, Option.some.injEq, exists_eq_left']
    refine ⟨by show 2 ≤ 16777216; decide, ?_⟩
    rw [a_tup2]
    try simp (implicitDefEqProofs := false) only [List.map_cons, List.map_nil, a_consT, a_nilT, a_atT, a_v, getV_cons0, post_ret, gs1, gs2]
    rw [st_st]
    exact k
theorem go_ok {o : Int} (hf : flt c o = none) (hb : c.bd.length < 5000) (k : q (.d (.bool c.pl.isLast)) (St S (goC c o))) : post (m_Chunks_go_on [.r S.length, .d (.int o)] (St S c)) q := by
  refine post_fn rfl ?_
  unfold b_Chunks_go_on
  generalize hN : t_NEXT = N
  have hst : stand c o = true := by
    unfold flt at hf
    cases e : stand c o with
    | true => rfl
    | false => rw [e, if_neg Bool.false_ne_true] at hf; cases hf
  rw [sq_ap]
  obtain ⟨p, dg, nm, lf, bd⟩ := c
  cases p with
  | size =>
    simp (implicitDefEqProofs := false) only [↓reduceIte, post_bnd, post_ret, a_k, a_v, getV_cons0, getV_cons, a_bin, a_cmp, a_ch, a_neg, a_not, a_and, a_or, a_ite, a_sub, a_slc, a_no, a_so, a_nil', a_cons', a_tup, a_lst, a_nl, a_ndk, a_call, a_call0, a_bi, a_isi, a_app, a_sd, a_tst, a_sk, a_brk, a_cnt, a_bad, a_ex, a_ret, a_retN, a_if, a_asg, a_par2, a_par3, a_set, a_for, a_seq, a_enum, a_rng1, a_rng2, a_lc, a_lc2, a_aug, a_disp, a_op2, a_tsub, a_tin, a_tnin, a_itemsL, v_add, v_sub, v_band, v_neg, v_trB, v_trI, v_trN, v_lt, v_le, v_gt, v_ge, v_eqI, v_neI, v_eqS, v_neS, v_isn, v_isnn, v_int, v_abs, v_lenT, v_lenL, v_tupL, v_lstL, List.set_cons_zero, List.set_cons_succ, List.map_cons, List.map_nil, List.cons_append, List.nil_append, List.replicate_succ, List.replicate_zero, dataOf, Option.map_some, Option.some.injEq, exists_eq_left', List.length_cons, List.length_nil, asOI, a_asgX, a_mc, a_attr, ga0, ga1, ga2, ga3, ga4, gm1, gm2, grc, gln, gtp, q_size, q_line, q_oct, q_beh, q_last, Pl.isSize, Pl.isLine, Pl.isOct, Pl.isBeh, Pl.isLast, Bool.false_eq_true, a_tup2, a_tup3, a_consT, a_nilT, a_atT, gs1, gs2, gs3]
    refine size_ok rfl ?_ ?_
    · unfold stand at hst
      dsimp only at hst
      by_cases ho : o = 13
      · exact .inl ho
      · rw [if_neg ho] at hst
        exact .inr (Bool.and_eq_true_iff.mp hst).1
    · try simp (implicitDefEqProofs := false) only [↓reduceIte, post_bnd, post_ret, a_k, a_v, getV_cons0, getV_cons, a_bin, a_cmp, a_ch, a_neg, a_not, a_and, a_or, a_ite, a_sub, a_slc, a_no, a_so, a_nil', a_cons', a_tup, a_lst, a_nl, a_ndk, a_call, a_call0, a_bi, a_isi, a_app, a_sd, a_tst, a_sk, a_brk, a_cnt, a_bad, a_ex, a_ret, a_retN, a_if, a_asg, a_par2, a_par3, a_set, a_for, a_seq, a_enum, a_rng1, a_rng2, a_lc, a_lc2, a_aug, a_disp, a_op2, a_tsub, a_tin, a_tnin, a_itemsL, v_add, v_sub, v_band, v_neg, v_trB, v_trI, v_trN, v_lt, v_le, v_gt, v_ge, v_eqI, v_neI, v_eqS, v_neS, v_isn, v_isnn, v_int, v_abs, v_lenT, v_lenL, v_tupL, v_lstL, List.set_cons_zero, List.set_cons_succ, List.map_cons, List.map_nil, List.cons_append, List.nil_append, List.replicate_succ, List.replicate_zero, dataOf, Option.map_some, Option.some.injEq, exists_eq_left', List.length_cons, List.length_nil, asOI, a_asgX, a_mc, a_attr, ga0, ga1, ga2, ga3, ga4, gm1, gm2, grc, gln, gtp, q_size, q_line, q_oct, q_beh, q_last, Pl.isSize, Pl.isLine, Pl.isOct, Pl.isBeh, Pl.isLast, Bool.false_eq_true, a_tup2, a_tup3, a_consT, a_nilT, a_atT, gs1, gs2, gs3]
      rw [st_st]; exact k
  | line =>
    simp (implicitDefEqProofs := false) only [↓reduceIte, post_bnd, post_ret, a_k, a_v, getV_cons0, getV_cons, a_bin, a_cmp, a_ch, a_neg, a_not, a_and, a_or, a_ite, a_sub, a_slc, a_no, a_so, a_nil', a_cons', a_tup, a_lst, a_nl, a_ndk, a_call, a_call0, a_bi, a_isi, a_app, a_sd, a_tst, a_sk, a_brk, a_cnt, a_bad, a_ex, a_ret, a_retN, a_if, a_asg, a_par2, a_par3, a_set, a_for, a_seq, a_enum, a_rng1, a_rng2, a_lc, a_lc2, a_aug, a_disp, a_op2, a_tsub, a_tin, a_tnin, a_itemsL, v_add, v_sub, v_band, v_neg, v_trB, v_trI, v_trN, v_lt, v_le, v_gt, v_ge, v_eqI, v_neI, v_eqS, v_neS, v_isn, v_isnn, v_int, v_abs, v_lenT, v_lenL, v_tupL, v_lstL, List.set_cons_zero, List.set_cons_succ, List.map_cons, List.map_nil, List.cons_append, List.nil_append, List.replicate_succ, List.replicate_zero, dataOf, Option.map_some, Option.some.injEq, exists_eq_left', List.length_cons, List.length_nil, asOI, a_asgX, a_mc, a_attr, ga0, ga1, ga2, ga3, ga4, gm1, gm2, grc, gln, gtp, q_size, q_line, q_oct, q_beh, q_last, Pl.isSize, Pl.isLine, Pl.isOct, Pl.isBeh, Pl.isLast, Bool.false_eq_true, a_tup2, a_tup3, a_consT, a_nilT, a_atT, gs1, gs2, gs3]
    by_cases hn : 0 < nm
    · have eg : goC ⟨.line, dg, nm, lf, bd⟩ o = ⟨.octets, dg, nm, nm, bd⟩ := by unfold goC; simp only [if_pos hn]
      rw [eg] at k
      rw [decide_eq_true hn]
      simp (implicitDefEqProofs := false) only [↓reduceIte, post_bnd, post_ret, a_k, a_v, getV_cons0, getV_cons, a_bin, a_cmp, a_ch, a_neg, a_not, a_and, a_or, a_ite, a_sub, a_slc, a_no, a_so, a_nil', a_cons', a_tup, a_lst, a_nl, a_ndk, a_call, a_call0, a_bi, a_isi, a_app, a_sd, a_tst, a_sk, a_brk, a_cnt, a_bad, a_ex, a_ret, a_retN, a_if, a_asg, a_par2, a_par3, a_set, a_for, a_seq, a_enum, a_rng1, a_rng2, a_lc, a_lc2, a_aug, a_disp, a_op2, a_tsub, a_tin, a_tnin, a_itemsL, v_add, v_sub, v_band, v_neg, v_trB, v_trI, v_trN, v_lt, v_le, v_gt, v_ge, v_eqI, v_neI, v_eqS, v_neS, v_isn, v_isnn, v_int, v_abs, v_lenT, v_lenL, v_tupL, v_lstL, List.set_cons_zero, List.set_cons_succ, List.map_cons, List.map_nil, List.cons_append, List.nil_append, List.replicate_succ, List.replicate_zero, dataOf, Option.map_some, Option.some.injEq, exists_eq_left', List.length_cons, List.length_nil, asOI, a_asgX, a_mc, a_attr, ga0, ga1, ga2, ga3, ga4, gm1, gm2, grc, gln, gtp, q_size, q_line, q_oct, q_beh, q_last, Pl.isSize, Pl.isLine, Pl.isOct, Pl.isBeh, Pl.isLast, Bool.false_eq_true, a_tup2, a_tup3, a_consT, a_nilT, a_atT, gs1, gs2, gs3]
      refine ⟨by show 2 ≤ 16777216; decide, ?_⟩
      rw [show (W.d (.str "octets") : W) = .d (.str Pl.octets.str) from rfl, gs0]
      try simp (implicitDefEqProofs := false) only [↓reduceIte, post_bnd, post_ret, a_k, a_v, getV_cons0, getV_cons, a_bin, a_cmp, a_ch, a_neg, a_not, a_and, a_or, a_ite, a_sub, a_slc, a_no, a_so, a_nil', a_cons', a_tup, a_lst, a_nl, a_ndk, a_call, a_call0, a_bi, a_isi, a_app, a_sd, a_tst, a_sk, a_brk, a_cnt, a_bad, a_ex, a_ret, a_retN, a_if, a_asg, a_par2, a_par3, a_set, a_for, a_seq, a_enum, a_rng1, a_rng2, a_lc, a_lc2, a_aug, a_disp, a_op2, a_tsub, a_tin, a_tnin, a_itemsL, v_add, v_sub, v_band, v_neg, v_trB, v_trI, v_trN, v_lt, v_le, v_gt, v_ge, v_eqI, v_neI, v_eqS, v_neS, v_isn, v_isnn, v_int, v_abs, v_lenT, v_lenL, v_tupL, v_lstL, List.set_cons_zero, List.set_cons_succ, List.map_cons, List.map_nil, List.cons_append, List.nil_append, List.replicate_succ, List.replicate_zero, dataOf, Option.map_some, Option.some.injEq, exists_eq_left', List.length_cons, List.length_nil, asOI, a_asgX, a_mc, a_attr, ga0, ga1, ga2, ga3, ga4, gm1, gm2, grc, gln, gtp, q_size, q_line, q_oct, q_beh, q_last, Pl.isSize, Pl.isLine, Pl.isOct, Pl.isBeh, Pl.isLast, Bool.false_eq_true, a_tup2, a_tup3, a_consT, a_nilT, a_atT, gs1, gs2, gs3]
      rw [st_st]; exact k
    · have eg : goC ⟨.line, dg, nm, lf, bd⟩ o = ⟨.empty, dg, nm, nm, bd⟩ := by unfold goC; simp only [if_neg hn]
      rw [eg] at k
      rw [decide_eq_false hn]
      simp (implicitDefEqProofs := false) only [↓reduceIte, post_bnd, post_ret, a_k, a_v, getV_cons0, getV_cons, a_bin, a_cmp, a_ch, a_neg, a_not, a_and, a_or, a_ite, a_sub, a_slc, a_no, a_so, a_nil', a_cons', a_tup, a_lst, a_nl, a_ndk, a_call, a_call0, a_bi, a_isi, a_app, a_sd, a_tst, a_sk, a_brk, a_cnt, a_bad, a_ex, a_ret, a_retN, a_if, a_asg, a_par2, a_par3, a_set, a_for, a_seq, a_enum, a_rng1, a_rng2, a_lc, a_lc2, a_aug, a_disp, a_op2, a_tsub, a_tin, a_tnin, a_itemsL, v_add, v_sub, v_band, v_neg, v_trB, v_trI, v_trN, v_lt, v_le, v_gt, v_ge, v_eqI, v_neI, v_eqS, v_neS, v_isn, v_isnn, v_int, v_abs, v_lenT, v_lenL, v_tupL, v_lstL, List.set_cons_zero, List.set_cons_succ, List.map_cons, List.map_nil, List.cons_append, List.nil_append, List.replicate_succ, List.replicate_zero, dataOf, Option.map_some, Option.some.injEq, exists_eq_left', List.length_cons, List.length_nil, asOI, a_asgX, a_mc, a_attr, ga0, ga1, ga2, ga3, ga4, gm1, gm2, grc, gln, gtp, q_size, q_line, q_oct, q_beh, q_last, Pl.isSize, Pl.isLine, Pl.isOct, Pl.isBeh, Pl.isLast, Bool.false_eq_true, a_tup2, a_tup3, a_consT, a_nilT, a_atT, gs1, gs2, gs3]
      refine ⟨by show 2 ≤ 16777216; decide, ?_⟩
      rw [show (W.d (.str "empty") : W) = .d (.str Pl.empty.str) from rfl, gs0]
      try simp (implicitDefEqProofs := false) only [↓reduceIte, post_bnd, post_ret, a_k, a_v, getV_cons0, getV_cons, a_bin, a_cmp, a_ch, a_neg, a_not, a_and, a_or, a_ite, a_sub, a_slc, a_no, a_so, a_nil', a_cons', a_tup, a_lst, a_nl, a_ndk, a_call, a_call0, a_bi, a_isi, a_app, a_sd, a_tst, a_sk, a_brk, a_cnt, a_bad, a_ex, a_ret, a_retN, a_if, a_asg, a_par2, a_par3, a_set, a_for, a_seq, a_enum, a_rng1, a_rng2, a_lc, a_lc2, a_aug, a_disp, a_op2, a_tsub, a_tin, a_tnin, a_itemsL, v_add, v_sub, v_band, v_neg, v_trB, v_trI, v_trN, v_lt, v_le, v_gt, v_ge, v_eqI, v_neI, v_eqS, v_neS, v_isn, v_isnn, v_int, v_abs, v_lenT, v_lenL, v_tupL, v_lstL, List.set_cons_zero, List.set_cons_succ, List.map_cons, List.map_nil, List.cons_append, List.nil_append, List.replicate_succ, List.replicate_zero, dataOf, Option.map_some, Option.some.injEq, exists_eq_left', List.length_cons, List.length_nil, asOI, a_asgX, a_mc, a_attr, ga0, ga1, ga2, ga3, ga4, gm1, gm2, grc, gln, gtp, q_size, q_line, q_oct, q_beh, q_last, Pl.isSize, Pl.isLine, Pl.isOct, Pl.isBeh, Pl.isLast, Bool.false_eq_true, a_tup2, a_tup3, a_consT, a_nilT, a_atT, gs1, gs2, gs3]
      rw [st_st]; exact k
  | octets =>
    simp (implicitDefEqProofs := false) only [↓reduceIte, post_bnd, post_ret, a_k, a_v, getV_cons0, getV_cons, a_bin, a_cmp, a_ch, a_neg, a_not, a_and, a_or, a_ite, a_sub, a_slc, a_no, a_so, a_nil', a_cons', a_tup, a_lst, a_nl, a_ndk, a_call, a_call0, a_bi, a_isi, a_app, a_sd, a_tst, a_sk, a_brk, a_cnt, a_bad, a_ex, a_ret, a_retN, a_if, a_asg, a_par2, a_par3, a_set, a_for, a_seq, a_enum, a_rng1, a_rng2, a_lc, a_lc2, a_aug, a_disp, a_op2, a_tsub, a_tin, a_tnin, a_itemsL, v_add, v_sub, v_band, v_neg, v_trB, v_trI, v_trN, v_lt, v_le, v_gt, v_ge, v_eqI, v_neI, v_eqS, v_neS, v_isn, v_isnn, v_int, v_abs, v_lenT, v_lenL, v_tupL, v_lstL, List.set_cons_zero, List.set_cons_succ, List.map_cons, List.map_nil, List.cons_append, List.nil_append, List.replicate_succ, List.replicate_zero, dataOf, Option.map_some, Option.some.injEq, exists_eq_left', List.length_cons, List.length_nil, asOI, a_asgX, a_mc, a_attr, ga0, ga1, ga2, ga3, ga4, gm1, gm2, grc, gln, gtp, q_size, q_line, q_oct, q_beh, q_last, Pl.isSize, Pl.isLine, Pl.isOct, Pl.isBeh, Pl.isLast, Bool.false_eq_true, a_tup2, a_tup3, a_consT, a_nilT, a_atT, gs1, gs2, gs3, sq_ap, gap hb]
    by_cases hn : 0 < lf - 1
    · have eg : goC ⟨.octets, dg, nm, lf, bd⟩ o = ⟨.octets, dg, nm, lf - 1, bd ++ [o]⟩ := by unfold goC; simp only [if_pos hn]
      rw [eg] at k
      rw [decide_eq_true hn]
      simp (implicitDefEqProofs := false) only [↓reduceIte, post_bnd, post_ret, a_k, a_v, getV_cons0, getV_cons, a_bin, a_cmp, a_ch, a_neg, a_not, a_and, a_or, a_ite, a_sub, a_slc, a_no, a_so, a_nil', a_cons', a_tup, a_lst, a_nl, a_ndk, a_call, a_call0, a_bi, a_isi, a_app, a_sd, a_tst, a_sk, a_brk, a_cnt, a_bad, a_ex, a_ret, a_retN, a_if, a_asg, a_par2, a_par3, a_set, a_for, a_seq, a_enum, a_rng1, a_rng2, a_lc, a_lc2, a_aug, a_disp, a_op2, a_tsub, a_tin, a_tnin, a_itemsL, v_add, v_sub, v_band, v_neg, v_trB, v_trI, v_trN, v_lt, v_le, v_gt, v_ge, v_eqI, v_neI, v_eqS, v_neS, v_isn, v_isnn, v_int, v_abs, v_lenT, v_lenL, v_tupL, v_lstL, List.set_cons_zero, List.set_cons_succ, List.map_cons, List.map_nil, List.cons_append, List.nil_append, List.replicate_succ, List.replicate_zero, dataOf, Option.map_some, Option.some.injEq, exists_eq_left', List.length_cons, List.length_nil, asOI, a_asgX, a_mc, a_attr, ga0, ga1, ga2, ga3, ga4, gm1, gm2, grc, gln, gtp, q_size, q_line, q_oct, q_beh, q_last, Pl.isSize, Pl.isLine, Pl.isOct, Pl.isBeh, Pl.isLast, Bool.false_eq_true, a_tup2, a_tup3, a_consT, a_nilT, a_atT, gs1, gs2, gs3]
      rw [show (W.d (.str "octets") : W) = .d (.str Pl.octets.str) from rfl, gs0]
      try simp (implicitDefEqProofs := false) only [↓reduceIte, post_bnd, post_ret, a_k, a_v, getV_cons0, getV_cons, a_bin, a_cmp, a_ch, a_neg, a_not, a_and, a_or, a_ite, a_sub, a_slc, a_no, a_so, a_nil', a_cons', a_tup, a_lst, a_nl, a_ndk, a_call, a_call0, a_bi, a_isi, a_app, a_sd, a_tst, a_sk, a_brk, a_cnt, a_bad, a_ex, a_ret, a_retN, a_if, a_asg, a_par2, a_par3, a_set, a_for, a_seq, a_enum, a_rng1, a_rng2, a_lc, a_lc2, a_aug, a_disp, a_op2, a_tsub, a_tin, a_tnin, a_itemsL, v_add, v_sub, v_band, v_neg, v_trB, v_trI, v_trN, v_lt, v_le, v_gt, v_ge, v_eqI, v_neI, v_eqS, v_neS, v_isn, v_isnn, v_int, v_abs, v_lenT, v_lenL, v_tupL, v_lstL, List.set_cons_zero, List.set_cons_succ, List.map_cons, List.map_nil, List.cons_append, List.nil_append, List.replicate_succ, List.replicate_zero, dataOf, Option.map_some, Option.some.injEq, exists_eq_left', List.length_cons, List.length_nil, asOI, a_asgX, a_mc, a_attr, ga0, ga1, ga2, ga3, ga4, gm1, gm2, grc, gln, gtp, q_size, q_line, q_oct, q_beh, q_last, Pl.isSize, Pl.isLine, Pl.isOct, Pl.isBeh, Pl.isLast, Bool.false_eq_true, a_tup2, a_tup3, a_consT, a_nilT, a_atT, gs1, gs2, gs3]
      rw [st_st]; exact k
    · have eg : goC ⟨.octets, dg, nm, lf, bd⟩ o = ⟨.fin, dg, nm, lf - 1, bd ++ [o]⟩ := by unfold goC; simp only [if_neg hn]
      rw [eg] at k
      rw [decide_eq_false hn]
      simp (implicitDefEqProofs := false) only [↓reduceIte, post_bnd, post_ret, a_k, a_v, getV_cons0, getV_cons, a_bin, a_cmp, a_ch, a_neg, a_not, a_and, a_or, a_ite, a_sub, a_slc, a_no, a_so, a_nil', a_cons', a_tup, a_lst, a_nl, a_ndk, a_call, a_call0, a_bi, a_isi, a_app, a_sd, a_tst, a_sk, a_brk, a_cnt, a_bad, a_ex, a_ret, a_retN, a_if, a_asg, a_par2, a_par3, a_set, a_for, a_seq, a_enum, a_rng1, a_rng2, a_lc, a_lc2, a_aug, a_disp, a_op2, a_tsub, a_tin, a_tnin, a_itemsL, v_add, v_sub, v_band, v_neg, v_trB, v_trI, v_trN, v_lt, v_le, v_gt, v_ge, v_eqI, v_neI, v_eqS, v_neS, v_isn, v_isnn, v_int, v_abs, v_lenT, v_lenL, v_tupL, v_lstL, List.set_cons_zero, List.set_cons_succ, List.map_cons, List.map_nil, List.cons_append, List.nil_append, List.replicate_succ, List.replicate_zero, dataOf, Option.map_some, Option.some.injEq, exists_eq_left', List.length_cons, List.length_nil, asOI, a_asgX, a_mc, a_attr, ga0, ga1, ga2, ga3, ga4, gm1, gm2, grc, gln, gtp, q_size, q_line, q_oct, q_beh, q_last, Pl.isSize, Pl.isLine, Pl.isOct, Pl.isBeh, Pl.isLast, Bool.false_eq_true, a_tup2, a_tup3, a_consT, a_nilT, a_atT, gs1, gs2, gs3]
      rw [show (W.d (.str "end") : W) = .d (.str Pl.fin.str) from rfl, gs0]
      try simp (implicitDefEqProofs := false) only [↓reduceIte, post_bnd, post_ret, a_k, a_v, getV_cons0, getV_cons, a_bin, a_cmp, a_ch, a_neg, a_not, a_and, a_or, a_ite, a_sub, a_slc, a_no, a_so, a_nil', a_cons', a_tup, a_lst, a_nl, a_ndk, a_call, a_call0, a_bi, a_isi, a_app, a_sd, a_tst, a_sk, a_brk, a_cnt, a_bad, a_ex, a_ret, a_retN, a_if, a_asg, a_par2, a_par3, a_set, a_for, a_seq, a_enum, a_rng1, a_rng2, a_lc, a_lc2, a_aug, a_disp, a_op2, a_tsub, a_tin, a_tnin, a_itemsL, v_add, v_sub, v_band, v_neg, v_trB, v_trI, v_trN, v_lt, v_le, v_gt, v_ge, v_eqI, v_neI, v_eqS, v_neS, v_isn, v_isnn, v_int, v_abs, v_lenT, v_lenL, v_tupL, v_lstL, List.set_cons_zero, List.set_cons_succ, List.map_cons, List.map_nil, List.cons_append, List.nil_append, List.replicate_succ, List.replicate_zero, dataOf, Option.map_some, Option.some.injEq, exists_eq_left', List.length_cons, List.length_nil, asOI, a_asgX, a_mc, a_attr, ga0, ga1, ga2, ga3, ga4, gm1, gm2, grc, gln, gtp, q_size, q_line, q_oct, q_beh, q_last, Pl.isSize, Pl.isLine, Pl.isOct, Pl.isBeh, Pl.isLast, Bool.false_eq_true, a_tup2, a_tup3, a_consT, a_nilT, a_atT, gs1, gs2, gs3]
      rw [st_st]; exact k
  | behind =>
    simp (implicitDefEqProofs := false) only [↓reduceIte, post_bnd, post_ret, a_k, a_v, getV_cons0, getV_cons, a_bin, a_cmp, a_ch, a_neg, a_not, a_and, a_or, a_ite, a_sub, a_slc, a_no, a_so, a_nil', a_cons', a_tup, a_lst, a_nl, a_ndk, a_call, a_call0, a_bi, a_isi, a_app, a_sd, a_tst, a_sk, a_brk, a_cnt, a_bad, a_ex, a_ret, a_retN, a_if, a_asg, a_par2, a_par3, a_set, a_for, a_seq, a_enum, a_rng1, a_rng2, a_lc, a_lc2, a_aug, a_disp, a_op2, a_tsub, a_tin, a_tnin, a_itemsL, v_add, v_sub, v_band, v_neg, v_trB, v_trI, v_trN, v_lt, v_le, v_gt, v_ge, v_eqI, v_neI, v_eqS, v_neS, v_isn, v_isnn, v_int, v_abs, v_lenT, v_lenL, v_tupL, v_lstL, List.set_cons_zero, List.set_cons_succ, List.map_cons, List.map_nil, List.cons_append, List.nil_append, List.replicate_succ, List.replicate_zero, dataOf, Option.map_some, Option.some.injEq, exists_eq_left', List.length_cons, List.length_nil, asOI, a_asgX, a_mc, a_attr, ga0, ga1, ga2, ga3, ga4, gm1, gm2, grc, gln, gtp, q_size, q_line, q_oct, q_beh, q_last, Pl.isSize, Pl.isLine, Pl.isOct, Pl.isBeh, Pl.isLast, Bool.false_eq_true, a_tup2, a_tup3, a_consT, a_nilT, a_atT, gs1, gs2, gs3]
    refine ⟨by show 3 ≤ 16777216; decide, ?_⟩
    rw [p_size, gs0]
    simp (implicitDefEqProofs := false) only [↓reduceIte, post_bnd, post_ret, a_k, a_v, getV_cons0, getV_cons, a_bin, a_cmp, a_ch, a_neg, a_not, a_and, a_or, a_ite, a_sub, a_slc, a_no, a_so, a_nil', a_cons', a_tup, a_lst, a_nl, a_ndk, a_call, a_call0, a_bi, a_isi, a_app, a_sd, a_tst, a_sk, a_brk, a_cnt, a_bad, a_ex, a_ret, a_retN, a_if, a_asg, a_par2, a_par3, a_set, a_for, a_seq, a_enum, a_rng1, a_rng2, a_lc, a_lc2, a_aug, a_disp, a_op2, a_tsub, a_tin, a_tnin, a_itemsL, v_add, v_sub, v_band, v_neg, v_trB, v_trI, v_trN, v_lt, v_le, v_gt, v_ge, v_eqI, v_neI, v_eqS, v_neS, v_isn, v_isnn, v_int, v_abs, v_lenT, v_lenL, v_tupL, v_lstL, List.set_cons_zero, List.set_cons_succ, List.map_cons, List.map_nil, List.cons_append, List.nil_append, List.replicate_succ, List.replicate_zero, dataOf, Option.map_some, Option.some.injEq, exists_eq_left', List.length_cons, List.length_nil, asOI, a_asgX, a_mc, a_attr, ga0, ga1, ga2, ga3, ga4, gm1, gm2, grc, gln, gtp, q_size, q_line, q_oct, q_beh, q_last, Pl.isSize, Pl.isLine, Pl.isOct, Pl.isBeh, Pl.isLast, Bool.false_eq_true, a_tup2, a_tup3, a_consT, a_nilT, a_atT, gs1, gs2, gs3]
    rw [st_st]; exact k
  | last =>
    simp (implicitDefEqProofs := false) only [↓reduceIte, post_bnd, post_ret, a_k, a_v, getV_cons0, getV_cons, a_bin, a_cmp, a_ch, a_neg, a_not, a_and, a_or, a_ite, a_sub, a_slc, a_no, a_so, a_nil', a_cons', a_tup, a_lst, a_nl, a_ndk, a_call, a_call0, a_bi, a_isi, a_app, a_sd, a_tst, a_sk, a_brk, a_cnt, a_bad, a_ex, a_ret, a_retN, a_if, a_asg, a_par2, a_par3, a_set, a_for, a_seq, a_enum, a_rng1, a_rng2, a_lc, a_lc2, a_aug, a_disp, a_op2, a_tsub, a_tin, a_tnin, a_itemsL, v_add, v_sub, v_band, v_neg, v_trB, v_trI, v_trN, v_lt, v_le, v_gt, v_ge, v_eqI, v_neI, v_eqS, v_neS, v_isn, v_isnn, v_int, v_abs, v_lenT, v_lenL, v_tupL, v_lstL, List.set_cons_zero, List.set_cons_succ, List.map_cons, List.map_nil, List.cons_append, List.nil_append, List.replicate_succ, List.replicate_zero, dataOf, Option.map_some, Option.some.injEq, exists_eq_left', List.length_cons, List.length_nil, asOI, a_asgX, a_mc, a_attr, ga0, ga1, ga2, ga3, ga4, gm1, gm2, grc, gln, gtp, q_size, q_line, q_oct, q_beh, q_last, Pl.isSize, Pl.isLine, Pl.isOct, Pl.isBeh, Pl.isLast, Bool.false_eq_true, a_tup2, a_tup3, a_consT, a_nilT, a_atT, gs1, gs2, gs3]
    rw [st_st]; exact k
  | empty =>
    simp (implicitDefEqProofs := false) only [↓reduceIte, post_bnd, post_ret, a_k, a_v, getV_cons0, getV_cons, a_bin, a_cmp, a_ch, a_neg, a_not, a_and, a_or, a_ite, a_sub, a_slc, a_no, a_so, a_nil', a_cons', a_tup, a_lst, a_nl, a_ndk, a_call, a_call0, a_bi, a_isi, a_app, a_sd, a_tst, a_sk, a_brk, a_cnt, a_bad, a_ex, a_ret, a_retN, a_if, a_asg, a_par2, a_par3, a_set, a_for, a_seq, a_enum, a_rng1, a_rng2, a_lc, a_lc2, a_aug, a_disp, a_op2, a_tsub, a_tin, a_tnin, a_itemsL, v_add, v_sub, v_band, v_neg, v_trB, v_trI, v_trN, v_lt, v_le, v_gt, v_ge, v_eqI, v_neI, v_eqS, v_neS, v_isn, v_isnn, v_int, v_abs, v_lenT, v_lenL, v_tupL, v_lstL, List.set_cons_zero, List.set_cons_succ, List.map_cons, List.map_nil, List.cons_append, List.nil_append, List.replicate_succ, List.replicate_zero, dataOf, Option.map_some, Option.some.injEq, exists_eq_left', List.length_cons, List.length_nil, asOI, a_asgX, a_mc, a_attr, ga0, ga1, ga2, ga3, ga4, gm1, gm2, grc, gln, gtp, q_size, q_line, q_oct, q_beh, q_last, Pl.isSize, Pl.isLine, Pl.isOct, Pl.isBeh, Pl.isLast, Bool.false_eq_true, a_tup2, a_tup3, a_consT, a_nilT, a_atT, gs1, gs2, gs3]
    subst hN
    rw [v_tsub (d := .str Pl.last.str) rfl rfl]
    try simp (implicitDefEqProofs := false) only [↓reduceIte, post_bnd, post_ret, a_k, a_v, getV_cons0, getV_cons, a_bin, a_cmp, a_ch, a_neg, a_not, a_and, a_or, a_ite, a_sub, a_slc, a_no, a_so, a_nil', a_cons', a_tup, a_lst, a_nl, a_ndk, a_call, a_call0, a_bi, a_isi, a_app, a_sd, a_tst, a_sk, a_brk, a_cnt, a_bad, a_ex, a_ret, a_retN, a_if, a_asg, a_par2, a_par3, a_set, a_for, a_seq, a_enum, a_rng1, a_rng2, a_lc, a_lc2, a_aug, a_disp, a_op2, a_tsub, a_tin, a_tnin, a_itemsL, v_add, v_sub, v_band, v_neg, v_trB, v_trI, v_trN, v_lt, v_le, v_gt, v_ge, v_eqI, v_neI, v_eqS, v_neS, v_isn, v_isnn, v_int, v_abs, v_lenT, v_lenL, v_tupL, v_lstL, List.set_cons_zero, List.set_cons_succ, List.map_cons, List.map_nil, List.cons_append, List.nil_append, List.replicate_succ, List.replicate_zero, dataOf, Option.map_some, Option.some.injEq, exists_eq_left', List.length_cons, List.length_nil, asOI, a_asgX, a_mc, a_attr, ga0, ga1, ga2, ga3, ga4, gm1, gm2, grc, gln, gtp, q_size, q_line, q_oct, q_beh, q_last, Pl.isSize, Pl.isLine, Pl.isOct, Pl.isBeh, Pl.isLast, Bool.false_eq_true, a_tup2, a_tup3, a_consT, a_nilT, a_atT, gs1, gs2, gs3]
    rw [gs0]
    try simp (implicitDefEqProofs := false) only [↓reduceIte, post_bnd, post_ret, a_k, a_v, getV_cons0, getV_cons, a_bin, a_cmp, a_ch, a_neg, a_not, a_and, a_or, a_ite, a_sub, a_slc, a_no, a_so, a_nil', a_cons', a_tup, a_lst, a_nl, a_ndk, a_call, a_call0, a_bi, a_isi, a_app, a_sd, a_tst, a_sk, a_brk, a_cnt, a_bad, a_ex, a_ret, a_retN, a_if, a_asg, a_par2, a_par3, a_set, a_for, a_seq, a_enum, a_rng1, a_rng2, a_lc, a_lc2, a_aug, a_disp, a_op2, a_tsub, a_tin, a_tnin, a_itemsL, v_add, v_sub, v_band, v_neg, v_trB, v_trI, v_trN, v_lt, v_le, v_gt, v_ge, v_eqI, v_neI, v_eqS, v_neS, v_isn, v_isnn, v_int, v_abs, v_lenT, v_lenL, v_tupL, v_lstL, List.set_cons_zero, List.set_cons_succ, List.map_cons, List.map_nil, List.cons_append, List.nil_append, List.replicate_succ, List.replicate_zero, dataOf, Option.map_some, Option.some.injEq, exists_eq_left', List.length_cons, List.length_nil, asOI, a_asgX, a_mc, a_attr, ga0, ga1, ga2, ga3, ga4, gm1, gm2, grc, gln, gtp, q_size, q_line, q_oct, q_beh, q_last, Pl.isSize, Pl.isLine, Pl.isOct, Pl.isBeh, Pl.isLast, Bool.false_eq_true, a_tup2, a_tup3, a_consT, a_nilT, a_atT, gs1, gs2, gs3]
    rw [st_st]; exact k
  | fin =>
    simp (implicitDefEqProofs := false) only [↓reduceIte, post_bnd, post_ret, a_k, a_v, getV_cons0, getV_cons, a_bin, a_cmp, a_ch, a_neg, a_not, a_and, a_or, a_ite, a_sub, a_slc, a_no, a_so, a_nil', a_cons', a_tup, a_lst, a_nl, a_ndk, a_call, a_call0, a_bi, a_isi, a_app, a_sd, a_tst, a_sk, a_brk, a_cnt, a_bad, a_ex, a_ret, a_retN, a_if, a_asg, a_par2, a_par3, a_set, a_for, a_seq, a_enum, a_rng1, a_rng2, a_lc, a_lc2, a_aug, a_disp, a_op2, a_tsub, a_tin, a_tnin, a_itemsL, v_add, v_sub, v_band, v_neg, v_trB, v_trI, v_trN, v_lt, v_le, v_gt, v_ge, v_eqI, v_neI, v_eqS, v_neS, v_isn, v_isnn, v_int, v_abs, v_lenT, v_lenL, v_tupL, v_lstL, List.set_cons_zero, List.set_cons_succ, List.map_cons, List.map_nil, List.cons_append, List.nil_append, List.replicate_succ, List.replicate_zero, dataOf, Option.map_some, Option.some.injEq, exists_eq_left', List.length_cons, List.length_nil, asOI, a_asgX, a_mc, a_attr, ga0, ga1, ga2, ga3, ga4, gm1, gm2, grc, gln, gtp, q_size, q_line, q_oct, q_beh, q_last, Pl.isSize, Pl.isLine, Pl.isOct, Pl.isBeh, Pl.isLast, Bool.false_eq_true, a_tup2, a_tup3, a_consT, a_nilT, a_atT, gs1, gs2, gs3]
    subst hN
    rw [v_tsub (d := .str Pl.behind.str) rfl rfl]
    try simp (implicitDefEqProofs := false) only [↓reduceIte, post_bnd, post_ret, a_k, a_v, getV_cons0, getV_cons, a_bin, a_cmp, a_ch, a_neg, a_not, a_and, a_or, a_ite, a_sub, a_slc, a_no, a_so, a_nil', a_cons', a_tup, a_lst, a_nl, a_ndk, a_call, a_call0, a_bi, a_isi, a_app, a_sd, a_tst, a_sk, a_brk, a_cnt, a_bad, a_ex, a_ret, a_retN, a_if, a_asg, a_par2, a_par3, a_set, a_for, a_seq, a_enum, a_rng1, a_rng2, a_lc, a_lc2, a_aug, a_disp, a_op2, a_tsub, a_tin, a_tnin, a_itemsL, v_add, v_sub, v_band, v_neg, v_trB, v_trI, v_trN, v_lt, v_le, v_gt, v_ge, v_eqI, v_neI, v_eqS, v_neS, v_isn, v_isnn, v_int, v_abs, v_lenT, v_lenL, v_tupL, v_lstL, List.set_cons_zero, List.set_cons_succ, List.map_cons, List.map_nil, List.cons_append, List.nil_append, List.replicate_succ, List.replicate_zero, dataOf, Option.map_some, Option.some.injEq, exists_eq_left', List.length_cons, List.length_nil, asOI, a_asgX, a_mc, a_attr, ga0, ga1, ga2, ga3, ga4, gm1, gm2, grc, gln, gtp, q_size, q_line, q_oct, q_beh, q_last, Pl.isSize, Pl.isLine, Pl.isOct, Pl.isBeh, Pl.isLast, Bool.false_eq_true, a_tup2, a_tup3, a_consT, a_nilT, a_atT, gs1, gs2, gs3]
    rw [gs0]
    try simp (implicitDefEqProofs := false) only [↓reduceIte, post_bnd, post_ret, a_k, a_v, getV_cons0, getV_cons, a_bin, a_cmp, a_ch, a_neg, a_not, a_and, a_or, a_ite, a_sub, a_slc, a_no, a_so, a_nil', a_cons', a_tup, a_lst, a_nl, a_ndk, a_call, a_call0, a_bi, a_isi, a_app, a_sd, a_tst, a_sk, a_brk, a_cnt, a_bad, a_ex, a_ret, a_retN, a_if, a_asg, a_par2, a_par3, a_set, a_for, a_seq, a_enum, a_rng1, a_rng2, a_lc, a_lc2, a_aug, a_disp, a_op2, a_tsub, a_tin, a_tnin, a_itemsL, v_add, v_sub, v_band, v_neg, v_trB, v_trI, v_trN, v_lt, v_le, v_gt, v_ge, v_eqI, v_neI, v_eqS, v_neS, v_isn, v_isnn, v_int, v_abs, v_lenT, v_lenL, v_tupL, v_lstL, List.set_cons_zero, List.set_cons_succ, List.map_cons, List.map_nil, List.cons_append, List.nil_append, List.replicate_succ, List.replicate_zero, dataOf, Option.map_some, Option.some.injEq, exists_eq_left', List.length_cons, List.length_nil, asOI, a_asgX, a_mc, a_attr, ga0, ga1, ga2, ga3, ga4, gm1, gm2, grc, gln, gtp, q_size, q_line, q_oct, q_beh, q_last, Pl.isSize, Pl.isLine, Pl.isOct, Pl.isBeh, Pl.isLast, Bool.false_eq_true, a_tup2, a_tup3, a_consT, a_nilT, a_atT, gs1, gs2, gs3]
    rw [st_st]; exact k
end
end MP.Q0

namespace MP.Q0
open PySem L2 PySem.Spec PyProof.Rows
def ch0 : Ch := ⟨.size, 0, 0, 0, []⟩
section
variable {S : Sto} {q : W → Sto → Prop} {Q : Fl → Sto → Prop}
theorem leave_keep {n : Nat} {x : D} {S : Sto} {i : Nat} {o : O} (e : S[i]? = some o) (hi : i < n) (hb : o.below n = false) : leave n (.d x) S = S := by
  unfold leave
  by_cases h : S.length ≤ n
  · rw [if_pos h]
  · rw [if_neg h]
    have z : (S.take n).all (O.below n) = false := by
      cases c : (S.take n).all (O.below n) with
      | false => rfl
      | true =>
        have := List.all_eq_true.mp c o (List.mem_of_getElem? (i := i) (by rw [List.getElem?_take, if_pos hi]; exact e))
        rw [hb] at this
        cases this
    dsimp only
    rw [z, if_neg Bool.false_ne_true]
theorem leave_st {c : Ch} {x : D} (h : S.all (O.below S.length) = true) : leave S.length (.d x) (St S c) = S := by
  unfold leave
  rw [if_neg (by rw [st_len]; omega)]
  dsimp only
  have e : (St S c).take S.length = S := by unfold St; exact List.take_left' rfl
  rw [e, if_pos h]
theorem atIns (S : Sto) (o : O) : (S ++ [o])[S.length]? = some o := at_end S o []
def n1 : List (Str × W) := [("place", .d (.str "size"))]
def n2 : List (Str × W) := [("place", .d (.str "size")), ("digits", .d (.int 0))]
def n3 : List (Str × W) := [("place", .d (.str "size")), ("digits", .d (.int 0)), ("number", .d (.int 0))]
def n4 : List (Str × W) := [("place", .d (.str "size")), ("digits", .d (.int 0)), ("number", .d (.int 0)), ("left", .d (.int 0))]
theorem init_ok (k : q (.d .none) (St S ch0)) : post (m_Chunks___init__ [.r S.length] (S ++ [.ins 0 []])) q := by
  refine post_fn rfl ?_
  unfold b_Chunks___init__
  simp (implicitDefEqProofs := false) only [sq_ap, post_bnd, post_ret, a_k, a_v, getV_cons0, getV_cons, a_bin, a_cmp, a_ch, a_neg, a_not, a_and, a_or, a_ite, a_sub, a_slc, a_no, a_so, a_nil', a_cons', a_tup, a_lst, a_nl, a_ndk, a_call, a_call0, a_bi, a_isi, a_app, a_sd, a_tst, a_sk, a_brk, a_cnt, a_bad, a_ex, a_ret, a_retN, a_if, a_asg, a_par2, a_par3, a_set, a_for, a_seq, a_enum, a_rng1, a_rng2, a_lc, a_lc2, a_aug, a_disp, a_op2, a_tsub, a_tin, a_tnin, a_itemsL, v_add, v_sub, v_band, v_neg, v_trB, v_trI, v_trN, v_lt, v_le, v_gt, v_ge, v_eqI, v_neI, v_eqS, v_neS, v_isn, v_isnn, v_int, v_abs, v_lenT, v_lenL, v_tupL, v_lstL, List.set_cons_zero, List.set_cons_succ, List.map_cons, List.map_nil, List.cons_append, List.nil_append, List.replicate_succ, List.replicate_zero, dataOf, Option.map_some, Option.some.injEq, exists_eq_left', List.length_cons, List.length_nil, asOI, a_asgX, a_atT]
  rw [v_setA (atIns S _) (by decide), set_end, v_setA (atIns S _) (by decide), set_end, v_setA (atIns S _) (by decide), set_end, v_setA (atIns S _) (by decide), set_end]
  refine ⟨by decide, ?_⟩
  have e1 : ((S ++ [O.ins 0 (pf "left" (.d (.int 0)) (pf "number" (.d (.int 0)) (pf "digits" (.d (.int 0)) (pf "place" (.d (.str "size")) []))))]) ++ [O.lst []])[S.length]? = some (O.ins 0 (pf "left" (.d (.int 0)) (pf "number" (.d (.int 0)) (pf "digits" (.d (.int 0)) (pf "place" (.d (.str "size")) []))))) := by
    rw [List.append_assoc]
    exact at_end S _ _
  rw [v_setA e1 (by decide)]
  have e2 : pf "body" (.r (S.length + 1)) (pf "left" (.d (.int 0)) (pf "number" (.d (.int 0)) (pf "digits" (.d (.int 0)) (pf "place" (.d (.str "size")) [])))) = chS ch0 (.r (S.length + 1)) := by
    unfold chS
    have a0 : pf "place" (W.d (.str "size")) [] = n1 := rfl
    have a1 : pf "digits" (.d (.int 0)) n1 = n2 := (if_neg (by decide)).trans rfl
    have a2 : pf "number" (W.d (.int 0)) n2 = n3 := (if_neg (by decide)).trans (congrArg _ ((if_neg (by decide)).trans rfl))
    have a3 : pf "left" (W.d (.int 0)) n3 = n4 := (if_neg (by decide)).trans (congrArg _ ((if_neg (by decide)).trans (congrArg _ ((if_neg (by decide)).trans rfl))))
    rw [a0, a1, a2, a3]
    exact (if_neg (by decide)).trans (congrArg _ ((if_neg (by decide)).trans (congrArg _ ((if_neg (by decide)).trans (congrArg _ ((if_neg (by decide)).trans rfl))))))
  have e3 : ((S ++ [O.ins 0 (pf "left" (.d (.int 0)) (pf "number" (.d (.int 0)) (pf "digits" (.d (.int 0)) (pf "place" (.d (.str "size")) []))))]) ++ [O.lst []]).set S.length (.ins 0 (pf "body" (.r (S.length + 1)) (pf "left" (.d (.int 0)) (pf "number" (.d (.int 0)) (pf "digits" (.d (.int 0)) (pf "place" (.d (.str "size")) [])))))) = St S ch0 := by
    rw [List.append_assoc, e2]
    exact set0 S _ _ _
  have e4 : (S ++ [O.ins 0 (pf "left" (.d (.int 0)) (pf "number" (.d (.int 0)) (pf "digits" (.d (.int 0)) (pf "place" (.d (.str "size")) []))))]).length = S.length + 1 := by rw [List.length_append]; rfl
  rw [e4, e3]
  have e5 : (S ++ [O.ins 0 []]).length = S.length + 1 := by rw [List.length_append]; rfl
  rw [e5, leave_keep (st0 S ch0) (Nat.lt_succ_self _) ?_]
  · exact k
  · show ((true && (true && (true && (true && (decide (S.length + 1 < S.length + 1) && true))))) : Bool) = false
    simp
theorem tup_of {xs : List Int} {lo hi : Int} (h : lo ≤ xs.length ∧ (xs.length : Int) ≤ hi) (k : q (.d (.bool true)) S) : post (m_is_tuple_of [.d (T xs), .d (.int lo), .d (.int hi)] S) q := by
  refine post_fn rfl ?_
  unfold b_is_tuple_of
  have i1 : isI "tuple" (T xs) = some true := rfl
  simp (implicitDefEqProofs := false) only [post_bnd, post_ret, a_k, a_v, getV_cons0, getV_cons, a_bin, a_cmp, a_ch, a_neg, a_not, a_and, a_or, a_ite, a_sub, a_slc, a_no, a_so, a_nil', a_cons', a_tup, a_lst, a_nl, a_ndk, a_call, a_call0, a_bi, a_isi, a_app, a_sd, a_tst, a_sk, a_brk, a_cnt, a_bad, a_ex, a_ret, a_retN, a_if, a_asg, a_par2, a_par3, a_set, a_for, a_seq, a_enum, a_rng1, a_rng2, a_lc, a_lc2, a_aug, a_disp, a_op2, a_tsub, a_tin, a_tnin, a_itemsL, v_add, v_sub, v_band, v_neg, v_trB, v_trI, v_trN, v_lt, v_le, v_gt, v_ge, v_eqI, v_neI, v_eqS, v_neS, v_isn, v_isnn, v_int, v_abs, v_lenT, v_lenL, v_tupL, v_lstL, List.set_cons_zero, List.set_cons_succ, List.map_cons, List.map_nil, List.cons_append, List.nil_append, List.replicate_succ, List.replicate_zero, dataOf, Option.map_some, Option.some.injEq, exists_eq_left', List.length_cons, List.length_nil, asOI, v_isi i1, if_true, List.length_map, decide_eq_true h.1, decide_eq_true h.2]
  rw [leave_same (Nat.le_refl _)]
  exact k
theorem are_ok {xs : List Int} {hi : Int} (ho : oct xs) (h : (xs.length : Int) ≤ hi) (hs : xs.length ≤ 1000000) (k : q (.d (.bool true)) S) : post (m_are_octets [.d (T xs), .d (.int hi)] S) q := by
  refine post_fn rfl ?_
  unfold b_are_octets
  simp (implicitDefEqProofs := false) only [post_bnd, post_ret, a_k, a_v, getV_cons0, getV_cons, a_bin, a_cmp, a_ch, a_neg, a_not, a_and, a_or, a_ite, a_sub, a_slc, a_no, a_so, a_nil', a_cons', a_tup, a_lst, a_nl, a_ndk, a_call, a_call0, a_bi, a_isi, a_app, a_sd, a_tst, a_sk, a_brk, a_cnt, a_bad, a_ex, a_ret, a_retN, a_if, a_asg, a_par2, a_par3, a_set, a_for, a_seq, a_enum, a_rng1, a_rng2, a_lc, a_lc2, a_aug, a_disp, a_op2, a_tsub, a_tin, a_tnin, a_itemsL, v_add, v_sub, v_band, v_neg, v_trB, v_trI, v_trN, v_lt, v_le, v_gt, v_ge, v_eqI, v_neI, v_eqS, v_neS, v_isn, v_isnn, v_int, v_abs, v_lenT, v_lenL, v_tupL, v_lstL, List.set_cons_zero, List.set_cons_succ, List.map_cons, List.map_nil, List.cons_append, List.nil_append, List.replicate_succ, List.replicate_zero, dataOf, Option.map_some, Option.some.injEq, exists_eq_left', List.length_cons, List.length_nil, asOI]
  refine tup_of ⟨by omega, h⟩ ?_
  simp (implicitDefEqProofs := false) only [post_bnd, post_ret, a_k, a_v, getV_cons0, getV_cons, a_bin, a_cmp, a_ch, a_neg, a_not, a_and, a_or, a_ite, a_sub, a_slc, a_no, a_so, a_nil', a_cons', a_tup, a_lst, a_nl, a_ndk, a_call, a_call0, a_bi, a_isi, a_app, a_sd, a_tst, a_sk, a_brk, a_cnt, a_bad, a_ex, a_ret, a_retN, a_if, a_asg, a_par2, a_par3, a_set, a_for, a_seq, a_enum, a_rng1, a_rng2, a_lc, a_lc2, a_aug, a_disp, a_op2, a_tsub, a_tin, a_tnin, a_itemsL, v_add, v_sub, v_band, v_neg, v_trB, v_trI, v_trN, v_lt, v_le, v_gt, v_ge, v_eqI, v_neI, v_eqS, v_neS, v_isn, v_isnn, v_int, v_abs, v_lenT, v_lenL, v_tupL, v_lstL, List.set_cons_zero, List.set_cons_succ, List.map_cons, List.map_nil, List.cons_append, List.nil_append, List.replicate_succ, List.replicate_zero, dataOf, Option.map_some, Option.some.injEq, exists_eq_left', List.length_cons, List.length_nil, asOI, if_true]
  refine ⟨_, rfl, ?_⟩
  refine lc_map (f := fun _ => .bool true) _ ?_ ?_
  · intro x hx q h
    obtain ⟨o, ho', rfl⟩ := List.mem_map.mp hx
    unfold lcT
    have eb : bindP (.nm 2) (.d (.int o)) (wipeW [some (.d (T xs)), some (.d (.int hi)), none] [2]) = some [some (.d (T xs)), some (.d (.int hi)), some (.d (.int o))] := rfl
    rw [eb]
    simp (implicitDefEqProofs := false) only [opt_some, bnd_ret, yesM, if_true]
    simp (maxSteps := 4000000) (implicitDefEqProofs := false) only [post_bnd, post_ret, a_k, a_v, getV_cons0, getV_cons, a_bin, a_cmp, a_ch, a_neg, a_not, a_and, a_or, a_ite, a_sub, a_slc, a_no, a_so, a_nil', a_cons', a_tup, a_lst, a_nl, a_ndk, a_call, a_call0, a_bi, a_isi, a_app, a_sd, a_tst, a_sk, a_brk, a_cnt, a_bad, a_ex, a_ret, a_retN, a_if, a_asg, a_par2, a_par3, a_set, a_for, a_seq, a_enum, a_rng1, a_rng2, a_lc, a_lc2, a_aug, a_disp, a_op2, a_tsub, a_tin, a_tnin, a_itemsL, v_add, v_sub, v_band, v_neg, v_trB, v_trI, v_trN, v_lt, v_le, v_gt, v_ge, v_eqI, v_neI, v_eqS, v_neS, v_isn, v_isnn, v_int, v_abs, v_lenT, v_lenL, v_tupL, v_lstL, List.set_cons_zero, List.set_cons_succ, List.map_cons, List.map_nil, List.cons_append, List.nil_append, List.replicate_succ, List.replicate_zero, dataOf, Option.map_some, Option.some.injEq, exists_eq_left', List.length_cons, List.length_nil, asOI]
    have := ho o ho'
    refine isw_ok ⟨this.1, by omega⟩ ?_
    simp (implicitDefEqProofs := false) only [asD, post_ret]
    exact h
  · refine ⟨by rw [List.length_map, List.length_map]; show _ ≤ 16777216; omega, ?_⟩
    have e : ((xs.map PyData.int).map fun _ => (PyData.bool true : D)) = xs.map fun x => (PyData.bool ((fun _ => true) x) : D) := by rw [List.map_map]; rfl
    rw [e, v_all]
    rw [leave_same (Nat.le_refl _)]
    rw [show xs.all (fun _ => true) = true from List.all_eq_true.mpr fun _ _ => rfl]
    exact k
theorem need_ok {xs : List Int} {lo hi : Int} (ho : oct xs) (h : lo ≤ xs.length ∧ (xs.length : Int) ≤ hi) (hs : xs.length ≤ 1000000) (k : q (.d .none) S) : post (m_need_octets [.d (T xs), .d (.int lo), .d (.int hi)] S) q := by
  refine post_fn rfl ?_
  unfold b_need_octets
  simp (implicitDefEqProofs := false) only [post_bnd, post_ret, a_k, a_v, getV_cons0, getV_cons, a_bin, a_cmp, a_ch, a_neg, a_not, a_and, a_or, a_ite, a_sub, a_slc, a_no, a_so, a_nil', a_cons', a_tup, a_lst, a_nl, a_ndk, a_call, a_call0, a_bi, a_isi, a_app, a_sd, a_tst, a_sk, a_brk, a_cnt, a_bad, a_ex, a_ret, a_retN, a_if, a_asg, a_par2, a_par3, a_set, a_for, a_seq, a_enum, a_rng1, a_rng2, a_lc, a_lc2, a_aug, a_disp, a_op2, a_tsub, a_tin, a_tnin, a_itemsL, v_add, v_sub, v_band, v_neg, v_trB, v_trI, v_trN, v_lt, v_le, v_gt, v_ge, v_eqI, v_neI, v_eqS, v_neS, v_isn, v_isnn, v_int, v_abs, v_lenT, v_lenL, v_tupL, v_lstL, List.set_cons_zero, List.set_cons_succ, List.map_cons, List.map_nil, List.cons_append, List.nil_append, List.replicate_succ, List.replicate_zero, dataOf, Option.map_some, Option.some.injEq, exists_eq_left', List.length_cons, List.length_nil, asOI]
  refine are_ok ho h.2 hs ?_
  have c : decide ((xs.length : Int) < lo) = false := decide_eq_false (by omega)
  simp (implicitDefEqProofs := false) only [post_bnd, post_ret, a_k, a_v, getV_cons0, getV_cons, a_bin, a_cmp, a_ch, a_neg, a_not, a_and, a_or, a_ite, a_sub, a_slc, a_no, a_so, a_nil', a_cons', a_tup, a_lst, a_nl, a_ndk, a_call, a_call0, a_bi, a_isi, a_app, a_sd, a_tst, a_sk, a_brk, a_cnt, a_bad, a_ex, a_ret, a_retN, a_if, a_asg, a_par2, a_par3, a_set, a_for, a_seq, a_enum, a_rng1, a_rng2, a_lc, a_lc2, a_aug, a_disp, a_op2, a_tsub, a_tin, a_tnin, a_itemsL, v_add, v_sub, v_band, v_neg, v_trB, v_trI, v_trN, v_lt, v_le, v_gt, v_ge, v_eqI, v_neI, v_eqS, v_neS, v_isn, v_isnn, v_int, v_abs, v_lenT, v_lenL, v_tupL, v_lstL, List.set_cons_zero, List.set_cons_succ, List.map_cons, List.map_nil, List.cons_append, List.nil_append, List.replicate_succ, List.replicate_zero, dataOf, Option.map_some, Option.some.injEq, exists_eq_left', List.length_cons, List.length_nil, asOI, List.length_map, c, Bool.not_true, Bool.false_eq_true, if_false]
  rw [leave_same (Nat.le_refl _)]
  exact k
def ciB : SM := sq (asgM (.nm 4) (mcallM 0 "fault" m_Chunks_fault (vM 1) (consM (vM 3) (nilM)))) (sq (ifM (cmpM .isnn (vM 4) (kM .none)) (retM (tupM (consM (kM (.str "wrong")) (consM (vM 4) (consM (vM 2) (nilM)))))) (skM)) (ifM (mcallM 0 "go_on" m_Chunks_go_on (vM 1) (consM (vM 3) (nilM))) (retM (tupM (consM (kM (.str "whole")) (consM (biM .tuple (consM (attrM 0 "body" (vM 1)) (nilM))) (consM (binM .add (vM 2) (kM (.int 1))) (nilM)))))) (skM)))
theorem bd_go {c : Ch} {o : Int} : (goC c o).bd.length ≤ c.bd.length + 1 := by
  unfold goC
  split
  · split <;> exact Nat.le_succ _
  · simp
  · simp
  · simp
  · simp
  · simp
  · simp
theorem loop_ok {a : Option W} : ∀ (xs : List Int) (n : Nat) (c : Ch) (x2 x3 x4 : Option W), c.bd.length + xs.length ≤ 4000 →
    (∀ c', match runC c xs n with
      | none => ∀ y2 y3 y4, Q (.nx [a, some (.r S.length), y2, y3, y4]) (St S c')
      | some z => Q (.rt (.d (Oc.D (some z)))) (St S c')) →
    post (forM (.tup [2, 3]) ciB (enumD n (xs.map .int)) [a, some (.r S.length), x2, x3, x4] (St S c)) Q
  | [], n, c, x2, x3, x4, hl, k => by
    show post (forM _ _ [] _ _) Q
    rw [for_nil]
    exact k c x2 x3 x4
  | o :: r, n, c, x2, x3, x4, hl, k => by
    rw [List.length_cons] at hl
    show post (forM _ _ (.tuple [.int (n : Nat), .int o] :: enumD (n + 1) (r.map .int)) _ _) Q
    rw [for_cons]
    refine ⟨[a, some (.r S.length), some (.d (.int (n : Nat))), some (.d (.int o)), x4], rfl, ?_⟩
    unfold ciB
    simp (implicitDefEqProofs := false) only [↓reduceIte, sq_ap, post_bnd, post_ret, a_k, a_v, getV_cons0, getV_cons, a_bin, a_cmp, a_ch, a_neg, a_not, a_and, a_or, a_ite, a_sub, a_slc, a_no, a_so, a_nil', a_cons', a_tup, a_lst, a_nl, a_ndk, a_call, a_call0, a_bi, a_isi, a_app, a_sd, a_tst, a_sk, a_brk, a_cnt, a_bad, a_ex, a_ret, a_retN, a_if, a_asg, a_par2, a_par3, a_set, a_for, a_seq, a_enum, a_rng1, a_rng2, a_lc, a_lc2, a_aug, a_disp, a_op2, a_tsub, a_tin, a_tnin, a_itemsL, v_add, v_sub, v_band, v_neg, v_trB, v_trI, v_trN, v_lt, v_le, v_gt, v_ge, v_eqI, v_neI, v_eqS, v_neS, v_isn, v_isnn, v_int, v_abs, v_lenT, v_lenL, v_tupL, v_lstL, List.set_cons_zero, List.set_cons_succ, List.map_cons, List.map_nil, List.cons_append, List.nil_append, List.replicate_succ, List.replicate_zero, dataOf, Option.map_some, Option.some.injEq, exists_eq_left', List.length_cons, List.length_nil, asOI, a_mc, gm3]
    refine fault_ok ?_
    unfold runC at k
    cases hf : flt c o with
    | some z =>
      rw [hf] at k
      simp (implicitDefEqProofs := false) only [↓reduceIte, sq_ap, post_bnd, post_ret, a_k, a_v, getV_cons0, getV_cons, a_bin, a_cmp, a_ch, a_neg, a_not, a_and, a_or, a_ite, a_sub, a_slc, a_no, a_so, a_nil', a_cons', a_tup, a_lst, a_nl, a_ndk, a_call, a_call0, a_bi, a_isi, a_app, a_sd, a_tst, a_sk, a_brk, a_cnt, a_bad, a_ex, a_ret, a_retN, a_if, a_asg, a_par2, a_par3, a_set, a_for, a_seq, a_enum, a_rng1, a_rng2, a_lc, a_lc2, a_aug, a_disp, a_op2, a_tsub, a_tin, a_tnin, a_itemsL, v_add, v_sub, v_band, v_neg, v_trB, v_trI, v_trN, v_lt, v_le, v_gt, v_ge, v_eqI, v_neI, v_eqS, v_neS, v_isn, v_isnn, v_int, v_abs, v_lenT, v_lenL, v_tupL, v_lstL, List.set_cons_zero, List.set_cons_succ, List.map_cons, List.map_nil, List.cons_append, List.nil_append, List.replicate_succ, List.replicate_zero, dataOf, Option.map_some, Option.some.injEq, exists_eq_left', List.length_cons, List.length_nil, asOI, optD, isNone, Bool.not_false]
      refine ⟨by show 3 ≤ 16777216; decide, ?_⟩
      exact k c
    | none =>
      rw [hf] at k
      simp (implicitDefEqProofs := false) only [↓reduceIte, sq_ap, post_bnd, post_ret, a_k, a_v, getV_cons0, getV_cons, a_bin, a_cmp, a_ch, a_neg, a_not, a_and, a_or, a_ite, a_sub, a_slc, a_no, a_so, a_nil', a_cons', a_tup, a_lst, a_nl, a_ndk, a_call, a_call0, a_bi, a_isi, a_app, a_sd, a_tst, a_sk, a_brk, a_cnt, a_bad, a_ex, a_ret, a_retN, a_if, a_asg, a_par2, a_par3, a_set, a_for, a_seq, a_enum, a_rng1, a_rng2, a_lc, a_lc2, a_aug, a_disp, a_op2, a_tsub, a_tin, a_tnin, a_itemsL, v_add, v_sub, v_band, v_neg, v_trB, v_trI, v_trN, v_lt, v_le, v_gt, v_ge, v_eqI, v_neI, v_eqS, v_neS, v_isn, v_isnn, v_int, v_abs, v_lenT, v_lenL, v_tupL, v_lstL, List.set_cons_zero, List.set_cons_succ, List.map_cons, List.map_nil, List.cons_append, List.nil_append, List.replicate_succ, List.replicate_zero, dataOf, Option.map_some, Option.some.injEq, exists_eq_left', List.length_cons, List.length_nil, asOI, optD, isNone, Bool.not_true, Bool.false_eq_true, a_mc, gm4]
      refine go_ok hf (by omega) ?_
      simp (implicitDefEqProofs := false) only [v_trB]
      cases hq : c.pl.isLast with
      | true =>
        rw [hq] at k
        have eg : goC c o = c := by
          cases hp : c.pl <;> rw [hp] at hq <;> first | (cases hq; done) | (unfold goC; rw [hp])
        rw [eg]
        simp (implicitDefEqProofs := false) only [↓reduceIte, post_bnd, post_ret, a_k, a_v, getV_cons0, getV_cons, a_bin, a_cmp, a_ch, a_neg, a_not, a_and, a_or, a_ite, a_sub, a_slc, a_no, a_so, a_nil', a_cons', a_tup, a_lst, a_nl, a_ndk, a_call, a_call0, a_bi, a_isi, a_app, a_sd, a_tst, a_sk, a_brk, a_cnt, a_bad, a_ex, a_ret, a_retN, a_if, a_asg, a_par2, a_par3, a_set, a_for, a_seq, a_enum, a_rng1, a_rng2, a_lc, a_lc2, a_aug, a_disp, a_op2, a_tsub, a_tin, a_tnin, a_itemsL, v_add, v_sub, v_band, v_neg, v_trB, v_trI, v_trN, v_lt, v_le, v_gt, v_ge, v_eqI, v_neI, v_eqS, v_neS, v_isn, v_isnn, v_int, v_abs, v_lenT, v_lenL, v_tupL, v_lstL, List.set_cons_zero, List.set_cons_succ, List.map_cons, List.map_nil, List.cons_append, List.nil_append, List.replicate_succ, List.replicate_zero, dataOf, Option.map_some, Option.some.injEq, exists_eq_left', List.length_cons, List.length_nil, asOI, a_attr, ga4, gtp]
        refine ⟨by show 3 ≤ 16777216; decide, ?_⟩
        exact k c
      | false =>
        rw [hq] at k
        simp (implicitDefEqProofs := false) only [↓reduceIte, post_bnd, post_ret, a_k, a_v, getV_cons0, getV_cons, a_bin, a_cmp, a_ch, a_neg, a_not, a_and, a_or, a_ite, a_sub, a_slc, a_no, a_so, a_nil', a_cons', a_tup, a_lst, a_nl, a_ndk, a_call, a_call0, a_bi, a_isi, a_app, a_sd, a_tst, a_sk, a_brk, a_cnt, a_bad, a_ex, a_ret, a_retN, a_if, a_asg, a_par2, a_par3, a_set, a_for, a_seq, a_enum, a_rng1, a_rng2, a_lc, a_lc2, a_aug, a_disp, a_op2, a_tsub, a_tin, a_tnin, a_itemsL, v_add, v_sub, v_band, v_neg, v_trB, v_trI, v_trN, v_lt, v_le, v_gt, v_ge, v_eqI, v_neI, v_eqS, v_neS, v_isn, v_isnn, v_int, v_abs, v_lenT, v_lenL, v_tupL, v_lstL, List.set_cons_zero, List.set_cons_succ, List.map_cons, List.map_nil, List.cons_append, List.nil_append, List.replicate_succ, List.replicate_zero, dataOf, Option.map_some, Option.some.injEq, exists_eq_left', List.length_cons, List.length_nil, asOI, Bool.false_eq_true]
        exact loop_ok r (n + 1) (goC c o) _ _ _ (by have := bd_go (c := c) (o := o); omega) k
theorem itemsE (xs : List Int) : itemsOf .enum [.d (T xs)] = some (enumD 0 (xs.map .int)) := rfl
theorem in_ok {xs : List Int} (ho : oct xs) (hl : xs.length ≤ 2000) (hS : S.all (O.below S.length) = true) (k : q (.d (Oc.D (runC ch0 xs 0))) S) : post (m_chunks_in [.d (T xs)] S) q := by
  refine post_fn rfl ?_
  unfold b_chunks_in
  rw [sq_ap]
  simp (implicitDefEqProofs := false) only [post_bnd, post_ret, a_k, a_v, getV_cons0, getV_cons, a_bin, a_cmp, a_ch, a_neg, a_not, a_and, a_or, a_ite, a_sub, a_slc, a_no, a_so, a_nil', a_cons', a_tup, a_lst, a_nl, a_ndk, a_call, a_call0, a_bi, a_isi, a_app, a_sd, a_tst, a_sk, a_brk, a_cnt, a_bad, a_ex, a_ret, a_retN, a_if, a_asg, a_par2, a_par3, a_set, a_for, a_seq, a_enum, a_rng1, a_rng2, a_lc, a_lc2, a_aug, a_disp, a_op2, a_tsub, a_tin, a_tnin, a_itemsL, v_add, v_sub, v_band, v_neg, v_trB, v_trI, v_trN, v_lt, v_le, v_gt, v_ge, v_eqI, v_neI, v_eqS, v_neS, v_isn, v_isnn, v_int, v_abs, v_lenT, v_lenL, v_tupL, v_lstL, List.set_cons_zero, List.set_cons_succ, List.map_cons, List.map_nil, List.cons_append, List.nil_append, List.replicate_succ, List.replicate_zero, dataOf, Option.map_some, Option.some.injEq, exists_eq_left', List.length_cons, List.length_nil, asOI]
  refine need_ok ho ⟨by omega, by omega⟩ (by omega) ?_
  rw [sq_ap]
  simp (implicitDefEqProofs := false) only [post_bnd, post_ret, a_k, a_v, getV_cons0, getV_cons, a_bin, a_cmp, a_ch, a_neg, a_not, a_and, a_or, a_ite, a_sub, a_slc, a_no, a_so, a_nil', a_cons', a_tup, a_lst, a_nl, a_ndk, a_call, a_call0, a_bi, a_isi, a_app, a_sd, a_tst, a_sk, a_brk, a_cnt, a_bad, a_ex, a_ret, a_retN, a_if, a_asg, a_par2, a_par3, a_set, a_for, a_seq, a_enum, a_rng1, a_rng2, a_lc, a_lc2, a_aug, a_disp, a_op2, a_tsub, a_tin, a_tnin, a_itemsL, v_add, v_sub, v_band, v_neg, v_trB, v_trI, v_trN, v_lt, v_le, v_gt, v_ge, v_eqI, v_neI, v_eqS, v_neS, v_isn, v_isnn, v_int, v_abs, v_lenT, v_lenL, v_tupL, v_lstL, List.set_cons_zero, List.set_cons_succ, List.map_cons, List.map_nil, List.cons_append, List.nil_append, List.replicate_succ, List.replicate_zero, dataOf, Option.map_some, Option.some.injEq, exists_eq_left', List.length_cons, List.length_nil, asOI, a_new]
  refine new_ok ?_
  refine init_ok ⟨rfl, ?_⟩
  rw [sq_ap]
  simp (implicitDefEqProofs := false) only [post_bnd, post_ret, a_k, a_v, getV_cons0, getV_cons, a_bin, a_cmp, a_ch, a_neg, a_not, a_and, a_or, a_ite, a_sub, a_slc, a_no, a_so, a_nil', a_cons', a_tup, a_lst, a_nl, a_ndk, a_call, a_call0, a_bi, a_isi, a_app, a_sd, a_tst, a_sk, a_brk, a_cnt, a_bad, a_ex, a_ret, a_retN, a_if, a_asg, a_par2, a_par3, a_set, a_for, a_seq, a_enum, a_rng1, a_rng2, a_lc, a_lc2, a_aug, a_disp, a_op2, a_tsub, a_tin, a_tnin, a_itemsL, v_add, v_sub, v_band, v_neg, v_trB, v_trI, v_trN, v_lt, v_le, v_gt, v_ge, v_eqI, v_neI, v_eqS, v_neS, v_isn, v_isnn, v_int, v_abs, v_lenT, v_lenL, v_tupL, v_lstL, List.set_cons_zero, List.set_cons_succ, List.map_cons, List.map_nil, List.cons_append, List.nil_append, List.replicate_succ, List.replicate_zero, dataOf, Option.map_some, Option.some.injEq, exists_eq_left', List.length_cons, List.length_nil, asOI, itemsE]
  refine loop_ok (a := some (.d (T xs))) xs 0 ch0 none none none (by show 0 + _ ≤ 4000; omega) fun c' => ?_
  cases e : runC ch0 xs 0 with
  | some z =>
    rw [e] at k
    dsimp only
    rw [leave_st hS]
    exact k
  | none =>
    rw [e] at k
    intro y2 y3 y4
    simp (implicitDefEqProofs := false) only [post_bnd, post_ret, a_k, a_v, getV_cons0, getV_cons, a_bin, a_cmp, a_ch, a_neg, a_not, a_and, a_or, a_ite, a_sub, a_slc, a_no, a_so, a_nil', a_cons', a_tup, a_lst, a_nl, a_ndk, a_call, a_call0, a_bi, a_isi, a_app, a_sd, a_tst, a_sk, a_brk, a_cnt, a_bad, a_ex, a_ret, a_retN, a_if, a_asg, a_par2, a_par3, a_set, a_for, a_seq, a_enum, a_rng1, a_rng2, a_lc, a_lc2, a_aug, a_disp, a_op2, a_tsub, a_tin, a_tnin, a_itemsL, v_add, v_sub, v_band, v_neg, v_trB, v_trI, v_trN, v_lt, v_le, v_gt, v_ge, v_eqI, v_neI, v_eqS, v_neS, v_isn, v_isnn, v_int, v_abs, v_lenT, v_lenL, v_tupL, v_lstL, List.set_cons_zero, List.set_cons_succ, List.map_cons, List.map_nil, List.cons_append, List.nil_append, List.replicate_succ, List.replicate_zero, dataOf, Option.map_some, Option.some.injEq, exists_eq_left', List.length_cons, List.length_nil, asOI]
    rw [leave_st hS]
    exact k
end
end MP.Q0

namespace MP.Q0
open PySem L2 PySem.Spec PyProof.Rows
def isD (o : Int) : Bool := (worth o).isSome
def wN (o : Int) : Nat := ((worth o).getD 0).toNat
def numN (m : Nat) (ds : List Int) : Nat := ds.foldl (fun m o => 16 * m + wN o) m
theorem worth_bd {o v : Int} (h : worth o = some v) : 0 ≤ v ∧ v ≤ 15 ∧ 48 ≤ o ∧ o ≤ 102 ∧ o ≠ 13 := by
  unfold worth at h
  split at h
  · cases h; omega
  · split at h
    · cases h; omega
    · split at h
      · cases h; omega
      · cases h
theorem isD_w {o : Int} (h : isD o = true) : worth o = some (wN o : Int) := by
  obtain ⟨v, e⟩ := Option.isSome_iff_exists.mp h
  have := worth_bd e
  unfold wN
  rw [e, Option.getD_some, Int.toNat_of_nonneg this.1]
theorem not13 {o : Int} (h : isD o = true) : o ≠ 13 := (worth_bd (isD_w h)).2.2.2.2
def tw (r : List Int) : Nat := (r.takeWhile isD).length
/-- which place is wrong, if one is -/
def chk (r : List Int) (n : Nat) : List (Nat × Int) → Option (Option Oc)
  | [] => none
  | (p, o) :: l => match r[p]? with
    | none => some none
    | some x => if x = o then chk r n l else some (some (.wrong 400 (n + p)))
def blk : Nat → List Int → List Int → Nat → Option Oc
  | 0, _, _, _ => none
  | f + 1, b, r, n =>
    if min 5 (tw r) = 5 then some (.wrong 400 (n + 4))
    else if min 5 (tw r) = r.length then none
    else if min 5 (tw r) = 0 ∨ r[min 5 (tw r)]? ≠ some 13 then some (.wrong 400 (n + min 5 (tw r)))
    else if 300 < b.length + numN 0 (r.take (min 5 (tw r))) then some (.wrong 413 (n + min 5 (tw r)))
    else match chk r n (if numN 0 (r.take (min 5 (tw r))) = 0 then [(min 5 (tw r) + 1, 10), (min 5 (tw r) + 2, 13), (min 5 (tw r) + 3, 10)] else [(min 5 (tw r) + 1, 10), (min 5 (tw r) + 2 + numN 0 (r.take (min 5 (tw r))), 13), (min 5 (tw r) + 3 + numN 0 (r.take (min 5 (tw r))), 10)]) with
      | some z => z
      | none => if numN 0 (r.take (min 5 (tw r))) = 0 then some (.whole b (n + min 5 (tw r) + 4))
        else blk f (b ++ (r.drop (min 5 (tw r) + 2)).take (numN 0 (r.take (min 5 (tw r))))) (r.drop (min 5 (tw r) + 4 + numN 0 (r.take (min 5 (tw r))))) (n + min 5 (tw r) + 4 + numN 0 (r.take (min 5 (tw r))))
theorem run_cons {c : Ch} {o : Int} {r : List Int} {n : Nat} : runC c (o :: r) n = match flt c o with
    | some k => some (.wrong k n)
    | none => if c.pl.isLast = true then some (.whole c.bd (n + 1)) else runC (goC c o) r (n + 1) := rfl
theorem run_digits {lf : Int} {b : List Int} {rest : List Int} : ∀ (ds : List Int) (k m n : Nat), (∀ o ∈ ds, isD o = true) → k + ds.length ≤ 4 →
    runC ⟨.size, k, m, lf, b⟩ (ds ++ rest) n = runC ⟨.size, (k + ds.length : Nat), (numN m ds : Nat), lf, b⟩ rest (n + ds.length)
  | [], k, m, n, _, _ => rfl
  | o :: ds, k, m, n, h, hl => by
    rw [List.length_cons] at hl
    have hd := h o List.mem_cons_self
    have h13 := not13 hd
    have hs : stand ⟨.size, k, m, lf, b⟩ o = true := by
      unfold stand
      dsimp only
      rw [if_neg h13, show (worth o).isSome = true from hd, Bool.true_and]
      exact decide_eq_true (by omega)
    have hf : flt ⟨.size, k, m, lf, b⟩ o = none := by
      unfold flt
      rw [if_pos hs, if_neg fun z => h13 z.2.1]
    rw [List.cons_append, run_cons, hf]
    dsimp only
    rw [if_neg (by exact Bool.false_ne_true)]
    have eg : goC ⟨.size, k, m, lf, b⟩ o = ⟨.size, (k + 1 : Nat), (16 * m + wN o : Nat), lf, b⟩ := by
      unfold goC
      dsimp only
      rw [if_neg h13, isD_w hd]
      simp only [Option.getD_some]
      congr 1
      omega
    rw [eg, run_digits ds (k + 1) (16 * m + wN o) (n + 1) (fun x hx => h x (List.mem_cons_of_mem _ hx)) (by omega)]
    rw [List.length_cons, show k + 1 + ds.length = k + (ds.length + 1) by omega, show n + 1 + ds.length = n + (ds.length + 1) by omega]
    rfl
theorem run_octets {dg nm : Int} : ∀ (k : Nat) (b r : List Int) (n : Nat), runC ⟨.octets, dg, nm, (k + 1 : Nat), b⟩ r n = if r.length < k + 1 then none else runC ⟨.fin, dg, nm, 0, b ++ r.take (k + 1)⟩ (r.drop (k + 1)) (n + (k + 1))
  | k, b, [], n => by rw [if_pos (by simp)]; rfl
  | 0, b, o :: r, n => by
    rw [run_cons]
    have hf : flt ⟨.octets, dg, nm, (0 + 1 : Nat), b⟩ o = none := rfl
    rw [hf]
    show runC (goC ⟨.octets, dg, nm, (0 + 1 : Nat), b⟩ o) r (n + 1) = _
    rw [if_neg (by rw [List.length_cons]; omega)]
    rfl
  | k + 1, b, o :: r, n => by
    rw [run_cons]
    have hf : flt ⟨.octets, dg, nm, (k + 1 + 1 : Nat), b⟩ o = none := rfl
    rw [hf]
    have eg : goC ⟨.octets, dg, nm, (k + 1 + 1 : Nat), b⟩ o = ⟨.octets, dg, nm, (k + 1 : Nat), b ++ [o]⟩ := by
      unfold goC
      dsimp only
      have e : (((k + 1 + 1 : Nat) : Int)) - 1 = ((k + 1 : Nat) : Int) := by omega
      rw [e, if_pos (by omega)]
    dsimp only
    rw [if_neg (by exact Bool.false_ne_true), eg, run_octets k (b ++ [o]) r (n + 1)]
    rw [List.length_cons, List.take_succ_cons, List.drop_succ_cons, List.append_assoc, List.singleton_append]
    by_cases c : r.length < k + 1
    · rw [if_pos c, if_pos (by omega)]
    · rw [if_neg c, if_neg (by omega), show n + 1 + (k + 1) = n + (k + 1 + 1) by omega]
/-- one octet that must stand -/
theorem run_must {c c' : Ch} {w : Int} {r : List Int} {n : Nat} (h1 : ∀ o, stand c o = (o == w)) (h2 : c.pl.isSize = false) (h3 : c.pl.isLast = false) (h4 : ∀ o, goC c o = c') :
    runC c r n = match r with
      | [] => none
      | o :: r' => if o = w then runC c' r' (n + 1) else some (.wrong 400 n) := by
  cases r with
  | nil => rfl
  | cons o r' =>
    rw [run_cons]
    unfold flt
    rw [h1, h2, h3, h4]
    dsimp only
    by_cases c : o = w
    · subst c
      simp
    · have e : (o == w) = false := beq_eq_false_iff_ne.mpr c
      rw [e, if_neg c]
      simp
theorem run_last {dg nm lf : Int} {b r : List Int} {n : Nat} : runC ⟨.last, dg, nm, lf, b⟩ r n = match r with
      | [] => none
      | o :: _ => if o = 10 then some (.whole b (n + 1)) else some (.wrong 400 n) := by
  cases r with
  | nil => rfl
  | cons o r' =>
    rw [run_cons]
    unfold flt stand
    dsimp only
    by_cases c : o = 10
    · subst c; rfl
    · have e : (o == 10) = false := beq_eq_false_iff_ne.mpr c
      rw [e, if_neg c]
      simp
end MP.Q0

namespace MP.Q0
open PySem L2 PySem.Spec PyProof.Rows
theorem tw_split (r : List Int) : ∃ ds rest, r = ds ++ rest ∧ ds.length = tw r ∧ (∀ o ∈ ds, isD o = true) ∧ (∀ o r', rest = o :: r' → isD o = false) := by
  refine ⟨r.takeWhile isD, r.dropWhile isD, (List.takeWhile_append_dropWhile).symm, rfl, fun o h => ?_, fun o r' h => ?_⟩
  · induction r with
    | nil => cases h
    | cons x t ih =>
      rw [List.takeWhile_cons] at h
      cases c : isD x with
      | true =>
        rw [c, if_pos rfl] at h
        rcases List.mem_cons.mp h with e | m
        · rw [e]; exact c
        · exact ih m
      | false => rw [c, if_neg Bool.false_ne_true] at h; cases h
  · induction r with
    | nil => cases h
    | cons x t ih =>
      rw [List.dropWhile_cons] at h
      cases c : isD x with
      | true => rw [c, if_pos rfl] at h; exact ih h
      | false =>
        rw [c, if_neg Bool.false_ne_true] at h
        cases h
        exact c
theorem stand_size {dg nm lf : Int} {b : List Int} {o : Int} (h : isD o = false) : stand ⟨.size, dg, nm, lf, b⟩ o = (decide (o = 13) && decide (0 < dg)) := by
  unfold stand
  dsimp only
  by_cases c : o = 13
  · rw [if_pos c, decide_eq_true c, Bool.true_and]
  · rw [if_neg c, decide_eq_false c, show (worth o).isSome = false from h]
    rfl
/-- a block: what is behind its digits -/
def tail1 (f : Nat) (b : List Int) (m : Nat) (r : List Int) (n : Nat) : Option Oc :=
  match chk r n (if m = 0 then [(0, 10), (1, 13), (2, 10)] else [(0, 10), (1 + m, 13), (2 + m, 10)]) with
  | some z => z
  | none => if m = 0 then some (.whole b (n + 3)) else blk f (b ++ (r.drop 1).take m) (r.drop (3 + m)) (n + 3 + m)
theorem chk_shift {r : List Int} {n k : Nat} : ∀ l : List (Nat × Int), chk r n (l.map fun z => (k + z.1, z.2)) = chk (r.drop k) (n + k) l
  | [] => rfl
  | (p, o) :: l => by
    show (match r[k + p]? with
      | none => some none
      | some x => if x = o then chk r n (l.map fun z => (k + z.1, z.2)) else some (some (.wrong 400 (n + (k + p))))) = (match (r.drop k)[p]? with
      | none => some none
      | some x => if x = o then chk (r.drop k) (n + k) l else some (some (.wrong 400 (n + k + p))))
    rw [List.getElem?_drop, chk_shift l, Nat.add_assoc]
theorem run_tail (f : Nat) (ih : ∀ (b r : List Int) (n : Nat), b.length ≤ 300 → 302 ≤ b.length + f → ∀ lf, runC ⟨.size, 0, 0, lf, b⟩ r n = blk f b r n) (b : List Int) (m : Nat) (r : List Int) (n : Nat) (dg lf : Int) (hb : b.length + m ≤ 300) (hf : 302 ≤ b.length + f + 1) :
    runC ⟨.line, dg, m, lf, b⟩ r n = tail1 f b m r n := by
  have s1 := run_must (c := ⟨.line, dg, m, lf, b⟩) (c' := ⟨if 0 < (m : Int) then .octets else .empty, dg, m, m, b⟩) (w := 10) (r := r) (n := n) (fun _ => rfl) rfl rfl (fun _ => rfl)
  rw [s1]
  unfold tail1
  cases r with
  | nil => by_cases hm : m = 0 <;> simp [hm, chk]
  | cons o r =>
    dsimp only
    by_cases ho : o = 10
    · subst ho
      rw [if_pos rfl]
      by_cases hm : m = 0
      · subst hm
        simp only [Int.natCast_zero, Int.lt_irrefl, if_false, if_true]
        have s2 := run_must (c := ⟨.empty, dg, 0, 0, b⟩) (c' := ⟨.last, dg, 0, 0, b⟩) (w := 13) (r := r) (n := n + 1) (fun _ => rfl) rfl rfl (fun _ => rfl)
        show runC ⟨.empty, dg, 0, 0, b⟩ r (n + 1) = _
        rw [s2]
        cases r with
        | nil => simp [chk]
        | cons o2 r =>
          by_cases h2 : o2 = 13
          · subst h2
            simp only [if_true]
            rw [run_last]
            cases r with
            | nil => simp [chk]
            | cons o3 r =>
              by_cases h3 : o3 = 10
              · subst h3; simp [chk]
              · simp [chk, h3]
          · simp [chk, h2]
      · obtain ⟨k, rfl⟩ : ∃ k, m = k + 1 := ⟨m - 1, by omega⟩
        have e1 : (if (0 : Int) < ((k + 1 : Nat) : Int) then Pl.octets else .empty) = .octets := if_pos (by omega)
        rw [e1, run_octets, if_neg hm]
        by_cases hl : r.length < k + 1
        · rw [if_pos hl]
          have q1 : (10 :: r)[1 + (k + 1)]? = none := List.getElem?_eq_none (by rw [List.length_cons]; omega)
          simp only [chk, List.getElem?_cons_zero, if_true, q1]
        · rw [if_neg hl]
          have s2 := run_must (c := ⟨.fin, dg, (k + 1 : Nat), 0, b ++ r.take (k + 1)⟩) (c' := ⟨.behind, dg, (k + 1 : Nat), 0, b ++ r.take (k + 1)⟩) (w := 13) (r := r.drop (k + 1)) (n := n + 1 + (k + 1)) (fun _ => rfl) rfl rfl (fun _ => rfl)
          rw [s2]
          have q1 : (10 :: r)[1 + (k + 1)]? = (r.drop (k + 1))[0]? := by
            rw [Nat.add_comm 1, List.getElem?_cons_succ, List.getElem?_drop, Nat.add_zero]
          have q2 : (10 :: r)[2 + (k + 1)]? = (r.drop (k + 1))[1]? := by
            rw [show 2 + (k + 1) = (k + 1 + 1) + 1 by omega, List.getElem?_cons_succ, List.getElem?_drop]
          have q3 : (10 :: r).drop (3 + (k + 1)) = (r.drop (k + 1)).drop 2 := by
            rw [show 3 + (k + 1) = (k + 1 + 2) + 1 by omega, List.drop_succ_cons, List.drop_drop]
          have q4 : (10 :: r).drop 1 = r := rfl
          simp only [chk, List.getElem?_cons_zero, if_true, q1, q2, q3, q4]
          cases hr : r.drop (k + 1) with
          | nil => simp
          | cons o2 t =>
            by_cases h2 : o2 = 13
            · subst h2
              simp only [if_true, List.getElem?_cons_zero, List.getElem?_cons_succ]
              have s3 := run_must (c := ⟨.behind, dg, (k + 1 : Nat), 0, b ++ r.take (k + 1)⟩) (c' := ⟨.size, 0, 0, 0, b ++ r.take (k + 1)⟩) (w := 10) (r := t) (n := n + 1 + (k + 1) + 1) (fun _ => rfl) rfl rfl (fun _ => rfl)
              rw [s3]
              cases t with
              | nil => simp
              | cons o3 u =>
                by_cases h3 : o3 = 10
                · subst h3
                  have hl2 : (b ++ r.take (k + 1)).length = b.length + (k + 1) := by rw [List.length_append, List.length_take]; omega
                  simp only [if_true, List.getElem?_cons_zero, List.drop_succ_cons, List.drop_zero]
                  rw [ih (b ++ r.take (k + 1)) u _ (by omega) (by omega) 0, show n + 1 + (k + 1) + 1 + 1 = n + 3 + (k + 1) by omega, if_neg hm]
                · simp [h3, show n + 1 + (k + 1) + 1 = n + (2 + (k + 1)) by omega]
            · simp [h2, show n + 1 + (k + 1) = n + (1 + (k + 1)) by omega]
    · rw [if_neg ho]
      by_cases hm : m = 0 <;> simp [hm, chk, ho]
theorem run_blk : ∀ (f : Nat) (b r : List Int) (n : Nat), b.length ≤ 300 → 302 ≤ b.length + f → ∀ lf, runC ⟨.size, 0, 0, lf, b⟩ r n = blk f b r n
  | 0, b, r, n, h1, h2, lf => by omega
  | f + 1, b, r, n, h1, h2, lf => by
    obtain ⟨ds, rest, er, el, hd, hn⟩ := tw_split r
    unfold blk
    rw [← el]
    by_cases h5 : 5 ≤ ds.length
    · rw [if_pos (by omega)]
      obtain ⟨d4, d, d5, e4, l4⟩ : ∃ d4 d d5, ds = d4 ++ d :: d5 ∧ d4.length = 4 := by
        refine ⟨ds.take 4, ds[4], ds.drop 5, ?_, by rw [List.length_take]; omega⟩
        rw [← List.drop_eq_getElem_cons (by omega), List.take_append_drop]
      have hd4 : ∀ o ∈ d4, isD o = true := fun o m => hd o (by rw [e4]; exact List.mem_append_left _ m)
      have hdd : isD d = true := hd d (by rw [e4]; exact List.mem_append_right _ List.mem_cons_self)
      rw [er, e4, List.append_assoc, List.cons_append]
      have q := run_digits (lf := lf) (b := b) (rest := d :: (d5 ++ rest)) d4 0 0 n hd4 (by omega)
      rw [l4] at q
      rw [show (⟨.size, 0, 0, lf, b⟩ : Ch) = ⟨.size, (0 : Nat), (0 : Nat), lf, b⟩ from rfl, q, run_cons]
      have hs : stand ⟨.size, (0 + 4 : Nat), (numN 0 d4 : Nat), lf, b⟩ d = false := by
        unfold stand
        dsimp only
        rw [if_neg (not13 hdd)]
        simp
      unfold flt
      rw [hs]
      rfl
    · have e5 : min 5 ds.length = ds.length := by omega
      rw [e5, if_neg (by omega)]
      have q := run_digits (lf := lf) (b := b) (rest := rest) ds 0 0 n hd (by omega)
      rw [Nat.zero_add] at q
      have et : r.take ds.length = ds := by rw [er, List.take_left' rfl]
      rw [et]
      rw [show (⟨.size, 0, 0, lf, b⟩ : Ch) = ⟨.size, (0 : Nat), (0 : Nat), lf, b⟩ from rfl]
      conv => lhs; rw [er]
      rw [q]
      cases hr : rest with
      | nil =>
        rw [if_pos (by rw [er, hr, List.append_nil])]
        rfl
      | cons o r' =>
        have hno := hn o r' hr
        have hx : r[ds.length]? = some o := by rw [er, hr, List.getElem?_append_right (Nat.le_refl _), Nat.sub_self]; rfl
        have hdr : r.drop (ds.length + 1) = r' := by
          rw [er, hr, ← List.drop_drop, List.drop_left' rfl]; rfl
        rw [if_neg (by rw [er, hr, List.length_append, List.length_cons]; omega), run_cons, hx]
        unfold flt
        rw [stand_size hno]
        by_cases ho : o = 13
        · subst ho
          by_cases h0 : ds.length = 0
          · have hs : (decide ((13 : Int) = 13) && decide ((0 : Int) < (ds.length : Nat))) = false := by rw [h0]; rfl
            rw [hs, if_neg Bool.false_ne_true, if_pos (show ds.length = 0 ∨ some (13 : Int) ≠ some 13 from .inl h0)]
          · have hs : (decide ((13 : Int) = 13) && decide ((0 : Int) < (ds.length : Nat))) = true := by
              rw [decide_eq_true (by omega : (0 : Int) < (ds.length : Nat))]; rfl
            rw [hs, if_pos rfl, if_neg (show ¬ (ds.length = 0 ∨ some (13 : Int) ≠ some 13) by simp [h0])]
            by_cases hm : 300 < b.length + numN 0 ds
            · rw [if_pos hm, if_pos ⟨rfl, rfl, by show (300 : Int) < (b.length : Int) + (numN 0 ds : Nat); omega⟩]
            · rw [if_neg hm, if_neg (by rintro ⟨_, _, z⟩; apply hm; have z : (300 : Int) < (b.length : Int) + (numN 0 ds : Nat) := z; omega)]
              dsimp only
              rw [if_neg (by exact Bool.false_ne_true)]
              have eg : goC ⟨.size, (ds.length : Nat), (numN 0 ds : Nat), lf, b⟩ 13 = ⟨.line, (ds.length : Nat), (numN 0 ds : Nat), lf, b⟩ := rfl
              rw [eg, run_tail f (run_blk f) b (numN 0 ds) r' (n + ds.length + 1) _ lf (by omega) (by omega)]
              unfold tail1
              have e1 : (if numN 0 ds = 0 then [(ds.length + 1, (10 : Int)), (ds.length + 2, 13), (ds.length + 3, 10)] else [(ds.length + 1, 10), (ds.length + 2 + numN 0 ds, 13), (ds.length + 3 + numN 0 ds, 10)])
                  = (if numN 0 ds = 0 then [(0, (10 : Int)), (1, 13), (2, 10)] else [(0, 10), (1 + numN 0 ds, 13), (2 + numN 0 ds, 10)]).map fun z => (ds.length + 1 + z.1, z.2) := by
                split
                · rfl
                · show [(ds.length + 1, (10 : Int)), (ds.length + 2 + numN 0 ds, 13), (ds.length + 3 + numN 0 ds, 10)] = [(ds.length + 1 + 0, 10), (ds.length + 1 + (1 + numN 0 ds), 13), (ds.length + 1 + (2 + numN 0 ds), 10)]
                  rw [show ds.length + 1 + 0 = ds.length + 1 by omega, show ds.length + 1 + (1 + numN 0 ds) = ds.length + 2 + numN 0 ds by omega, show ds.length + 1 + (2 + numN 0 ds) = ds.length + 3 + numN 0 ds by omega]
              rw [e1, chk_shift, hdr, show n + (ds.length + 1) = n + ds.length + 1 by omega]
              have d2 : r.drop (ds.length + 2) = r'.drop 1 := by rw [← hdr, List.drop_drop]
              have d4 : r.drop (ds.length + 4 + numN 0 ds) = r'.drop (3 + numN 0 ds) := by rw [← hdr, List.drop_drop]; congr 1; omega
              rw [d2, d4, show n + ds.length + 1 + 3 = n + ds.length + 4 by omega]
              all_goals rfl
        · rw [decide_eq_false ho, Bool.false_and, if_neg Bool.false_ne_true]
          rw [if_pos (show ds.length = 0 ∨ some o ≠ some 13 from .inr (by simp [ho]))]
          all_goals rfl
end MP.Q0

namespace MP.Q0
open PySem L2 PySem.Spec PyProof.Rows
def lk0 : SM := asgM (.tup [1, 2, 3]) (tupM (consM (tupM (nilM)) (consM (kM (.int 0)) (consM (binM .add (binM .add (lcE (rng1I (consM (kM (.int 10)) (nilM))) (.nm 11) [11] (yesM) (binM .add (kM (.int 48)) (vM 11))) (lcE (rng1I (consM (kM (.int 6)) (nilM))) (.nm 11) [11] (yesM) (binM .add (kM (.int 65)) (vM 11)))) (lcE (rng1I (consM (kM (.int 6)) (nilM))) (.nm 11) [11] (yesM) (binM .add (kM (.int 97)) (vM 11)))) (nilM)))))
def lk1b0 : SM := asgM (.nm 5) (lcE (rng2I (consM (vM 2) (consM (biM .min (consM (binM .add (vM 2) (kM (.int 5))) (consM (biM .len (consM (vM 0) (nilM))) (nilM)))) (nilM)))) (.nm 10) [10] (tst (cmpM .nin (subM (vM 0) (vM 10)) (vM 3))) (vM 10))
def lk1b1 : SM := asgM (.nm 6) (iteM (cmpM .ne (vM 5) (lstM (nilM))) (subM (vM 5) (kM (.int 0))) (biM .min (consM (binM .add (vM 2) (kM (.int 5))) (consM (biM .len (consM (vM 0) (nilM))) (nilM)))))
def lk1b2 : SM := ifM (cmpM .eq (binM .sub (vM 6) (vM 2)) (kM (.int 5))) (retM (tupM (consM (kM (.str "wrong")) (consM (kM (.int 400)) (consM (binM .add (vM 2) (kM (.int 4))) (nilM)))))) (skM)
def lk1b3 : SM := ifM (cmpM .eq (vM 6) (biM .len (consM (vM 0) (nilM)))) (retM (kM .none)) (skM)
def lk1b4 : SM := ifM (orM (cmpM .eq (vM 6) (vM 2)) (cmpM .ne (subM (vM 0) (vM 6)) (kM (.int 13)))) (retM (tupM (consM (kM (.str "wrong")) (consM (kM (.int 400)) (consM (vM 6) (nilM)))))) (skM)
def lk1b5 : SM := asgM (.nm 7) (kM (.int 0))
def lk1b6b0 : SM := asgM (.nm 7) (binM .add (binM .mul (kM (.int 16)) (vM 7)) (subM (lstM (consM (kM (.int 0)) (consM (kM (.int 1)) (consM (kM (.int 2)) (consM (kM (.int 3)) (consM (kM (.int 4)) (consM (kM (.int 5)) (consM (kM (.int 6)) (consM (kM (.int 7)) (consM (kM (.int 8)) (consM (kM (.int 9)) (consM (kM (.int 10)) (consM (kM (.int 11)) (consM (kM (.int 12)) (consM (kM (.int 13)) (consM (kM (.int 14)) (consM (kM (.int 15)) (consM (kM (.int 10)) (consM (kM (.int 11)) (consM (kM (.int 12)) (consM (kM (.int 13)) (consM (kM (.int 14)) (consM (kM (.int 15)) (nilM)))))))))))))))))))))))) (meL lIdx (vM 3) (vM 8))))
def lk1b6b : SM := lk1b6b0
def lk1b6 : SM := foM (.nm 8) (seqI (slcM (vM 0) (soM (vM 2)) (soM (vM 6)))) lk1b6b
def lk1b7 : SM := ifM (cmpM .gt (binM .add (biM .len (consM (vM 1) (nilM))) (vM 7)) (kM (.int 300))) (retM (tupM (consM (kM (.str "wrong")) (consM (kM (.int 413)) (consM (vM 6) (nilM)))))) (skM)
def lk1b8 : SM := asgM (.nm 9) (iteM (cmpM .eq (vM 7) (kM (.int 0))) (lstM (consM (tupM (consM (binM .add (vM 6) (kM (.int 1))) (consM (kM (.int 10)) (nilM)))) (consM (tupM (consM (binM .add (vM 6) (kM (.int 2))) (consM (kM (.int 13)) (nilM)))) (consM (tupM (consM (binM .add (vM 6) (kM (.int 3))) (consM (kM (.int 10)) (nilM)))) (nilM))))) (lstM (consM (tupM (consM (binM .add (vM 6) (kM (.int 1))) (consM (kM (.int 10)) (nilM)))) (consM (tupM (consM (binM .add (binM .add (vM 6) (kM (.int 2))) (vM 7)) (consM (kM (.int 13)) (nilM)))) (consM (tupM (consM (binM .add (binM .add (vM 6) (kM (.int 3))) (vM 7)) (consM (kM (.int 10)) (nilM)))) (nilM))))))
def lk1b9b0 : SM := ifM (cmpM .ge (vM 10) (biM .len (consM (vM 0) (nilM)))) (retM (kM .none)) (skM)
def lk1b9b1 : SM := ifM (cmpM .ne (subM (vM 0) (vM 10)) (vM 8)) (retM (tupM (consM (kM (.str "wrong")) (consM (kM (.int 400)) (consM (vM 10) (nilM)))))) (skM)
def lk1b9b : SM := sq lk1b9b0 (lk1b9b1)
def lk1b9 : SM := foM (.tup [10, 8]) (seqI (vM 9)) lk1b9b
def lk1b10 : SM := ifM (cmpM .eq (vM 7) (kM (.int 0))) (retM (tupM (consM (kM (.str "whole")) (consM (vM 1) (consM (binM .add (vM 6) (kM (.int 4))) (nilM)))))) (skM)
def lk1b11 : SM := par2M 1 2 (consM (binM .add (vM 1) (slcM (vM 0) (soM (binM .add (vM 6) (kM (.int 2)))) (soM (binM .add (binM .add (vM 6) (kM (.int 2))) (vM 7))))) (consM (binM .add (binM .add (vM 6) (kM (.int 4))) (vM 7)) (nilM)))
def lk1b : SM := sq lk1b0 (sq lk1b1 (sq lk1b2 (sq lk1b3 (sq lk1b4 (sq lk1b5 (sq lk1b6 (sq lk1b7 (sq lk1b8 (sq lk1b9 (sq lk1b10 (lk1b11)))))))))))
def lk1 : SM := foM (.nm 4) (rng1I (consM (kM (.int 302)) (nilM))) lk1b
def lk2 : SM := retM (kM .none)
def lk : SM := sq lk0 (sq lk1 (lk2))
theorem lk_eq : b__law_chunks = lk := rfl
def dgs : List Int := [48, 49, 50, 51, 52, 53, 54, 55, 56, 57, 65, 66, 67, 68, 69, 70, 97, 98, 99, 100, 101, 102]
abbrev dgD : D := .list (dgs.map .int)
def vls : List D := [.int 0, .int 1, .int 2, .int 3, .int 4, .int 5, .int 6, .int 7, .int 8, .int 9, .int 10, .int 11, .int 12, .int 13, .int 14, .int 15, .int 10, .int 11, .int 12, .int 13, .int 14, .int 15]
section
variable {S : Sto} {q : W → Sto → Prop} {Q : Fl → Sto → Prop} {qb : Bool → Sto → Prop}
theorem v_min2 (i j : Int) : post (b1W .min [.d (.int i), .d (.int j)] S) q = q (.d (.int (if j < i then j else i))) S := v_b1 (xs := [.int i, .int j]) (by decide) (by decide) rfl
theorem isD_cases {o : Int} (h : isD o = true) : (48 ≤ o ∧ o ≤ 57) ∨ (65 ≤ o ∧ o ≤ 70) ∨ (97 ≤ o ∧ o ≤ 102) := by
  unfold isD worth at h
  by_cases h1 : 48 ≤ o ∧ o ≤ 57
  · exact .inl h1
  · rw [if_neg h1] at h
    by_cases h2 : 65 ≤ o ∧ o ≤ 70
    · exact .inr (.inl h2)
    · rw [if_neg h2] at h
      by_cases h3 : 97 ≤ o ∧ o ≤ 102
      · exact .inr (.inr h3)
      · rw [if_neg h3] at h
        cases h
theorem isD_all {o : Int} (h : isD o = true) : o = 48 ∨ o = 49 ∨ o = 50 ∨ o = 51 ∨ o = 52 ∨ o = 53 ∨ o = 54 ∨ o = 55 ∨ o = 56 ∨ o = 57 ∨ o = 65 ∨ o = 66 ∨ o = 67 ∨ o = 68 ∨ o = 69 ∨ o = 70 ∨ o = 97 ∨ o = 98 ∨ o = 99 ∨ o = 100 ∨ o = 101 ∨ o = 102 := by
  have := isD_cases h
  omega
theorem dgs_is : ∀ x ∈ dgs, isD x = true := by decide
theorem isD_mem (o : Int) : isD o = decide (o ∈ dgs) := by
  cases c : isD o with
  | true =>
    refine (decide_eq_true ?_).symm
    rcases isD_all c with h | h | h | h | h | h | h | h | h | h | h | h | h | h | h | h | h | h | h | h | h | h <;> subst h <;> decide
  | false =>
    refine (decide_eq_false fun z => ?_).symm
    rw [dgs_is o z] at c
    cases c
theorem any_int (o : Int) : ∀ xs : List Int, ((xs.map PyData.int).any fun z => PyData.eqv z (.int o)) = decide (o ∈ xs)
  | [] => rfl
  | x :: r => by
    rw [List.map_cons, List.any_cons, any_int o r]
    show ((x == o) || decide (o ∈ r)) = _
    rw [Bool.eq_iff_iff]
    simp only [Bool.or_eq_true, beq_iff_eq, decide_eq_true_eq, List.mem_cons]
    exact or_congr ⟨Eq.symm, Eq.symm⟩ Iff.rfl
theorem in_dg (o : Int) : inD (.int o) dgD = some (isD o) := by
  show (if SeqAt.shaped (.int o : D) = true ∧ SeqAt.shaped dgD = true then some ((dgs.map PyData.int).any fun z => PyData.eqv z (.int o)) else none) = _
  rw [if_pos ⟨rfl, shaped_L dgs⟩, any_int, isD_mem]
theorem idx_dg {o : Int} (h : isD o = true) : ∃ i : Nat, (dgs.map PyData.int).findIdx (fun z => PyData.eqv z (.int o)) = i ∧ i < (dgs.map PyData.int).length ∧ L2.atI vls (i : Int) = some (.int (wN o : Nat)) := by
  have h := isD_all h
  rcases h with h | h | h | h | h | h | h | h | h | h | h | h | h | h | h | h | h | h | h | h | h | h <;> subst h <;> exact ⟨_, rfl, by decide, rfl⟩
theorem tw_le (r : List Int) : tw r ≤ r.length := by
  obtain ⟨ds, rest, er, el, _, _⟩ := tw_split r
  rw [← el]
  have := congrArg List.length er
  rw [List.length_append] at this
  omega
theorem tw_dig {r : List Int} {i : Nat} (h : i < tw r) : isD (r.getD i 0) = true := by
  obtain ⟨ds, rest, er, el, hd, _⟩ := tw_split r
  rw [er, List.getD_eq_getElem?_getD, List.getElem?_append_left (by omega), List.getElem?_eq_getElem (by omega), Option.getD_some]
  exact hd _ (List.getElem_mem _)
theorem tw_non {r : List Int} (h : tw r < r.length) : isD (r.getD (tw r) 0) = false := by
  obtain ⟨ds, rest, er, el, _, hn⟩ := tw_split r
  cases hr : rest with
  | nil =>
    have := congrArg List.length er
    rw [hr, List.append_nil] at this
    omega
  | cons o r' =>
    rw [← el, er, hr, List.getD_eq_getElem?_getD, List.getElem?_append_right (Nat.le_refl _), Nat.sub_self]
    exact hn o r' hr
theorem hd_run (r : List Int) : ∀ w : Nat, w ≤ r.length → ((List.range w).filter (fun i => !isD (r.getD i 0)) = [] ∧ w ≤ tw r) ∨ ∃ t, (List.range w).filter (fun i => !isD (r.getD i 0)) = tw r :: t ∧ tw r < w
  | 0, _ => .inl ⟨rfl, Nat.zero_le _⟩
  | w + 1, h => by
    rw [List.range_succ, List.filter_append]
    rcases hd_run r w (by omega) with ⟨e, hw⟩ | ⟨t, e, hw⟩
    · rw [e, List.nil_append, List.filter_cons, List.filter_nil]
      cases c : isD (r.getD w 0) with
      | true =>
        refine .inl ⟨rfl, ?_⟩
        by_cases z : tw r = w
        · have := tw_non (r := r) (by omega)
          rw [z, c] at this; cases this
        · omega
      | false =>
        have z : tw r = w := by
          by_cases z : w < tw r
          · have := tw_dig z
            rw [c] at this; cases this
          · omega
        exact .inr ⟨[], by rw [z]; rfl, by omega⟩
    · exact .inr ⟨t ++ _, by rw [e]; rfl, by omega⟩
abbrev fr (rs b : List Int) (n : Nat) (t x5 x6 x7 x8 x9 x10 x11 : Option W) : Sl := [some (.d (T rs)), some (.d (T b)), some (.d (.int (n : Nat))), some (.d dgD), t, x5, x6, x7, x8, x9, x10, x11]
variable {rs b : List Int} {n : Nat} {t x5 x6 x7 x8 x9 x10 x11 : Option W}
theorem v_rowI {p : Nat} {o : Int} (h : rs[p]? = some o) : post (subW (.d (T rs)) (.d (.int (p : Nat))) S) q = q (.d (.int o)) S := v_ixT (L2.atI_nat (by rw [List.getElem?_map, h]; rfl))
theorem fold_ok {sl : List Int} (ds : List Int) : ∀ (m : Nat) (x8 : Option W), (∀ o ∈ ds, isD o = true) → ds.length ≤ 5 → (∀ x8, Q (.nx (fr rs b n t x5 x6 (some (.d (.int (numN m ds : Nat)))) x8 x9 x10 x11)) S) →
    post (forM (.nm 8) lk1b6b (ds.map .int) (fr rs b n t x5 x6 (some (.d (.int (m : Nat)))) x8 x9 x10 x11) S) Q := by
  induction ds with
  | nil => intro m x8 h hl k; rw [List.map_nil, for_nil]; exact k _
  | cons o ds ih =>
    intro m x8 h hl k
    rw [List.map_cons, for_cons]
    refine ⟨fr rs b n t x5 x6 (some (.d (.int (m : Nat)))) (some (.d (.int o))) x9 x10 x11, rfl, ?_⟩
    unfold lk1b6b lk1b6b0
    obtain ⟨i, e1, e2, e3⟩ := idx_dg (h o List.mem_cons_self)
    simp (implicitDefEqProofs := false) only [post_bnd, post_ret, a_k, a_v, getV_cons0, getV_cons, a_bin, a_cmp, a_ch, a_neg, a_not, a_and, a_or, a_ite, a_sub, a_slc, a_no, a_so, a_nil', a_cons', a_tup, a_lst, a_nl, a_ndk, a_call, a_call0, a_bi, a_isi, a_app, a_sd, a_tst, a_sk, a_brk, a_cnt, a_bad, a_ex, a_ret, a_retN, a_if, a_asg, a_par2, a_par3, a_set, a_for, a_seq, a_enum, a_rng1, a_rng2, a_lc, a_lc2, a_aug, a_disp, a_op2, a_tsub, a_tin, a_tnin, a_itemsL, v_add, v_sub, v_band, v_neg, v_trB, v_trI, v_trN, v_lt, v_le, v_gt, v_ge, v_eqI, v_neI, v_eqS, v_neS, v_isn, v_isnn, v_int, v_abs, v_lenT, v_lenL, v_tupL, v_lstL, List.set_cons_zero, List.set_cons_succ, List.map_cons, List.map_nil, List.cons_append, List.nil_append, List.replicate_succ, List.replicate_zero, dataOf, Option.map_some, Option.some.injEq, exists_eq_left', List.length_cons, List.length_nil, asOI, a_meL]
    rw [v_mul (.inl ⟨by decide, by decide⟩)]
    refine ⟨by show 22 ≤ 16777216; decide, ?_⟩
    rw [v_lidx (shaped_L dgs) rfl e1 e2]
    rw [show ([.int 0, .int 1, .int 2, .int 3, .int 4, .int 5, .int 6, .int 7, .int 8, .int 9, .int 10, .int 11, .int 12, .int 13, .int 14, .int 15, .int 10, .int 11, .int 12, .int 13, .int 14, .int 15] : List D) = vls from rfl, v_ixL e3]
    simp (implicitDefEqProofs := false) only [post_bnd, post_ret, a_k, a_v, getV_cons0, getV_cons, a_bin, a_cmp, a_ch, a_neg, a_not, a_and, a_or, a_ite, a_sub, a_slc, a_no, a_so, a_nil', a_cons', a_tup, a_lst, a_nl, a_ndk, a_call, a_call0, a_bi, a_isi, a_app, a_sd, a_tst, a_sk, a_brk, a_cnt, a_bad, a_ex, a_ret, a_retN, a_if, a_asg, a_par2, a_par3, a_set, a_for, a_seq, a_enum, a_rng1, a_rng2, a_lc, a_lc2, a_aug, a_disp, a_op2, a_tsub, a_tin, a_tnin, a_itemsL, v_add, v_sub, v_band, v_neg, v_trB, v_trI, v_trN, v_lt, v_le, v_gt, v_ge, v_eqI, v_neI, v_eqS, v_neS, v_isn, v_isnn, v_int, v_abs, v_lenT, v_lenL, v_tupL, v_lstL, List.set_cons_zero, List.set_cons_succ, List.map_cons, List.map_nil, List.cons_append, List.nil_append, List.replicate_succ, List.replicate_zero, dataOf, Option.map_some, Option.some.injEq, exists_eq_left', List.length_cons, List.length_nil, asOI]
    have e4 : (16 : Int) * (m : Nat) + (wN o : Nat) = ((16 * m + wN o : Nat) : Int) := by omega
    rw [e4]
    exact ih (16 * m + wN o) _ (fun x hx => h x (List.mem_cons_of_mem _ hx)) (by rw [List.length_cons] at hl; omega) k
theorem due_ok {r : List Int} (hr : r = rs.drop n) (hn : n ≤ rs.length) : ∀ (l : List (Nat × Int)) (x8 x10 : Option W), (match chk r n l with
      | some z => Q (.rt (.d (Oc.D z))) S
      | none => ∀ x8 x10, Q (.nx (fr rs b n t x5 x6 x7 x8 x9 x10 x11)) S) →
    post (forM (.tup [10, 8]) lk1b9b (l.map fun z => .tuple [.int ((n + z.1 : Nat) : Int), .int z.2]) (fr rs b n t x5 x6 x7 x8 x9 x10 x11) S) Q
  | [], x8, x10, k => by rw [List.map_nil, for_nil]; exact k _ _
  | (p, o) :: l, x8, x10, k => by
    rw [List.map_cons, for_cons]
    refine ⟨fr rs b n t x5 x6 x7 (some (.d (.int o))) x9 (some (.d (.int ((n + p : Nat) : Int)))) x11, rfl, ?_⟩
    unfold lk1b9b lk1b9b0 lk1b9b1
    unfold chk at k
    have hx : r[p]? = rs[n + p]? := by rw [hr, List.getElem?_drop]
    rw [hx] at k
    simp (implicitDefEqProofs := false) only [sq_ap, post_bnd, post_ret, a_k, a_v, getV_cons0, getV_cons, a_bin, a_cmp, a_ch, a_neg, a_not, a_and, a_or, a_ite, a_sub, a_slc, a_no, a_so, a_nil', a_cons', a_tup, a_lst, a_nl, a_ndk, a_call, a_call0, a_bi, a_isi, a_app, a_sd, a_tst, a_sk, a_brk, a_cnt, a_bad, a_ex, a_ret, a_retN, a_if, a_asg, a_par2, a_par3, a_set, a_for, a_seq, a_enum, a_rng1, a_rng2, a_lc, a_lc2, a_aug, a_disp, a_op2, a_tsub, a_tin, a_tnin, a_itemsL, v_add, v_sub, v_band, v_neg, v_trB, v_trI, v_trN, v_lt, v_le, v_gt, v_ge, v_eqI, v_neI, v_eqS, v_neS, v_isn, v_isnn, v_int, v_abs, v_lenT, v_lenL, v_tupL, v_lstL, List.set_cons_zero, List.set_cons_succ, List.map_cons, List.map_nil, List.cons_append, List.nil_append, List.replicate_succ, List.replicate_zero, dataOf, Option.map_some, Option.some.injEq, exists_eq_left', List.length_cons, List.length_nil, asOI, List.length_map]
    by_cases c : rs.length ≤ n + p
    · have e : rs[n + p]? = none := List.getElem?_eq_none c
      rw [e] at k
      rw [decide_eq_true (by omega), if_pos rfl]
      exact k
    · have hlt : n + p < rs.length := by omega
      rw [List.getElem?_eq_getElem hlt] at k
      rw [decide_eq_false (by omega), if_neg Bool.false_ne_true, v_rowI (List.getElem?_eq_getElem hlt)]
      simp (implicitDefEqProofs := false) only [post_bnd, post_ret, a_k, a_v, getV_cons0, getV_cons, a_bin, a_cmp, a_ch, a_neg, a_not, a_and, a_or, a_ite, a_sub, a_slc, a_no, a_so, a_nil', a_cons', a_tup, a_lst, a_nl, a_ndk, a_call, a_call0, a_bi, a_isi, a_app, a_sd, a_tst, a_sk, a_brk, a_cnt, a_bad, a_ex, a_ret, a_retN, a_if, a_asg, a_par2, a_par3, a_set, a_for, a_seq, a_enum, a_rng1, a_rng2, a_lc, a_lc2, a_aug, a_disp, a_op2, a_tsub, a_tin, a_tnin, a_itemsL, v_add, v_sub, v_band, v_neg, v_trB, v_trI, v_trN, v_lt, v_le, v_gt, v_ge, v_eqI, v_neI, v_eqS, v_neS, v_isn, v_isnn, v_int, v_abs, v_lenT, v_lenL, v_tupL, v_lstL, List.set_cons_zero, List.set_cons_succ, List.map_cons, List.map_nil, List.cons_append, List.nil_append, List.replicate_succ, List.replicate_zero, dataOf, Option.map_some, Option.some.injEq, exists_eq_left', List.length_cons, List.length_nil, asOI]
      by_cases ho : rs[n + p] = o
      · simp only [if_pos ho] at k
        have e : (rs[n + p] == o) = true := beq_iff_eq.mpr ho
        rw [e]
        simp (implicitDefEqProofs := false) only [Bool.not_true, Bool.false_eq_true, if_false, post_bnd, post_ret, a_k, a_v, getV_cons0, getV_cons, a_bin, a_cmp, a_ch, a_neg, a_not, a_and, a_or, a_ite, a_sub, a_slc, a_no, a_so, a_nil', a_cons', a_tup, a_lst, a_nl, a_ndk, a_call, a_call0, a_bi, a_isi, a_app, a_sd, a_tst, a_sk, a_brk, a_cnt, a_bad, a_ex, a_ret, a_retN, a_if, a_asg, a_par2, a_par3, a_set, a_for, a_seq, a_enum, a_rng1, a_rng2, a_lc, a_lc2, a_aug, a_disp, a_op2, a_tsub, a_tin, a_tnin, a_itemsL, v_add, v_sub, v_band, v_neg, v_trB, v_trI, v_trN, v_lt, v_le, v_gt, v_ge, v_eqI, v_neI, v_eqS, v_neS, v_isn, v_isnn, v_int, v_abs, v_lenT, v_lenL, v_tupL, v_lstL, List.set_cons_zero, List.set_cons_succ, List.map_cons, List.map_nil, List.cons_append, List.nil_append, List.replicate_succ, List.replicate_zero, dataOf, Option.map_some, Option.some.injEq, exists_eq_left', List.length_cons, List.length_nil, asOI]
        exact due_ok hr hn l _ _ k
      · simp only [if_neg ho] at k
        have e : (rs[n + p] == o) = false := beq_eq_false_iff_ne.mpr ho
        rw [e]
        simp (implicitDefEqProofs := false) only [Bool.not_false, if_true, post_bnd, post_ret, a_k, a_v, getV_cons0, getV_cons, a_bin, a_cmp, a_ch, a_neg, a_not, a_and, a_or, a_ite, a_sub, a_slc, a_no, a_so, a_nil', a_cons', a_tup, a_lst, a_nl, a_ndk, a_call, a_call0, a_bi, a_isi, a_app, a_sd, a_tst, a_sk, a_brk, a_cnt, a_bad, a_ex, a_ret, a_retN, a_if, a_asg, a_par2, a_par3, a_set, a_for, a_seq, a_enum, a_rng1, a_rng2, a_lc, a_lc2, a_aug, a_disp, a_op2, a_tsub, a_tin, a_tnin, a_itemsL, v_add, v_sub, v_band, v_neg, v_trB, v_trI, v_trN, v_lt, v_le, v_gt, v_ge, v_eqI, v_neI, v_eqS, v_neS, v_isn, v_isnn, v_int, v_abs, v_lenT, v_lenL, v_tupL, v_lstL, List.set_cons_zero, List.set_cons_succ, List.map_cons, List.map_nil, List.cons_append, List.nil_append, List.replicate_succ, List.replicate_zero, dataOf, Option.map_some, Option.some.injEq, exists_eq_left', List.length_cons, List.length_nil, asOI]
        refine ⟨by show 3 ≤ 16777216; decide, ?_⟩
        exact k
end
end MP.Q0

namespace MP.Q0
open PySem L2 PySem.Spec PyProof.Rows
section
variable {S : Sto} {q : W → Sto → Prop} {Q : Fl → Sto → Prop} {qb : Bool → Sto → Prop}
variable {rs b : List Int} {n : Nat} {t x5 x6 x7 x8 x9 x10 x11 : Option W}
theorem items_rng2 {a c : Int} (h : -(2 ^ 62) ≤ a ∧ a < 2 ^ 62 ∧ -(2 ^ 62) ≤ c ∧ c < 2 ^ 62) : itemsOf .rng [.d (.int a), .d (.int c)] = some ((List.range (c - a).toNat).map fun (i : Nat) => .int (a + (i : Int))) := by
  show (if -(2 ^ 62) ≤ a ∧ a < 2 ^ 62 ∧ -(2 ^ 62) ≤ c ∧ c < 2 ^ 62 then some ((List.range (c - a).toNat).map fun (i : Nat) => PyData.int (a + (i : Int))) else none) = _
  rw [if_pos h]
def runL (n w : Nat) (r : List Int) : List Int := ((List.range w).filter (fun i => !isD (r.getD i 0))).map fun i => ((n + i : Nat) : Int)
def isDD (rs : List Int) : D → Bool
  | .int v => !isD (rs.getD v.toNat 0)
  | _ => false
theorem run_ok (hn : n ≤ rs.length) (hl : rs.length ≤ 2000) (k : Q (.nx (fr rs b n t (some (.d (.list ((runL n (min 5 (rs.drop n).length) (rs.drop n)).map .int)))) x6 x7 x8 x9 x10 x11)) S) :
    post (lk1b0 (fr rs b n t x5 x6 x7 x8 x9 x10 x11) S) Q := by
  unfold lk1b0
  have e : (if (rs.length : Int) < (n : Nat) + 5 then (rs.length : Int) else (n : Nat) + 5) = (n : Int) + (min 5 (rs.drop n).length : Nat) := by
    rw [List.length_drop]
    by_cases c : (rs.length : Int) < (n : Nat) + 5
    · rw [if_pos c]; omega
    · rw [if_neg c]; omega
  simp (implicitDefEqProofs := false) only [post_bnd, post_ret, a_k, a_v, getV_cons0, getV_cons, a_bin, a_cmp, a_ch, a_neg, a_not, a_and, a_or, a_ite, a_sub, a_slc, a_no, a_so, a_nil', a_cons', a_tup, a_lst, a_nl, a_ndk, a_call, a_call0, a_bi, a_isi, a_app, a_sd, a_tst, a_sk, a_brk, a_cnt, a_bad, a_ex, a_ret, a_retN, a_if, a_asg, a_par2, a_par3, a_set, a_for, a_seq, a_enum, a_rng1, a_rng2, a_lc, a_lc2, a_aug, a_disp, a_op2, a_tsub, a_tin, a_tnin, a_itemsL, v_add, v_sub, v_band, v_neg, v_trB, v_trI, v_trN, v_lt, v_le, v_gt, v_ge, v_eqI, v_neI, v_eqS, v_neS, v_isn, v_isnn, v_int, v_abs, v_lenT, v_lenL, v_tupL, v_lstL, List.set_cons_zero, List.set_cons_succ, List.map_cons, List.map_nil, List.cons_append, List.nil_append, List.replicate_succ, List.replicate_zero, dataOf, Option.map_some, Option.some.injEq, exists_eq_left', List.length_cons, List.length_nil, asOI, List.length_map, v_min2, e]
  have hw : min 5 (rs.drop n).length ≤ rs.length - n := by rw [List.length_drop]; omega
  generalize min 5 (rs.drop n).length = w at *
  rw [items_rng2 ⟨by omega, by omega, by omega, by omega⟩]
  refine ⟨_, rfl, ?_⟩
  have ew : ((n : Int) + (w : Nat) - (n : Nat)).toNat = w := by omega
  rw [ew]
  refine lc_filter (f := id) (p := isDD rs) _ ?_ ?_
  · intro x hx q h
    obtain ⟨i, hi, rfl⟩ := List.mem_map.mp hx
    have hi := List.mem_range.mp hi
    have hlt : n + i < rs.length := by omega
    unfold lcT
    have eb : bindP (.nm 10) (.d (.int ((n : Int) + (i : Int)))) (wipeW (fr rs b n t x5 x6 x7 x8 x9 x10 x11) [10]) = some (fr rs b n t x5 x6 x7 x8 x9 (some (.d (.int ((n + i : Nat) : Int)))) x11) := rfl
    rw [eb]
    simp (implicitDefEqProofs := false) only [opt_some, bnd_ret, post_bnd, post_ret, a_k, a_v, getV_cons0, getV_cons, a_bin, a_cmp, a_ch, a_neg, a_not, a_and, a_or, a_ite, a_sub, a_slc, a_no, a_so, a_nil', a_cons', a_tup, a_lst, a_nl, a_ndk, a_call, a_call0, a_bi, a_isi, a_app, a_sd, a_tst, a_sk, a_brk, a_cnt, a_bad, a_ex, a_ret, a_retN, a_if, a_asg, a_par2, a_par3, a_set, a_for, a_seq, a_enum, a_rng1, a_rng2, a_lc, a_lc2, a_aug, a_disp, a_op2, a_tsub, a_tin, a_tnin, a_itemsL, v_add, v_sub, v_band, v_neg, v_trB, v_trI, v_trN, v_lt, v_le, v_gt, v_ge, v_eqI, v_neI, v_eqS, v_neS, v_isn, v_isnn, v_int, v_abs, v_lenT, v_lenL, v_tupL, v_lstL, List.set_cons_zero, List.set_cons_succ, List.map_cons, List.map_nil, List.cons_append, List.nil_append, List.replicate_succ, List.replicate_zero, dataOf, Option.map_some, Option.some.injEq, exists_eq_left', List.length_cons, List.length_nil, asOI]
    rw [v_rowI (List.getElem?_eq_getElem hlt), v_ninD (in_dg _)]
    try simp (implicitDefEqProofs := false) only [post_bnd, post_ret, a_k, a_v, getV_cons0, getV_cons, a_bin, a_cmp, a_ch, a_neg, a_not, a_and, a_or, a_ite, a_sub, a_slc, a_no, a_so, a_nil', a_cons', a_tup, a_lst, a_nl, a_ndk, a_call, a_call0, a_bi, a_isi, a_app, a_sd, a_tst, a_sk, a_brk, a_cnt, a_bad, a_ex, a_ret, a_retN, a_if, a_asg, a_par2, a_par3, a_set, a_for, a_seq, a_enum, a_rng1, a_rng2, a_lc, a_lc2, a_aug, a_disp, a_op2, a_tsub, a_tin, a_tnin, a_itemsL, v_add, v_sub, v_band, v_neg, v_trB, v_trI, v_trN, v_lt, v_le, v_gt, v_ge, v_eqI, v_neI, v_eqS, v_neS, v_isn, v_isnn, v_int, v_abs, v_lenT, v_lenL, v_tupL, v_lstL, List.set_cons_zero, List.set_cons_succ, List.map_cons, List.map_nil, List.cons_append, List.nil_append, List.replicate_succ, List.replicate_zero, dataOf, Option.map_some, Option.some.injEq, exists_eq_left', List.length_cons, List.length_nil, asOI]
    have ep : isDD rs (.int ((n : Int) + (i : Int))) = !isD rs[n + i] := by
      show (!isD (rs.getD ((n : Int) + (i : Int)).toNat 0)) = _
      rw [show ((n : Int) + (i : Int)).toNat = n + i by omega, List.getD_eq_getElem?_getD, List.getElem?_eq_getElem hlt]; rfl
    rw [ep] at h
    cases c : isD rs[n + i] with
    | true =>
      rw [c] at h
      simp (implicitDefEqProofs := false) only [Bool.not_true, Bool.false_eq_true, if_false, post_ret]
      exact h
    | false =>
      rw [c] at h
      simp (implicitDefEqProofs := false) only [Bool.not_false, if_true, post_bnd, post_ret, a_k, a_v, getV_cons0, getV_cons, a_bin, a_cmp, a_ch, a_neg, a_not, a_and, a_or, a_ite, a_sub, a_slc, a_no, a_so, a_nil', a_cons', a_tup, a_lst, a_nl, a_ndk, a_call, a_call0, a_bi, a_isi, a_app, a_sd, a_tst, a_sk, a_brk, a_cnt, a_bad, a_ex, a_ret, a_retN, a_if, a_asg, a_par2, a_par3, a_set, a_for, a_seq, a_enum, a_rng1, a_rng2, a_lc, a_lc2, a_aug, a_disp, a_op2, a_tsub, a_tin, a_tnin, a_itemsL, v_add, v_sub, v_band, v_neg, v_trB, v_trI, v_trN, v_lt, v_le, v_gt, v_ge, v_eqI, v_neI, v_eqS, v_neS, v_isn, v_isnn, v_int, v_abs, v_lenT, v_lenL, v_tupL, v_lstL, List.set_cons_zero, List.set_cons_succ, List.map_cons, List.map_nil, List.cons_append, List.nil_append, List.replicate_succ, List.replicate_zero, dataOf, Option.map_some, Option.some.injEq, exists_eq_left', List.length_cons, List.length_nil, asOI, asD]
      exact h
  · have e2 : (((List.range w).map fun (i : Nat) => (PyData.int ((n : Int) + (i : Int)) : D)).filter (isDD rs)).map id = (runL n w (rs.drop n)).map .int := by
      rw [List.map_id, List.filter_map]
      unfold runL
      rw [List.map_map]
      have e3 : (List.range w).filter (isDD rs ∘ fun (i : Nat) => (PyData.int ((n : Int) + (i : Int)) : D)) = (List.range w).filter fun i => !isD ((rs.drop n).getD i 0) := by
        congr 1
        funext i
        show (!isD (rs.getD ((n : Int) + (i : Int)).toNat 0)) = _
        rw [show ((n : Int) + (i : Int)).toNat = n + i by omega, List.getD_eq_getElem?_getD, List.getD_eq_getElem?_getD, List.getElem?_drop]
      rw [e3]
      rfl
    rw [e2]
    refine ⟨?_, k⟩
    rw [List.length_map]
    unfold runL
    rw [List.length_map]
    have := List.length_filter_le (fun i => !isD ((rs.drop n).getD i 0)) (List.range w)
    rw [List.length_range] at this
    show _ ≤ 16777216
    omega
theorem end_ok (hn : n ≤ rs.length) (hl : rs.length ≤ 2000) (k : ∀ x5, Q (.nx (fr rs b n t x5 (some (.d (.int ((n + min 5 (tw (rs.drop n)) : Nat) : Int)))) x7 x8 x9 x10 x11)) S) :
    post (lk1b1 (fr rs b n t (some (.d (.list ((runL n (min 5 (rs.drop n).length) (rs.drop n)).map .int)))) x6 x7 x8 x9 x10 x11) S) Q := by
  unfold lk1b1
  have e0 : (PyData.list [] : D) = .list (([] : List Int).map .int) := rfl
  simp (implicitDefEqProofs := false) only [post_bnd, post_ret, a_k, a_v, getV_cons0, getV_cons, a_bin, a_cmp, a_ch, a_neg, a_not, a_and, a_or, a_ite, a_sub, a_slc, a_no, a_so, a_nil', a_cons', a_tup, a_lst, a_nl, a_ndk, a_call, a_call0, a_bi, a_isi, a_app, a_sd, a_tst, a_sk, a_brk, a_cnt, a_bad, a_ex, a_ret, a_retN, a_if, a_asg, a_par2, a_par3, a_set, a_for, a_seq, a_enum, a_rng1, a_rng2, a_lc, a_lc2, a_aug, a_disp, a_op2, a_tsub, a_tin, a_tnin, a_itemsL, v_add, v_sub, v_band, v_neg, v_trB, v_trI, v_trN, v_lt, v_le, v_gt, v_ge, v_eqI, v_neI, v_eqS, v_neS, v_isn, v_isnn, v_int, v_abs, v_lenT, v_lenL, v_tupL, v_lstL, List.set_cons_zero, List.set_cons_succ, List.map_cons, List.map_nil, List.cons_append, List.nil_append, List.replicate_succ, List.replicate_zero, dataOf, Option.map_some, Option.some.injEq, exists_eq_left', List.length_cons, List.length_nil, asOI]
  refine ⟨by decide, ?_⟩
  rw [e0, v_neD (eq_L _ [])]
  have ht := tw_le (rs.drop n)
  rcases hd_run (rs.drop n) (min 5 (rs.drop n).length) (by omega) with ⟨e, hw⟩ | ⟨t', e, hw⟩
  · have er : runL n (min 5 (rs.drop n).length) (rs.drop n) = [] := by unfold runL; rw [e]; rfl
    rw [er]
    have e : (if (rs.length : Int) < (n : Nat) + 5 then (rs.length : Int) else (n : Nat) + 5) = ((n + min 5 (tw (rs.drop n)) : Nat) : Int) := by
      rw [List.length_drop] at hw ht
      by_cases c : (rs.length : Int) < (n : Nat) + 5
      · rw [if_pos c]; omega
      · rw [if_neg c]; omega
    rw [decide_eq_true rfl]
    simp (implicitDefEqProofs := false) only [post_bnd, post_ret, a_k, a_v, getV_cons0, getV_cons, a_bin, a_cmp, a_ch, a_neg, a_not, a_and, a_or, a_ite, a_sub, a_slc, a_no, a_so, a_nil', a_cons', a_tup, a_lst, a_nl, a_ndk, a_call, a_call0, a_bi, a_isi, a_app, a_sd, a_tst, a_sk, a_brk, a_cnt, a_bad, a_ex, a_ret, a_retN, a_if, a_asg, a_par2, a_par3, a_set, a_for, a_seq, a_enum, a_rng1, a_rng2, a_lc, a_lc2, a_aug, a_disp, a_op2, a_tsub, a_tin, a_tnin, a_itemsL, v_add, v_sub, v_band, v_neg, v_trB, v_trI, v_trN, v_lt, v_le, v_gt, v_ge, v_eqI, v_neI, v_eqS, v_neS, v_isn, v_isnn, v_int, v_abs, v_lenT, v_lenL, v_tupL, v_lstL, List.set_cons_zero, List.set_cons_succ, List.map_cons, List.map_nil, List.cons_append, List.nil_append, List.replicate_succ, List.replicate_zero, dataOf, Option.map_some, Option.some.injEq, exists_eq_left', List.length_cons, List.length_nil, asOI, Bool.not_true, Bool.false_eq_true, if_false, List.length_map, v_min2, e]
    exact k _
  · have er : runL n (min 5 (rs.drop n).length) (rs.drop n) = ((n + tw (rs.drop n) : Nat) : Int) :: t'.map fun i => ((n + i : Nat) : Int) := by unfold runL; rw [e]; rfl
    rw [er, decide_eq_false (by simp)]
    simp (implicitDefEqProofs := false) only [post_bnd, post_ret, a_k, a_v, getV_cons0, getV_cons, a_bin, a_cmp, a_ch, a_neg, a_not, a_and, a_or, a_ite, a_sub, a_slc, a_no, a_so, a_nil', a_cons', a_tup, a_lst, a_nl, a_ndk, a_call, a_call0, a_bi, a_isi, a_app, a_sd, a_tst, a_sk, a_brk, a_cnt, a_bad, a_ex, a_ret, a_retN, a_if, a_asg, a_par2, a_par3, a_set, a_for, a_seq, a_enum, a_rng1, a_rng2, a_lc, a_lc2, a_aug, a_disp, a_op2, a_tsub, a_tin, a_tnin, a_itemsL, v_add, v_sub, v_band, v_neg, v_trB, v_trI, v_trN, v_lt, v_le, v_gt, v_ge, v_eqI, v_neI, v_eqS, v_neS, v_isn, v_isnn, v_int, v_abs, v_lenT, v_lenL, v_tupL, v_lstL, List.set_cons_zero, List.set_cons_succ, List.map_cons, List.map_nil, List.cons_append, List.nil_append, List.replicate_succ, List.replicate_zero, dataOf, Option.map_some, Option.some.injEq, exists_eq_left', List.length_cons, List.length_nil, asOI, Bool.not_false, if_true]
    have i0 : ∀ (x : D) (l : List D), L2.atI (x :: l) 0 = some x := fun _ _ => L2.atI_nat (j := 0) rfl
    rw [v_ixL (i0 _ _)]
    rw [show n + tw (rs.drop n) = n + min 5 (tw (rs.drop n)) by omega]
    exact k _
theorem chk_none {r : List Int} {n : Nat} : ∀ {l : List (Nat × Int)}, chk r n l = none → ∀ z ∈ l, z.1 < r.length
  | [], _, z, m => by cases m
  | (p, o) :: l, h, z, m => by
    unfold chk at h
    cases e : r[p]? with
    | none => rw [e] at h; cases h
    | some x =>
      rw [e] at h
      by_cases c : x = o
      · simp only [if_pos c] at h
        rcases List.mem_cons.mp m with e2 | m
        · rw [e2]; exact (List.getElem?_eq_some_iff.mp e).1
        · exact chk_none h z m
      · simp only [if_neg c] at h
        cases h
theorem cutN {α : Type} (xs : List α) (a m : Nat) : cut xs (some (a : Int)) (some ((a + m : Nat) : Int)) = (xs.drop a).take m := by
  unfold cut
  rw [HT.sIx_nat, HT.sIx_nat]
  by_cases h : a ≤ xs.length
  · rw [Nat.min_eq_left h]
    by_cases h2 : a + m ≤ xs.length
    · rw [Nat.min_eq_left h2, Nat.add_sub_cancel_left]
    · rw [Nat.min_eq_right (by omega), List.take_of_length_le (by rw [List.length_drop]; omega), List.take_of_length_le (by rw [List.length_drop]; omega)]
  · rw [Nat.min_eq_right (by omega), Nat.min_eq_right (by omega), Nat.sub_self, List.take_zero, List.drop_of_length_le (by omega), List.take_nil]
theorem take_dig (r : List Int) : ∀ o ∈ r.take (min 5 (tw r)), isD o = true := by
  intro o m
  obtain ⟨ds, rest, er, el, hd, _⟩ := tw_split r
  have e : r.take (min 5 (tw r)) = ds.take (min 5 (tw r)) := by
    rw [← el]
    conv => lhs; rw [er]
    exact List.take_append_of_le_length (by omega)
  rw [e] at m
  exact hd o (List.mem_of_mem_take m)
/-- one turn -/
theorem turn_ok {f : Nat} {z : Option Oc} (hn : n ≤ rs.length) (hl : rs.length ≤ 2000) (hb : b.length ≤ 300) (hz : blk (f + 1) b (rs.drop n) n = z) (k1 : Q (.rt (.d (Oc.D z))) S)
    (k2 : ∀ b' n' t x5 x6 x7 x8 x9 x10 x11, n' ≤ rs.length → b'.length ≤ 300 → blk f b' (rs.drop n') n' = z → Q (.nx (fr rs b' n' t x5 x6 x7 x8 x9 x10 x11)) S) :
    post (lk1b (fr rs b n t x5 x6 x7 x8 x9 x10 x11) S) Q := by
  unfold lk1b
  rw [sq_ap]
  refine run_ok hn hl ?_
  dsimp only
  rw [sq_ap]
  refine end_ok hn hl fun x5 => ?_
  dsimp only
  unfold blk at hz
  have hte := tw_le (rs.drop n)
  rw [List.length_drop] at hte
  have htk := take_dig (rs.drop n)
  have hle : ((rs.drop n).take (min 5 (tw (rs.drop n)))).length ≤ 5 := by rw [List.length_take]; omega
  have hcut : cut rs (some ((n : Nat) : Int)) (some ((n + min 5 (tw (rs.drop n)) : Nat) : Int)) = (rs.drop n).take (min 5 (tw (rs.drop n))) := by
    unfold cut
    rw [HT.sIx_nat, HT.sIx_nat, Nat.min_eq_left hn, Nat.min_eq_left (by omega), Nat.add_sub_cancel_left]
  have hat : (rs.drop n)[min 5 (tw (rs.drop n))]? = rs[n + min 5 (tw (rs.drop n))]? := by rw [List.getElem?_drop]
  have hlen : (rs.drop n).length = rs.length - n := List.length_drop
  rw [hlen] at hz
  generalize hm : numN 0 ((rs.drop n).take (min 5 (tw (rs.drop n)))) = m at *
  generalize hE : min 5 (tw (rs.drop n)) = e at *
  have he : n + e ≤ rs.length := by omega
  have e5 : e ≤ 5 := by omega
  -- end - at == 5
  rw [sq_ap]
  unfold lk1b2
  simp (implicitDefEqProofs := false) only [↓reduceIte, post_bnd, post_ret, a_k, a_v, getV_cons0, getV_cons, a_bin, a_cmp, a_ch, a_neg, a_not, a_and, a_or, a_ite, a_sub, a_slc, a_no, a_so, a_nil', a_cons', a_tup, a_lst, a_nl, a_ndk, a_call, a_call0, a_bi, a_isi, a_app, a_sd, a_tst, a_sk, a_brk, a_cnt, a_bad, a_ex, a_ret, a_retN, a_if, a_asg, a_par2, a_par3, a_set, a_for, a_seq, a_enum, a_rng1, a_rng2, a_lc, a_lc2, a_aug, a_disp, a_op2, a_tsub, a_tin, a_tnin, a_itemsL, v_add, v_sub, v_band, v_neg, v_trB, v_trI, v_trN, v_lt, v_le, v_gt, v_ge, v_eqI, v_neI, v_eqS, v_neS, v_isn, v_isnn, v_int, v_abs, v_lenT, v_lenL, v_tupL, v_lstL, List.set_cons_zero, List.set_cons_succ, List.map_cons, List.map_nil, List.cons_append, List.nil_append, List.replicate_succ, List.replicate_zero, dataOf, Option.map_some, Option.some.injEq, exists_eq_left', List.length_cons, List.length_nil, asOI]
  have a1 : (((n + e : Nat) : Int) - (n : Nat) == 5) = decide (e = 5) := by
    by_cases c : e = 5
    · rw [decide_eq_true c]; exact beq_iff_eq.mpr (by omega)
    · rw [decide_eq_false c]; exact beq_eq_false_iff_ne.mpr (by omega)
  rw [a1]
  by_cases c1 : e = 5
  · rw [if_pos c1] at hz
    rw [decide_eq_true c1]
    simp (implicitDefEqProofs := false) only [↓reduceIte, post_bnd, post_ret, a_k, a_v, getV_cons0, getV_cons, a_bin, a_cmp, a_ch, a_neg, a_not, a_and, a_or, a_ite, a_sub, a_slc, a_no, a_so, a_nil', a_cons', a_tup, a_lst, a_nl, a_ndk, a_call, a_call0, a_bi, a_isi, a_app, a_sd, a_tst, a_sk, a_brk, a_cnt, a_bad, a_ex, a_ret, a_retN, a_if, a_asg, a_par2, a_par3, a_set, a_for, a_seq, a_enum, a_rng1, a_rng2, a_lc, a_lc2, a_aug, a_disp, a_op2, a_tsub, a_tin, a_tnin, a_itemsL, v_add, v_sub, v_band, v_neg, v_trB, v_trI, v_trN, v_lt, v_le, v_gt, v_ge, v_eqI, v_neI, v_eqS, v_neS, v_isn, v_isnn, v_int, v_abs, v_lenT, v_lenL, v_tupL, v_lstL, List.set_cons_zero, List.set_cons_succ, List.map_cons, List.map_nil, List.cons_append, List.nil_append, List.replicate_succ, List.replicate_zero, dataOf, Option.map_some, Option.some.injEq, exists_eq_left', List.length_cons, List.length_nil, asOI]
    refine ⟨by show 3 ≤ 16777216; decide, ?_⟩
    rw [← hz] at k1
    exact k1
  rw [if_neg c1] at hz
  rw [decide_eq_false c1]
  simp (implicitDefEqProofs := false) only [↓reduceIte, Bool.false_eq_true, post_bnd, post_ret, a_k, a_v, getV_cons0, getV_cons, a_bin, a_cmp, a_ch, a_neg, a_not, a_and, a_or, a_ite, a_sub, a_slc, a_no, a_so, a_nil', a_cons', a_tup, a_lst, a_nl, a_ndk, a_call, a_call0, a_bi, a_isi, a_app, a_sd, a_tst, a_sk, a_brk, a_cnt, a_bad, a_ex, a_ret, a_retN, a_if, a_asg, a_par2, a_par3, a_set, a_for, a_seq, a_enum, a_rng1, a_rng2, a_lc, a_lc2, a_aug, a_disp, a_op2, a_tsub, a_tin, a_tnin, a_itemsL, v_add, v_sub, v_band, v_neg, v_trB, v_trI, v_trN, v_lt, v_le, v_gt, v_ge, v_eqI, v_neI, v_eqS, v_neS, v_isn, v_isnn, v_int, v_abs, v_lenT, v_lenL, v_tupL, v_lstL, List.set_cons_zero, List.set_cons_succ, List.map_cons, List.map_nil, List.cons_append, List.nil_append, List.replicate_succ, List.replicate_zero, dataOf, Option.map_some, Option.some.injEq, exists_eq_left', List.length_cons, List.length_nil, asOI]
  -- end == len(row)
  rw [sq_ap]
  unfold lk1b3
  simp (implicitDefEqProofs := false) only [↓reduceIte, post_bnd, post_ret, a_k, a_v, getV_cons0, getV_cons, a_bin, a_cmp, a_ch, a_neg, a_not, a_and, a_or, a_ite, a_sub, a_slc, a_no, a_so, a_nil', a_cons', a_tup, a_lst, a_nl, a_ndk, a_call, a_call0, a_bi, a_isi, a_app, a_sd, a_tst, a_sk, a_brk, a_cnt, a_bad, a_ex, a_ret, a_retN, a_if, a_asg, a_par2, a_par3, a_set, a_for, a_seq, a_enum, a_rng1, a_rng2, a_lc, a_lc2, a_aug, a_disp, a_op2, a_tsub, a_tin, a_tnin, a_itemsL, v_add, v_sub, v_band, v_neg, v_trB, v_trI, v_trN, v_lt, v_le, v_gt, v_ge, v_eqI, v_neI, v_eqS, v_neS, v_isn, v_isnn, v_int, v_abs, v_lenT, v_lenL, v_tupL, v_lstL, List.set_cons_zero, List.set_cons_succ, List.map_cons, List.map_nil, List.cons_append, List.nil_append, List.replicate_succ, List.replicate_zero, dataOf, Option.map_some, Option.some.injEq, exists_eq_left', List.length_cons, List.length_nil, asOI, List.length_map]
  have a2 : (((n + e : Nat) : Int) == (rs.length : Nat)) = decide (e = rs.length - n) := by
    by_cases c : e = rs.length - n
    · rw [decide_eq_true c]; exact beq_iff_eq.mpr (by omega)
    · rw [decide_eq_false c]; exact beq_eq_false_iff_ne.mpr (by omega)
  rw [a2]
  by_cases c2 : e = rs.length - n
  · rw [if_pos c2] at hz
    rw [decide_eq_true c2]
    simp (implicitDefEqProofs := false) only [↓reduceIte, post_bnd, post_ret, a_k, a_v, getV_cons0, getV_cons, a_bin, a_cmp, a_ch, a_neg, a_not, a_and, a_or, a_ite, a_sub, a_slc, a_no, a_so, a_nil', a_cons', a_tup, a_lst, a_nl, a_ndk, a_call, a_call0, a_bi, a_isi, a_app, a_sd, a_tst, a_sk, a_brk, a_cnt, a_bad, a_ex, a_ret, a_retN, a_if, a_asg, a_par2, a_par3, a_set, a_for, a_seq, a_enum, a_rng1, a_rng2, a_lc, a_lc2, a_aug, a_disp, a_op2, a_tsub, a_tin, a_tnin, a_itemsL, v_add, v_sub, v_band, v_neg, v_trB, v_trI, v_trN, v_lt, v_le, v_gt, v_ge, v_eqI, v_neI, v_eqS, v_neS, v_isn, v_isnn, v_int, v_abs, v_lenT, v_lenL, v_tupL, v_lstL, List.set_cons_zero, List.set_cons_succ, List.map_cons, List.map_nil, List.cons_append, List.nil_append, List.replicate_succ, List.replicate_zero, dataOf, Option.map_some, Option.some.injEq, exists_eq_left', List.length_cons, List.length_nil, asOI]
    rw [← hz] at k1
    exact k1
  rw [if_neg c2] at hz
  rw [decide_eq_false c2]
  simp (implicitDefEqProofs := false) only [↓reduceIte, Bool.false_eq_true, post_bnd, post_ret, a_k, a_v, getV_cons0, getV_cons, a_bin, a_cmp, a_ch, a_neg, a_not, a_and, a_or, a_ite, a_sub, a_slc, a_no, a_so, a_nil', a_cons', a_tup, a_lst, a_nl, a_ndk, a_call, a_call0, a_bi, a_isi, a_app, a_sd, a_tst, a_sk, a_brk, a_cnt, a_bad, a_ex, a_ret, a_retN, a_if, a_asg, a_par2, a_par3, a_set, a_for, a_seq, a_enum, a_rng1, a_rng2, a_lc, a_lc2, a_aug, a_disp, a_op2, a_tsub, a_tin, a_tnin, a_itemsL, v_add, v_sub, v_band, v_neg, v_trB, v_trI, v_trN, v_lt, v_le, v_gt, v_ge, v_eqI, v_neI, v_eqS, v_neS, v_isn, v_isnn, v_int, v_abs, v_lenT, v_lenL, v_tupL, v_lstL, List.set_cons_zero, List.set_cons_succ, List.map_cons, List.map_nil, List.cons_append, List.nil_append, List.replicate_succ, List.replicate_zero, dataOf, Option.map_some, Option.some.injEq, exists_eq_left', List.length_cons, List.length_nil, asOI]
  have hlt : n + e < rs.length := by omega
  rw [hat, List.getElem?_eq_getElem hlt] at hz
  -- end == at or row[end] != 13
  rw [sq_ap]
  unfold lk1b4
  simp (implicitDefEqProofs := false) only [↓reduceIte, post_bnd, post_ret, a_k, a_v, getV_cons0, getV_cons, a_bin, a_cmp, a_ch, a_neg, a_not, a_and, a_or, a_ite, a_sub, a_slc, a_no, a_so, a_nil', a_cons', a_tup, a_lst, a_nl, a_ndk, a_call, a_call0, a_bi, a_isi, a_app, a_sd, a_tst, a_sk, a_brk, a_cnt, a_bad, a_ex, a_ret, a_retN, a_if, a_asg, a_par2, a_par3, a_set, a_for, a_seq, a_enum, a_rng1, a_rng2, a_lc, a_lc2, a_aug, a_disp, a_op2, a_tsub, a_tin, a_tnin, a_itemsL, v_add, v_sub, v_band, v_neg, v_trB, v_trI, v_trN, v_lt, v_le, v_gt, v_ge, v_eqI, v_neI, v_eqS, v_neS, v_isn, v_isnn, v_int, v_abs, v_lenT, v_lenL, v_tupL, v_lstL, List.set_cons_zero, List.set_cons_succ, List.map_cons, List.map_nil, List.cons_append, List.nil_append, List.replicate_succ, List.replicate_zero, dataOf, Option.map_some, Option.some.injEq, exists_eq_left', List.length_cons, List.length_nil, asOI]
  have a3 : (((n + e : Nat) : Int) == (n : Nat)) = decide (e = 0) := by
    by_cases c : e = 0
    · rw [decide_eq_true c]; exact beq_iff_eq.mpr (by omega)
    · rw [decide_eq_false c]; exact beq_eq_false_iff_ne.mpr (by omega)
  rw [a3]
  by_cases c3 : e = 0 ∨ some rs[n + e] ≠ some 13
  · rw [if_pos c3] at hz
    rw [← hz] at k1
    rcases c3 with c3 | c3
    · rw [decide_eq_true c3]
      simp (implicitDefEqProofs := false) only [↓reduceIte, post_bnd, post_ret, a_k, a_v, getV_cons0, getV_cons, a_bin, a_cmp, a_ch, a_neg, a_not, a_and, a_or, a_ite, a_sub, a_slc, a_no, a_so, a_nil', a_cons', a_tup, a_lst, a_nl, a_ndk, a_call, a_call0, a_bi, a_isi, a_app, a_sd, a_tst, a_sk, a_brk, a_cnt, a_bad, a_ex, a_ret, a_retN, a_if, a_asg, a_par2, a_par3, a_set, a_for, a_seq, a_enum, a_rng1, a_rng2, a_lc, a_lc2, a_aug, a_disp, a_op2, a_tsub, a_tin, a_tnin, a_itemsL, v_add, v_sub, v_band, v_neg, v_trB, v_trI, v_trN, v_lt, v_le, v_gt, v_ge, v_eqI, v_neI, v_eqS, v_neS, v_isn, v_isnn, v_int, v_abs, v_lenT, v_lenL, v_tupL, v_lstL, List.set_cons_zero, List.set_cons_succ, List.map_cons, List.map_nil, List.cons_append, List.nil_append, List.replicate_succ, List.replicate_zero, dataOf, Option.map_some, Option.some.injEq, exists_eq_left', List.length_cons, List.length_nil, asOI]
      refine ⟨by show 3 ≤ 16777216; decide, ?_⟩
      exact k1
    · by_cases c4 : e = 0
      · rw [decide_eq_true c4]
        simp (implicitDefEqProofs := false) only [↓reduceIte, post_bnd, post_ret, a_k, a_v, getV_cons0, getV_cons, a_bin, a_cmp, a_ch, a_neg, a_not, a_and, a_or, a_ite, a_sub, a_slc, a_no, a_so, a_nil', a_cons', a_tup, a_lst, a_nl, a_ndk, a_call, a_call0, a_bi, a_isi, a_app, a_sd, a_tst, a_sk, a_brk, a_cnt, a_bad, a_ex, a_ret, a_retN, a_if, a_asg, a_par2, a_par3, a_set, a_for, a_seq, a_enum, a_rng1, a_rng2, a_lc, a_lc2, a_aug, a_disp, a_op2, a_tsub, a_tin, a_tnin, a_itemsL, v_add, v_sub, v_band, v_neg, v_trB, v_trI, v_trN, v_lt, v_le, v_gt, v_ge, v_eqI, v_neI, v_eqS, v_neS, v_isn, v_isnn, v_int, v_abs, v_lenT, v_lenL, v_tupL, v_lstL, List.set_cons_zero, List.set_cons_succ, List.map_cons, List.map_nil, List.cons_append, List.nil_append, List.replicate_succ, List.replicate_zero, dataOf, Option.map_some, Option.some.injEq, exists_eq_left', List.length_cons, List.length_nil, asOI]
        refine ⟨by show 3 ≤ 16777216; decide, ?_⟩
        exact k1
      · rw [decide_eq_false c4]
        simp (implicitDefEqProofs := false) only [↓reduceIte, Bool.false_eq_true, post_bnd, post_ret, a_k, a_v, getV_cons0, getV_cons, a_bin, a_cmp, a_ch, a_neg, a_not, a_and, a_or, a_ite, a_sub, a_slc, a_no, a_so, a_nil', a_cons', a_tup, a_lst, a_nl, a_ndk, a_call, a_call0, a_bi, a_isi, a_app, a_sd, a_tst, a_sk, a_brk, a_cnt, a_bad, a_ex, a_ret, a_retN, a_if, a_asg, a_par2, a_par3, a_set, a_for, a_seq, a_enum, a_rng1, a_rng2, a_lc, a_lc2, a_aug, a_disp, a_op2, a_tsub, a_tin, a_tnin, a_itemsL, v_add, v_sub, v_band, v_neg, v_trB, v_trI, v_trN, v_lt, v_le, v_gt, v_ge, v_eqI, v_neI, v_eqS, v_neS, v_isn, v_isnn, v_int, v_abs, v_lenT, v_lenL, v_tupL, v_lstL, List.set_cons_zero, List.set_cons_succ, List.map_cons, List.map_nil, List.cons_append, List.nil_append, List.replicate_succ, List.replicate_zero, dataOf, Option.map_some, Option.some.injEq, exists_eq_left', List.length_cons, List.length_nil, asOI]
        rw [v_rowI (List.getElem?_eq_getElem hlt)]
        have a4 : (rs[n + e] == 13) = false := beq_eq_false_iff_ne.mpr fun z => c3 (by rw [z])
        simp (implicitDefEqProofs := false) only [↓reduceIte, post_bnd, post_ret, a_k, a_v, getV_cons0, getV_cons, a_bin, a_cmp, a_ch, a_neg, a_not, a_and, a_or, a_ite, a_sub, a_slc, a_no, a_so, a_nil', a_cons', a_tup, a_lst, a_nl, a_ndk, a_call, a_call0, a_bi, a_isi, a_app, a_sd, a_tst, a_sk, a_brk, a_cnt, a_bad, a_ex, a_ret, a_retN, a_if, a_asg, a_par2, a_par3, a_set, a_for, a_seq, a_enum, a_rng1, a_rng2, a_lc, a_lc2, a_aug, a_disp, a_op2, a_tsub, a_tin, a_tnin, a_itemsL, v_add, v_sub, v_band, v_neg, v_trB, v_trI, v_trN, v_lt, v_le, v_gt, v_ge, v_eqI, v_neI, v_eqS, v_neS, v_isn, v_isnn, v_int, v_abs, v_lenT, v_lenL, v_tupL, v_lstL, List.set_cons_zero, List.set_cons_succ, List.map_cons, List.map_nil, List.cons_append, List.nil_append, List.replicate_succ, List.replicate_zero, dataOf, Option.map_some, Option.some.injEq, exists_eq_left', List.length_cons, List.length_nil, asOI, a4, Bool.not_false]
        refine ⟨by show 3 ≤ 16777216; decide, ?_⟩
        exact k1
  rw [if_neg c3] at hz
  obtain ⟨c4, c5⟩ := not_or.mp c3
  have c5 : rs[n + e] = 13 := Option.some.inj (Classical.not_not.mp c5)
  rw [decide_eq_false c4]
  simp (implicitDefEqProofs := false) only [↓reduceIte, Bool.false_eq_true, post_bnd, post_ret, a_k, a_v, getV_cons0, getV_cons, a_bin, a_cmp, a_ch, a_neg, a_not, a_and, a_or, a_ite, a_sub, a_slc, a_no, a_so, a_nil', a_cons', a_tup, a_lst, a_nl, a_ndk, a_call, a_call0, a_bi, a_isi, a_app, a_sd, a_tst, a_sk, a_brk, a_cnt, a_bad, a_ex, a_ret, a_retN, a_if, a_asg, a_par2, a_par3, a_set, a_for, a_seq, a_enum, a_rng1, a_rng2, a_lc, a_lc2, a_aug, a_disp, a_op2, a_tsub, a_tin, a_tnin, a_itemsL, v_add, v_sub, v_band, v_neg, v_trB, v_trI, v_trN, v_lt, v_le, v_gt, v_ge, v_eqI, v_neI, v_eqS, v_neS, v_isn, v_isnn, v_int, v_abs, v_lenT, v_lenL, v_tupL, v_lstL, List.set_cons_zero, List.set_cons_succ, List.map_cons, List.map_nil, List.cons_append, List.nil_append, List.replicate_succ, List.replicate_zero, dataOf, Option.map_some, Option.some.injEq, exists_eq_left', List.length_cons, List.length_nil, asOI]
  rw [v_rowI (List.getElem?_eq_getElem hlt), c5]
  simp (implicitDefEqProofs := false) only [↓reduceIte, Bool.false_eq_true, post_bnd, post_ret, a_k, a_v, getV_cons0, getV_cons, a_bin, a_cmp, a_ch, a_neg, a_not, a_and, a_or, a_ite, a_sub, a_slc, a_no, a_so, a_nil', a_cons', a_tup, a_lst, a_nl, a_ndk, a_call, a_call0, a_bi, a_isi, a_app, a_sd, a_tst, a_sk, a_brk, a_cnt, a_bad, a_ex, a_ret, a_retN, a_if, a_asg, a_par2, a_par3, a_set, a_for, a_seq, a_enum, a_rng1, a_rng2, a_lc, a_lc2, a_aug, a_disp, a_op2, a_tsub, a_tin, a_tnin, a_itemsL, v_add, v_sub, v_band, v_neg, v_trB, v_trI, v_trN, v_lt, v_le, v_gt, v_ge, v_eqI, v_neI, v_eqS, v_neS, v_isn, v_isnn, v_int, v_abs, v_lenT, v_lenL, v_tupL, v_lstL, List.set_cons_zero, List.set_cons_succ, List.map_cons, List.map_nil, List.cons_append, List.nil_append, List.replicate_succ, List.replicate_zero, dataOf, Option.map_some, Option.some.injEq, exists_eq_left', List.length_cons, List.length_nil, asOI, beq_self_eq_true, Bool.not_true]
  -- many
  rw [sq_ap]
  unfold lk1b5
  simp (implicitDefEqProofs := false) only [↓reduceIte, post_bnd, post_ret, a_k, a_v, getV_cons0, getV_cons, a_bin, a_cmp, a_ch, a_neg, a_not, a_and, a_or, a_ite, a_sub, a_slc, a_no, a_so, a_nil', a_cons', a_tup, a_lst, a_nl, a_ndk, a_call, a_call0, a_bi, a_isi, a_app, a_sd, a_tst, a_sk, a_brk, a_cnt, a_bad, a_ex, a_ret, a_retN, a_if, a_asg, a_par2, a_par3, a_set, a_for, a_seq, a_enum, a_rng1, a_rng2, a_lc, a_lc2, a_aug, a_disp, a_op2, a_tsub, a_tin, a_tnin, a_itemsL, v_add, v_sub, v_band, v_neg, v_trB, v_trI, v_trN, v_lt, v_le, v_gt, v_ge, v_eqI, v_neI, v_eqS, v_neS, v_isn, v_isnn, v_int, v_abs, v_lenT, v_lenL, v_tupL, v_lstL, List.set_cons_zero, List.set_cons_succ, List.map_cons, List.map_nil, List.cons_append, List.nil_append, List.replicate_succ, List.replicate_zero, dataOf, Option.map_some, Option.some.injEq, exists_eq_left', List.length_cons, List.length_nil, asOI]
  rw [sq_ap]
  unfold lk1b6
  simp (implicitDefEqProofs := false) only [↓reduceIte, post_bnd, post_ret, a_k, a_v, getV_cons0, getV_cons, a_bin, a_cmp, a_ch, a_neg, a_not, a_and, a_or, a_ite, a_sub, a_slc, a_no, a_so, a_nil', a_cons', a_tup, a_lst, a_nl, a_ndk, a_call, a_call0, a_bi, a_isi, a_app, a_sd, a_tst, a_sk, a_brk, a_cnt, a_bad, a_ex, a_ret, a_retN, a_if, a_asg, a_par2, a_par3, a_set, a_for, a_seq, a_enum, a_rng1, a_rng2, a_lc, a_lc2, a_aug, a_disp, a_op2, a_tsub, a_tin, a_tnin, a_itemsL, v_add, v_sub, v_band, v_neg, v_trB, v_trI, v_trN, v_lt, v_le, v_gt, v_ge, v_eqI, v_neI, v_eqS, v_neS, v_isn, v_isnn, v_int, v_abs, v_lenT, v_lenL, v_tupL, v_lstL, List.set_cons_zero, List.set_cons_succ, List.map_cons, List.map_nil, List.cons_append, List.nil_append, List.replicate_succ, List.replicate_zero, dataOf, Option.map_some, Option.some.injEq, exists_eq_left', List.length_cons, List.length_nil, asOI]
  rw [v_slT, hcut]
  refine ⟨_, rfl, ?_⟩
  refine fold_ok (rs := rs) (b := b) (n := n) (m := 0) (x8 := x8) (sl := []) _ htk hle fun x8 => ?_
  rw [hm]
  dsimp only
  -- too much
  rw [sq_ap]
  unfold lk1b7
  simp (implicitDefEqProofs := false) only [↓reduceIte, post_bnd, post_ret, a_k, a_v, getV_cons0, getV_cons, a_bin, a_cmp, a_ch, a_neg, a_not, a_and, a_or, a_ite, a_sub, a_slc, a_no, a_so, a_nil', a_cons', a_tup, a_lst, a_nl, a_ndk, a_call, a_call0, a_bi, a_isi, a_app, a_sd, a_tst, a_sk, a_brk, a_cnt, a_bad, a_ex, a_ret, a_retN, a_if, a_asg, a_par2, a_par3, a_set, a_for, a_seq, a_enum, a_rng1, a_rng2, a_lc, a_lc2, a_aug, a_disp, a_op2, a_tsub, a_tin, a_tnin, a_itemsL, v_add, v_sub, v_band, v_neg, v_trB, v_trI, v_trN, v_lt, v_le, v_gt, v_ge, v_eqI, v_neI, v_eqS, v_neS, v_isn, v_isnn, v_int, v_abs, v_lenT, v_lenL, v_tupL, v_lstL, List.set_cons_zero, List.set_cons_succ, List.map_cons, List.map_nil, List.cons_append, List.nil_append, List.replicate_succ, List.replicate_zero, dataOf, Option.map_some, Option.some.injEq, exists_eq_left', List.length_cons, List.length_nil, asOI, List.length_map]
  by_cases c6 : 300 < b.length + m
  · rw [if_pos c6] at hz
    rw [decide_eq_true (by omega)]
    simp (implicitDefEqProofs := false) only [↓reduceIte, post_bnd, post_ret, a_k, a_v, getV_cons0, getV_cons, a_bin, a_cmp, a_ch, a_neg, a_not, a_and, a_or, a_ite, a_sub, a_slc, a_no, a_so, a_nil', a_cons', a_tup, a_lst, a_nl, a_ndk, a_call, a_call0, a_bi, a_isi, a_app, a_sd, a_tst, a_sk, a_brk, a_cnt, a_bad, a_ex, a_ret, a_retN, a_if, a_asg, a_par2, a_par3, a_set, a_for, a_seq, a_enum, a_rng1, a_rng2, a_lc, a_lc2, a_aug, a_disp, a_op2, a_tsub, a_tin, a_tnin, a_itemsL, v_add, v_sub, v_band, v_neg, v_trB, v_trI, v_trN, v_lt, v_le, v_gt, v_ge, v_eqI, v_neI, v_eqS, v_neS, v_isn, v_isnn, v_int, v_abs, v_lenT, v_lenL, v_tupL, v_lstL, List.set_cons_zero, List.set_cons_succ, List.map_cons, List.map_nil, List.cons_append, List.nil_append, List.replicate_succ, List.replicate_zero, dataOf, Option.map_some, Option.some.injEq, exists_eq_left', List.length_cons, List.length_nil, asOI]
    refine ⟨by show 3 ≤ 16777216; decide, ?_⟩
    rw [← hz] at k1
    exact k1
  rw [if_neg c6] at hz
  rw [decide_eq_false (by omega)]
  simp (implicitDefEqProofs := false) only [↓reduceIte, Bool.false_eq_true, post_bnd, post_ret, a_k, a_v, getV_cons0, getV_cons, a_bin, a_cmp, a_ch, a_neg, a_not, a_and, a_or, a_ite, a_sub, a_slc, a_no, a_so, a_nil', a_cons', a_tup, a_lst, a_nl, a_ndk, a_call, a_call0, a_bi, a_isi, a_app, a_sd, a_tst, a_sk, a_brk, a_cnt, a_bad, a_ex, a_ret, a_retN, a_if, a_asg, a_par2, a_par3, a_set, a_for, a_seq, a_enum, a_rng1, a_rng2, a_lc, a_lc2, a_aug, a_disp, a_op2, a_tsub, a_tin, a_tnin, a_itemsL, v_add, v_sub, v_band, v_neg, v_trB, v_trI, v_trN, v_lt, v_le, v_gt, v_ge, v_eqI, v_neI, v_eqS, v_neS, v_isn, v_isnn, v_int, v_abs, v_lenT, v_lenL, v_tupL, v_lstL, List.set_cons_zero, List.set_cons_succ, List.map_cons, List.map_nil, List.cons_append, List.nil_append, List.replicate_succ, List.replicate_zero, dataOf, Option.map_some, Option.some.injEq, exists_eq_left', List.length_cons, List.length_nil, asOI]
  -- due
  rw [sq_ap]
  unfold lk1b8
  have a6 : ((m : Int) == 0) = decide (m = 0) := by
    by_cases c : m = 0
    · rw [decide_eq_true c]; exact beq_iff_eq.mpr (by omega)
    · rw [decide_eq_false c]; exact beq_eq_false_iff_ne.mpr (by omega)
  have q1 : ((n + e : Nat) : Int) + 1 = ((n + (e + 1) : Nat) : Int) := by omega
  by_cases c7 : m = 0
  · subst c7
    rw [if_pos rfl] at hz
    simp (implicitDefEqProofs := false) only [↓reduceIte, post_bnd, post_ret, a_k, a_v, getV_cons0, getV_cons, a_bin, a_cmp, a_ch, a_neg, a_not, a_and, a_or, a_ite, a_sub, a_slc, a_no, a_so, a_nil', a_cons', a_tup, a_lst, a_nl, a_ndk, a_call, a_call0, a_bi, a_isi, a_app, a_sd, a_tst, a_sk, a_brk, a_cnt, a_bad, a_ex, a_ret, a_retN, a_if, a_asg, a_par2, a_par3, a_set, a_for, a_seq, a_enum, a_rng1, a_rng2, a_lc, a_lc2, a_aug, a_disp, a_op2, a_tsub, a_tin, a_tnin, a_itemsL, v_add, v_sub, v_band, v_neg, v_trB, v_trI, v_trN, v_lt, v_le, v_gt, v_ge, v_eqI, v_neI, v_eqS, v_neS, v_isn, v_isnn, v_int, v_abs, v_lenT, v_lenL, v_tupL, v_lstL, List.set_cons_zero, List.set_cons_succ, List.map_cons, List.map_nil, List.cons_append, List.nil_append, List.replicate_succ, List.replicate_zero, dataOf, Option.map_some, Option.some.injEq, exists_eq_left', List.length_cons, List.length_nil, asOI, a6, decide_true]
    have q2 : ((n + e : Nat) : Int) + 2 = ((n + (e + 2) : Nat) : Int) := by omega
    have q3 : ((n + e : Nat) : Int) + 3 = ((n + (e + 3) : Nat) : Int) := by omega
    rw [q1, q2, q3]
    refine ⟨by show 2 ≤ 16777216; decide, by show 2 ≤ 16777216; decide, by show 2 ≤ 16777216; decide, by show 3 ≤ 16777216; decide, ?_⟩
    rw [sq_ap]
    unfold lk1b9
    simp (implicitDefEqProofs := false) only [↓reduceIte, post_bnd, post_ret, a_k, a_v, getV_cons0, getV_cons, a_bin, a_cmp, a_ch, a_neg, a_not, a_and, a_or, a_ite, a_sub, a_slc, a_no, a_so, a_nil', a_cons', a_tup, a_lst, a_nl, a_ndk, a_call, a_call0, a_bi, a_isi, a_app, a_sd, a_tst, a_sk, a_brk, a_cnt, a_bad, a_ex, a_ret, a_retN, a_if, a_asg, a_par2, a_par3, a_set, a_for, a_seq, a_enum, a_rng1, a_rng2, a_lc, a_lc2, a_aug, a_disp, a_op2, a_tsub, a_tin, a_tnin, a_itemsL, v_add, v_sub, v_band, v_neg, v_trB, v_trI, v_trN, v_lt, v_le, v_gt, v_ge, v_eqI, v_neI, v_eqS, v_neS, v_isn, v_isnn, v_int, v_abs, v_lenT, v_lenL, v_tupL, v_lstL, List.set_cons_zero, List.set_cons_succ, List.map_cons, List.map_nil, List.cons_append, List.nil_append, List.replicate_succ, List.replicate_zero, dataOf, Option.map_some, Option.some.injEq, exists_eq_left', List.length_cons, List.length_nil, asOI]
    refine ⟨_, rfl, ?_⟩
    refine due_ok (rs := rs) (b := b) (n := n) rfl hn [(e + 1, 10), (e + 2, 13), (e + 3, 10)] x8 x10 ?_
    cases c8 : chk (rs.drop n) n [(e + 1, 10), (e + 2, 13), (e + 3, 10)] with
    | some z' =>
      rw [c8] at hz
      have hz : z' = z := hz
      subst hz
      exact k1
    | none =>
      rw [c8] at hz
      intro x8 x10
      dsimp only
      rw [sq_ap]
      unfold lk1b10
      simp (implicitDefEqProofs := false) only [↓reduceIte, post_bnd, post_ret, a_k, a_v, getV_cons0, getV_cons, a_bin, a_cmp, a_ch, a_neg, a_not, a_and, a_or, a_ite, a_sub, a_slc, a_no, a_so, a_nil', a_cons', a_tup, a_lst, a_nl, a_ndk, a_call, a_call0, a_bi, a_isi, a_app, a_sd, a_tst, a_sk, a_brk, a_cnt, a_bad, a_ex, a_ret, a_retN, a_if, a_asg, a_par2, a_par3, a_set, a_for, a_seq, a_enum, a_rng1, a_rng2, a_lc, a_lc2, a_aug, a_disp, a_op2, a_tsub, a_tin, a_tnin, a_itemsL, v_add, v_sub, v_band, v_neg, v_trB, v_trI, v_trN, v_lt, v_le, v_gt, v_ge, v_eqI, v_neI, v_eqS, v_neS, v_isn, v_isnn, v_int, v_abs, v_lenT, v_lenL, v_tupL, v_lstL, List.set_cons_zero, List.set_cons_succ, List.map_cons, List.map_nil, List.cons_append, List.nil_append, List.replicate_succ, List.replicate_zero, dataOf, Option.map_some, Option.some.injEq, exists_eq_left', List.length_cons, List.length_nil, asOI, a6, decide_true]
      refine ⟨by show 3 ≤ 16777216; decide, ?_⟩
      have hz : some (.whole b (n + e + 4)) = z := hz
      subst hz
      exact k1
  · rw [if_neg c7] at hz
    simp (implicitDefEqProofs := false) only [↓reduceIte, post_bnd, post_ret, a_k, a_v, getV_cons0, getV_cons, a_bin, a_cmp, a_ch, a_neg, a_not, a_and, a_or, a_ite, a_sub, a_slc, a_no, a_so, a_nil', a_cons', a_tup, a_lst, a_nl, a_ndk, a_call, a_call0, a_bi, a_isi, a_app, a_sd, a_tst, a_sk, a_brk, a_cnt, a_bad, a_ex, a_ret, a_retN, a_if, a_asg, a_par2, a_par3, a_set, a_for, a_seq, a_enum, a_rng1, a_rng2, a_lc, a_lc2, a_aug, a_disp, a_op2, a_tsub, a_tin, a_tnin, a_itemsL, v_add, v_sub, v_band, v_neg, v_trB, v_trI, v_trN, v_lt, v_le, v_gt, v_ge, v_eqI, v_neI, v_eqS, v_neS, v_isn, v_isnn, v_int, v_abs, v_lenT, v_lenL, v_tupL, v_lstL, List.set_cons_zero, List.set_cons_succ, List.map_cons, List.map_nil, List.cons_append, List.nil_append, List.replicate_succ, List.replicate_zero, dataOf, Option.map_some, Option.some.injEq, exists_eq_left', List.length_cons, List.length_nil, asOI, a6, decide_eq_false c7, Bool.false_eq_true]
    have q2 : ((n + e : Nat) : Int) + 2 + (m : Int) = ((n + (e + 2 + m) : Nat) : Int) := by omega
    have q3 : ((n + e : Nat) : Int) + 3 + (m : Int) = ((n + (e + 3 + m) : Nat) : Int) := by omega
    rw [q1, q2, q3]
    refine ⟨by show 2 ≤ 16777216; decide, by show 2 ≤ 16777216; decide, by show 2 ≤ 16777216; decide, by show 3 ≤ 16777216; decide, ?_⟩
    rw [sq_ap]
    unfold lk1b9
    simp (implicitDefEqProofs := false) only [↓reduceIte, post_bnd, post_ret, a_k, a_v, getV_cons0, getV_cons, a_bin, a_cmp, a_ch, a_neg, a_not, a_and, a_or, a_ite, a_sub, a_slc, a_no, a_so, a_nil', a_cons', a_tup, a_lst, a_nl, a_ndk, a_call, a_call0, a_bi, a_isi, a_app, a_sd, a_tst, a_sk, a_brk, a_cnt, a_bad, a_ex, a_ret, a_retN, a_if, a_asg, a_par2, a_par3, a_set, a_for, a_seq, a_enum, a_rng1, a_rng2, a_lc, a_lc2, a_aug, a_disp, a_op2, a_tsub, a_tin, a_tnin, a_itemsL, v_add, v_sub, v_band, v_neg, v_trB, v_trI, v_trN, v_lt, v_le, v_gt, v_ge, v_eqI, v_neI, v_eqS, v_neS, v_isn, v_isnn, v_int, v_abs, v_lenT, v_lenL, v_tupL, v_lstL, List.set_cons_zero, List.set_cons_succ, List.map_cons, List.map_nil, List.cons_append, List.nil_append, List.replicate_succ, List.replicate_zero, dataOf, Option.map_some, Option.some.injEq, exists_eq_left', List.length_cons, List.length_nil, asOI]
    refine ⟨_, rfl, ?_⟩
    refine due_ok (rs := rs) (b := b) (n := n) rfl hn [(e + 1, 10), (e + 2 + m, 13), (e + 3 + m, 10)] x8 x10 ?_
    cases c8 : chk (rs.drop n) n [(e + 1, 10), (e + 2 + m, 13), (e + 3 + m, 10)] with
    | some z' =>
      rw [c8] at hz
      have hz : z' = z := hz
      subst hz
      exact k1
    | none =>
      have hlast := chk_none c8 (e + 3 + m, 10) (by simp)
      rw [hlen] at hlast
      have hlast : e + 3 + m < rs.length - n := hlast
      rw [c8] at hz
      intro x8 x10
      dsimp only
      rw [sq_ap]
      unfold lk1b10
      simp (implicitDefEqProofs := false) only [↓reduceIte, post_bnd, post_ret, a_k, a_v, getV_cons0, getV_cons, a_bin, a_cmp, a_ch, a_neg, a_not, a_and, a_or, a_ite, a_sub, a_slc, a_no, a_so, a_nil', a_cons', a_tup, a_lst, a_nl, a_ndk, a_call, a_call0, a_bi, a_isi, a_app, a_sd, a_tst, a_sk, a_brk, a_cnt, a_bad, a_ex, a_ret, a_retN, a_if, a_asg, a_par2, a_par3, a_set, a_for, a_seq, a_enum, a_rng1, a_rng2, a_lc, a_lc2, a_aug, a_disp, a_op2, a_tsub, a_tin, a_tnin, a_itemsL, v_add, v_sub, v_band, v_neg, v_trB, v_trI, v_trN, v_lt, v_le, v_gt, v_ge, v_eqI, v_neI, v_eqS, v_neS, v_isn, v_isnn, v_int, v_abs, v_lenT, v_lenL, v_tupL, v_lstL, List.set_cons_zero, List.set_cons_succ, List.map_cons, List.map_nil, List.cons_append, List.nil_append, List.replicate_succ, List.replicate_zero, dataOf, Option.map_some, Option.some.injEq, exists_eq_left', List.length_cons, List.length_nil, asOI, a6, decide_eq_false c7, Bool.false_eq_true]
      unfold lk1b11
      simp (implicitDefEqProofs := false) only [↓reduceIte, post_bnd, post_ret, a_k, a_v, getV_cons0, getV_cons, a_bin, a_cmp, a_ch, a_neg, a_not, a_and, a_or, a_ite, a_sub, a_slc, a_no, a_so, a_nil', a_cons', a_tup, a_lst, a_nl, a_ndk, a_call, a_call0, a_bi, a_isi, a_app, a_sd, a_tst, a_sk, a_brk, a_cnt, a_bad, a_ex, a_ret, a_retN, a_if, a_asg, a_par2, a_par3, a_set, a_for, a_seq, a_enum, a_rng1, a_rng2, a_lc, a_lc2, a_aug, a_disp, a_op2, a_tsub, a_tin, a_tnin, a_itemsL, v_add, v_sub, v_band, v_neg, v_trB, v_trI, v_trN, v_lt, v_le, v_gt, v_ge, v_eqI, v_neI, v_eqS, v_neS, v_isn, v_isnn, v_int, v_abs, v_lenT, v_lenL, v_tupL, v_lstL, List.set_cons_zero, List.set_cons_succ, List.map_cons, List.map_nil, List.cons_append, List.nil_append, List.replicate_succ, List.replicate_zero, dataOf, Option.map_some, Option.some.injEq, exists_eq_left', List.length_cons, List.length_nil, asOI]
      have q4 : ((n + e : Nat) : Int) + 2 = ((n + e + 2 : Nat) : Int) := by omega
      have q5 : ((n + e + 2 : Nat) : Int) + (m : Int) = ((n + e + 2 + m : Nat) : Int) := by omega
      have q6 : ((n + e : Nat) : Int) + 4 + (m : Int) = ((n + e + 4 + m : Nat) : Int) := by omega
      rw [q4, q5, q6, v_slT, cutN]
      have htl : ((rs.drop (n + e + 2)).take m).length ≤ m := by rw [List.length_take]; omega
      rw [v_catT (by omega)]
      refine k2 _ _ _ _ _ _ _ _ _ _ (by omega) (by rw [List.length_append]; omega) ?_
      rw [List.drop_drop, List.drop_drop] at hz
      rw [show n + e + 2 = n + (e + 2) by omega, show n + e + 4 + m = n + (e + 4 + m) by omega]
      rw [show n + e + 4 + m = n + (e + 4 + m) by omega] at hz
      have hz : (if m = 0 then _ else _) = z := hz
      rw [if_neg c7] at hz
      exact hz
end
end MP.Q0

namespace MP.Q0
open PySem L2 PySem.Spec PyProof.Rows
section
variable {S : Sto} {q : W → Sto → Prop} {Q : Fl → Sto → Prop} {qb : Bool → Sto → Prop}
variable {rs : List Int}
theorem turns_ok {z : Option Oc} (hl : rs.length ≤ 2000) (k1 : Q (.rt (.d (Oc.D z))) S) (k2 : ∀ ρ', z = none → Q (.nx ρ') S) : ∀ (its : List D) (b : List Int) (n : Nat) (t x5 x6 x7 x8 x9 x10 x11 : Option W), n ≤ rs.length → b.length ≤ 300 → blk its.length b (rs.drop n) n = z →
    post (forM (.nm 4) lk1b its (fr rs b n t x5 x6 x7 x8 x9 x10 x11) S) Q
  | [], b, n, t, x5, x6, x7, x8, x9, x10, x11, hn, hb, hz => by
    rw [for_nil]
    exact k2 _ hz.symm
  | x :: its, b, n, t, x5, x6, x7, x8, x9, x10, x11, hn, hb, hz => by
    rw [for_cons]
    refine ⟨fr rs b n (some (.d x)) x5 x6 x7 x8 x9 x10 x11, rfl, ?_⟩
    rw [List.length_cons] at hz
    refine turn_ok hn hl hb hz k1 fun b' n' t x5 x6 x7 x8 x9 x10 x11 hn' hb' hz' => ?_
    exact turns_ok hl k1 k2 its b' n' t x5 x6 x7 x8 x9 x10 x11 hn' hb' hz'
theorem lc_rng {ρ : Sl} {own : List Nat} {i : Nat} {a : Int} {m : Nat} {q : List D → Sto → Prop} (hx : ∀ x : D, ∃ ρ', bindP (.nm i) (.d x) (wipeW ρ own) = some ρ' ∧ getV ρ' i = ret (.d x)) (k : q ((List.range m).map fun (j : Nat) => .int (a + (j : Int))) S) :
    post (lcM (lcT (.nm i) own yesM (binM .add (kM (.int a)) (vM i)) ρ) ((List.range m).map fun (j : Nat) => .int (j : Int)) S) q := by
  refine lc_map (f := fun d => match d with
    | .int v => .int (a + v)
    | _ => .none) _ ?_ ?_
  · intro x m q h
    obtain ⟨j, hj, rfl⟩ := List.mem_map.mp m
    obtain ⟨ρ', eb, eg⟩ := hx (.int (j : Int))
    unfold lcT
    rw [eb]
    simp (implicitDefEqProofs := false) only [opt_some, bnd_ret, yesM, if_true]
    simp (implicitDefEqProofs := false) only [post_bnd, post_ret, a_k, a_v, getV_cons0, getV_cons, a_bin, a_cmp, a_ch, a_neg, a_not, a_and, a_or, a_ite, a_sub, a_slc, a_no, a_so, a_nil', a_cons', a_tup, a_lst, a_nl, a_ndk, a_call, a_call0, a_bi, a_isi, a_app, a_sd, a_tst, a_sk, a_brk, a_cnt, a_bad, a_ex, a_ret, a_retN, a_if, a_asg, a_par2, a_par3, a_set, a_for, a_seq, a_enum, a_rng1, a_rng2, a_lc, a_lc2, a_aug, a_disp, a_op2, a_tsub, a_tin, a_tnin, a_itemsL, v_add, v_sub, v_band, v_neg, v_trB, v_trI, v_trN, v_lt, v_le, v_gt, v_ge, v_eqI, v_neI, v_eqS, v_neS, v_isn, v_isnn, v_int, v_abs, v_lenT, v_lenL, v_tupL, v_lstL, List.set_cons_zero, List.set_cons_succ, List.map_cons, List.map_nil, List.cons_append, List.nil_append, List.replicate_succ, List.replicate_zero, dataOf, Option.map_some, Option.some.injEq, exists_eq_left', List.length_cons, List.length_nil, asOI, eg, asD]
    exact h
  · rw [List.map_map]
    exact k
theorem lchunks_ok (hl : rs.length ≤ 2000) (k : q (.d (Oc.D (runC ch0 rs 0))) S) : post (m__law_chunks [.d (T rs)] S) q := by
  refine post_fn rfl ?_
  rw [lk_eq]
  unfold lk
  rw [sq_ap]
  unfold lk0
  have hp : ∀ x : D, ∃ ρ', bindP (.nm 11) (.d x) (wipeW [some (.d (T rs)), none, none, none, none, none, none, none, none, none, none, none] [11]) = some ρ' ∧ getV ρ' 11 = ret (.d x) := fun x => ⟨_, rfl, rfl⟩
  simp (implicitDefEqProofs := false) only [post_bnd, post_ret, a_k, a_v, getV_cons0, getV_cons, a_bin, a_cmp, a_ch, a_neg, a_not, a_and, a_or, a_ite, a_sub, a_slc, a_no, a_so, a_nil', a_cons', a_tup, a_lst, a_nl, a_ndk, a_call, a_call0, a_bi, a_isi, a_app, a_sd, a_tst, a_sk, a_brk, a_cnt, a_bad, a_ex, a_ret, a_retN, a_if, a_asg, a_par2, a_par3, a_set, a_for, a_seq, a_enum, a_rng1, a_rng2, a_lc, a_lc2, a_aug, a_disp, a_op2, a_tsub, a_tin, a_tnin, a_itemsL, v_add, v_sub, v_band, v_neg, v_trB, v_trI, v_trN, v_lt, v_le, v_gt, v_ge, v_eqI, v_neI, v_eqS, v_neS, v_isn, v_isnn, v_int, v_abs, v_lenT, v_lenL, v_tupL, v_lstL, List.set_cons_zero, List.set_cons_succ, List.map_cons, List.map_nil, List.cons_append, List.nil_append, List.replicate_succ, List.replicate_zero, dataOf, Option.map_some, Option.some.injEq, exists_eq_left', List.length_cons, List.length_nil, asOI, a_asgT]
  refine ⟨by decide, ?_⟩
  refine ⟨_, items_rng (by decide), ?_⟩
  refine lc_rng (m := 10) hp ⟨by decide, ?_⟩
  refine ⟨_, items_rng (by decide), ?_⟩
  refine lc_rng (m := 6) hp ⟨by decide, ?_⟩
  rw [v_catL (by decide)]
  refine ⟨_, items_rng (by decide), ?_⟩
  refine lc_rng (m := 6) hp ⟨by decide, ?_⟩
  rw [v_catL (by decide)]
  simp (implicitDefEqProofs := false) only [post_bnd, post_ret, a_k, a_v, getV_cons0, getV_cons, a_bin, a_cmp, a_ch, a_neg, a_not, a_and, a_or, a_ite, a_sub, a_slc, a_no, a_so, a_nil', a_cons', a_tup, a_lst, a_nl, a_ndk, a_call, a_call0, a_bi, a_isi, a_app, a_sd, a_tst, a_sk, a_brk, a_cnt, a_bad, a_ex, a_ret, a_retN, a_if, a_asg, a_par2, a_par3, a_set, a_for, a_seq, a_enum, a_rng1, a_rng2, a_lc, a_lc2, a_aug, a_disp, a_op2, a_tsub, a_tin, a_tnin, a_itemsL, v_add, v_sub, v_band, v_neg, v_trB, v_trI, v_trN, v_lt, v_le, v_gt, v_ge, v_eqI, v_neI, v_eqS, v_neS, v_isn, v_isnn, v_int, v_abs, v_lenT, v_lenL, v_tupL, v_lstL, List.set_cons_zero, List.set_cons_succ, List.map_cons, List.map_nil, List.cons_append, List.nil_append, List.replicate_succ, List.replicate_zero, dataOf, Option.map_some, Option.some.injEq, exists_eq_left', List.length_cons, List.length_nil, asOI]
  refine ⟨by decide, [some (.d (T rs)), some (.d (T [])), some (.d (.int (0 : Nat))), some (.d dgD), none, none, none, none, none, none, none, none], rfl, ?_⟩
  rw [sq_ap]
  unfold lk1
  simp (implicitDefEqProofs := false) only [post_bnd, post_ret, a_k, a_v, getV_cons0, getV_cons, a_bin, a_cmp, a_ch, a_neg, a_not, a_and, a_or, a_ite, a_sub, a_slc, a_no, a_so, a_nil', a_cons', a_tup, a_lst, a_nl, a_ndk, a_call, a_call0, a_bi, a_isi, a_app, a_sd, a_tst, a_sk, a_brk, a_cnt, a_bad, a_ex, a_ret, a_retN, a_if, a_asg, a_par2, a_par3, a_set, a_for, a_seq, a_enum, a_rng1, a_rng2, a_lc, a_lc2, a_aug, a_disp, a_op2, a_tsub, a_tin, a_tnin, a_itemsL, v_add, v_sub, v_band, v_neg, v_trB, v_trI, v_trN, v_lt, v_le, v_gt, v_ge, v_eqI, v_neI, v_eqS, v_neS, v_isn, v_isnn, v_int, v_abs, v_lenT, v_lenL, v_tupL, v_lstL, List.set_cons_zero, List.set_cons_succ, List.map_cons, List.map_nil, List.cons_append, List.nil_append, List.replicate_succ, List.replicate_zero, dataOf, Option.map_some, Option.some.injEq, exists_eq_left', List.length_cons, List.length_nil, asOI]
  refine ⟨_, items_rng (by decide), ?_⟩
  have hz := run_blk 302 [] rs 0 (Nat.zero_le _) (by decide) 0
  refine turns_ok (rs := rs) (z := runC ch0 rs 0) hl ?_ ?_ _ [] 0 none none none none none none none none (Nat.zero_le _) (Nat.zero_le _) ?_
  · dsimp only
    rw [leave_same (Nat.le_refl _)]
    exact k
  · intro ρ' e
    dsimp only
    unfold lk2
    simp (implicitDefEqProofs := false) only [post_bnd, post_ret, a_k, a_v, getV_cons0, getV_cons, a_bin, a_cmp, a_ch, a_neg, a_not, a_and, a_or, a_ite, a_sub, a_slc, a_no, a_so, a_nil', a_cons', a_tup, a_lst, a_nl, a_ndk, a_call, a_call0, a_bi, a_isi, a_app, a_sd, a_tst, a_sk, a_brk, a_cnt, a_bad, a_ex, a_ret, a_retN, a_if, a_asg, a_par2, a_par3, a_set, a_for, a_seq, a_enum, a_rng1, a_rng2, a_lc, a_lc2, a_aug, a_disp, a_op2, a_tsub, a_tin, a_tnin, a_itemsL, v_add, v_sub, v_band, v_neg, v_trB, v_trI, v_trN, v_lt, v_le, v_gt, v_ge, v_eqI, v_neI, v_eqS, v_neS, v_isn, v_isnn, v_int, v_abs, v_lenT, v_lenL, v_tupL, v_lstL, List.set_cons_zero, List.set_cons_succ, List.map_cons, List.map_nil, List.cons_append, List.nil_append, List.replicate_succ, List.replicate_zero, dataOf, Option.map_some, Option.some.injEq, exists_eq_left', List.length_cons, List.length_nil, asOI]
    rw [leave_same (Nat.le_refl _)]
    rw [e] at k
    exact k
  · rw [List.length_map, List.length_range]
    exact hz.symm
/-! nothing comes with fewer octets -/
def Oc.at : Oc → Nat
  | .wrong _ n => n
  | .whole _ n => n - 1
theorem run_less : ∀ (c : Ch) (r : List Int) (n : Nat) (z : Oc), runC c r n = some z → n ≤ z.at ∧ z.at < n + r.length ∧ runC c (r.take (z.at - n)) n = none
  | _, [], _, z, h => by cases h
  | c, o :: r, n, z, h => by
    rw [run_cons] at h
    cases hf : flt c o with
    | some k =>
      rw [hf] at h
      cases h
      refine ⟨Nat.le_refl _, by rw [List.length_cons]; show n < _; omega, ?_⟩
      show runC c ((o :: r).take (n - n)) n = none
      rw [Nat.sub_self]; rfl
    | none =>
      rw [hf] at h
      dsimp only at h
      cases hl : c.pl.isLast with
      | true =>
        rw [hl, if_pos rfl] at h
        cases h
        refine ⟨Nat.le_refl _, by rw [List.length_cons]; show n + 1 - 1 < _; omega, ?_⟩
        show runC c ((o :: r).take (n + 1 - 1 - n)) n = none
        rw [Nat.add_sub_cancel, Nat.sub_self]; rfl
      | false =>
        rw [hl, if_neg Bool.false_ne_true] at h
        obtain ⟨h1, h2, h3⟩ := run_less (goC c o) r (n + 1) z h
        refine ⟨by omega, by rw [List.length_cons]; omega, ?_⟩
        rw [show z.at - n = (z.at - (n + 1)) + 1 by omega, List.take_succ_cons, run_cons, hf]
        dsimp only
        rw [hl, if_neg Bool.false_ne_true]
        exact h3
end
end MP.Q0

namespace MP.Q0
open PySem L2 PySem.Spec PyProof.Rows
def cN (k : Nat) : Nat := if k < 10 then 48 + k else 87 + k
def sg (k : Nat) : Str := ⟨#[cN k]⟩
def hexK (n : Nat) : List Nat := if n < 16 then [n] else if n < 256 then [n / 16, n % 16] else [n / 256, n / 16 % 16, n % 16]
def hexI (n : Nat) : List Int := (hexK n).map fun k => (cN k : Int)
theorem hexK_lt {n : Nat} (h : n < 4096) : ∀ k ∈ hexK n, k < 16 := by
  intro k m
  unfold hexK at m
  split at m
  · rw [List.mem_singleton.mp m]; assumption
  · split at m
    · rcases List.mem_cons.mp m with e | m
      · omega
      · rw [List.mem_singleton.mp m]; omega
    · rcases List.mem_cons.mp m with e | m
      · omega
      · rcases List.mem_cons.mp m with e | m
        · omega
        · rw [List.mem_singleton.mp m]; omega
theorem hexK_len (n : Nat) : 1 ≤ (hexK n).length ∧ (hexK n).length ≤ 3 := by
  unfold hexK
  split
  · exact ⟨Nat.le_refl 1, by show 1 ≤ 3; decide⟩
  · split <;> exact ⟨by simp, by simp⟩
abbrev HX : Str := "0123456789abcdef"
theorem hx_at : ∀ k < 16, HX.cps.toList[k]? = some (cN k) := by decide
abbrev r1 : Str := " !\"#$"
abbrev r2 : Str := "&'()*+,-./0123456789:;<=>?@ABCDEFGHIJKLMNOPQRSTUVWXYZ["
abbrev r3 : Str := "]^_`abcdefghijklmnopqrstuvwxyz{|}~"
theorem h_dig : ∀ c < 58, 48 ≤ c → decide (c ∈ r1.cps.toList) = false ∧ decide (c ∈ r2.cps.toList) = true ∧ decide (c ∈ r3.cps.toList) = false ∧ Builtin.Str.occurrences r2 ⟨#[c]⟩ 0 r2.length 1 = [c - 38] := by decide +kernel
theorem h_let : ∀ c < 103, 97 ≤ c → decide (c ∈ r1.cps.toList) = false ∧ decide (c ∈ r2.cps.toList) = false ∧ decide (c ∈ r3.cps.toList) = true ∧ Builtin.Str.occurrences r3 ⟨#[c]⟩ 0 r3.length 1 = [c - 93] := by decide +kernel
section
variable {S : Sto} {q : W → Sto → Prop} {Q : Fl → Sto → Prop}
theorem m16 (n : Nat) : ((n : Int)) % 16 = ((n % 16 : Nat) : Int) := by omega
theorem d16 (n : Nat) : ((n : Int)) / 16 = ((n / 16 : Nat) : Int) := by omega
theorem d256 (n : Nat) : ((n : Int)) / 256 = ((n / 256 : Nat) : Int) := by omega
theorem v_hx {k : Nat} (h : k < 16) : post (subW (.d (.str HX)) (.d (.int (k : Nat))) S) q = q (.d (.str (sg k))) S := v_ixS (by decide) (L2.atI_nat (hx_at k h))
theorem wh4 {c : EM} {b : SM} {ρ : Sl} : post (whM c b ρ S) Q = post (whileM (tst c) b (999996 + 1 + 1 + 1 + 1) ρ S) Q := rfl
theorem cps_sg (k : Nat) : cpsI (sg k) = [(cN k : Int)] := rfl
theorem hex_ok {n : Nat} (hn : n < 4096) (k : ∀ z, cpsI z = hexI n → q (.d (.str z)) S) : post (m_hex_text [.d (.int (n : Nat))] S) q := by
  refine post_fn rfl ?_
  unfold b_hex_text
  rw [sq_ap]
  simp (implicitDefEqProofs := false) only [post_bnd, post_ret, a_k, a_v, getV_cons0, getV_cons, a_bin, a_cmp, a_ch, a_neg, a_not, a_and, a_or, a_ite, a_sub, a_slc, a_no, a_so, a_nil', a_cons', a_tup, a_lst, a_nl, a_ndk, a_call, a_call0, a_bi, a_isi, a_app, a_sd, a_tst, a_sk, a_brk, a_cnt, a_bad, a_ex, a_ret, a_retN, a_if, a_asg, a_par2, a_par3, a_set, a_for, a_seq, a_enum, a_rng1, a_rng2, a_lc, a_lc2, a_aug, a_disp, a_op2, a_tsub, a_tin, a_tnin, a_itemsL, v_add, v_sub, v_band, v_neg, v_trB, v_trI, v_trN, v_lt, v_le, v_gt, v_ge, v_eqI, v_neI, v_eqS, v_neS, v_isn, v_isnn, v_int, v_abs, v_lenT, v_lenL, v_tupL, v_lstL, List.set_cons_zero, List.set_cons_succ, List.map_cons, List.map_nil, List.cons_append, List.nil_append, List.replicate_succ, List.replicate_zero, dataOf, Option.map_some, Option.some.injEq, exists_eq_left', List.length_cons, List.length_nil, asOI]
  rw [v_mod (by decide), m16, v_hx (by omega), v_fdiv (by decide), d16]
  rw [sq_ap, wh4, wh_step]
  simp (implicitDefEqProofs := false) only [post_bnd, post_ret, a_k, a_v, getV_cons0, getV_cons, a_bin, a_cmp, a_ch, a_neg, a_not, a_and, a_or, a_ite, a_sub, a_slc, a_no, a_so, a_nil', a_cons', a_tup, a_lst, a_nl, a_ndk, a_call, a_call0, a_bi, a_isi, a_app, a_sd, a_tst, a_sk, a_brk, a_cnt, a_bad, a_ex, a_ret, a_retN, a_if, a_asg, a_par2, a_par3, a_set, a_for, a_seq, a_enum, a_rng1, a_rng2, a_lc, a_lc2, a_aug, a_disp, a_op2, a_tsub, a_tin, a_tnin, a_itemsL, v_add, v_sub, v_band, v_neg, v_trB, v_trI, v_trN, v_lt, v_le, v_gt, v_ge, v_eqI, v_neI, v_eqS, v_neS, v_isn, v_isnn, v_int, v_abs, v_lenT, v_lenL, v_tupL, v_lstL, List.set_cons_zero, List.set_cons_succ, List.map_cons, List.map_nil, List.cons_append, List.nil_append, List.replicate_succ, List.replicate_zero, dataOf, Option.map_some, Option.some.injEq, exists_eq_left', List.length_cons, List.length_nil, asOI]
  by_cases h1 : n < 16
  · rw [decide_eq_false (by omega)]
    simp (implicitDefEqProofs := false) only [↓reduceIte, Bool.false_eq_true, post_bnd, post_ret, a_k, a_v, getV_cons0, getV_cons, a_bin, a_cmp, a_ch, a_neg, a_not, a_and, a_or, a_ite, a_sub, a_slc, a_no, a_so, a_nil', a_cons', a_tup, a_lst, a_nl, a_ndk, a_call, a_call0, a_bi, a_isi, a_app, a_sd, a_tst, a_sk, a_brk, a_cnt, a_bad, a_ex, a_ret, a_retN, a_if, a_asg, a_par2, a_par3, a_set, a_for, a_seq, a_enum, a_rng1, a_rng2, a_lc, a_lc2, a_aug, a_disp, a_op2, a_tsub, a_tin, a_tnin, a_itemsL, v_add, v_sub, v_band, v_neg, v_trB, v_trI, v_trN, v_lt, v_le, v_gt, v_ge, v_eqI, v_neI, v_eqS, v_neS, v_isn, v_isnn, v_int, v_abs, v_lenT, v_lenL, v_tupL, v_lstL, List.set_cons_zero, List.set_cons_succ, List.map_cons, List.map_nil, List.cons_append, List.nil_append, List.replicate_succ, List.replicate_zero, dataOf, Option.map_some, Option.some.injEq, exists_eq_left', List.length_cons, List.length_nil, asOI]
    rw [leave_same (Nat.le_refl _)]
    refine k _ ?_
    unfold hexI hexK
    rw [if_pos h1, cps_sg, show n % 16 = n by omega]
    rfl
  · rw [decide_eq_true (by omega)]
    simp (implicitDefEqProofs := false) only [↓reduceIte, post_bnd, post_ret, a_k, a_v, getV_cons0, getV_cons, a_bin, a_cmp, a_ch, a_neg, a_not, a_and, a_or, a_ite, a_sub, a_slc, a_no, a_so, a_nil', a_cons', a_tup, a_lst, a_nl, a_ndk, a_call, a_call0, a_bi, a_isi, a_app, a_sd, a_tst, a_sk, a_brk, a_cnt, a_bad, a_ex, a_ret, a_retN, a_if, a_asg, a_par2, a_par3, a_set, a_for, a_seq, a_enum, a_rng1, a_rng2, a_lc, a_lc2, a_aug, a_disp, a_op2, a_tsub, a_tin, a_tnin, a_itemsL, v_add, v_sub, v_band, v_neg, v_trB, v_trI, v_trN, v_lt, v_le, v_gt, v_ge, v_eqI, v_neI, v_eqS, v_neS, v_isn, v_isnn, v_int, v_abs, v_lenT, v_lenL, v_tupL, v_lstL, List.set_cons_zero, List.set_cons_succ, List.map_cons, List.map_nil, List.cons_append, List.nil_append, List.replicate_succ, List.replicate_zero, dataOf, Option.map_some, Option.some.injEq, exists_eq_left', List.length_cons, List.length_nil, asOI]
    rw [v_mod (by decide), m16, v_hx (by omega), v_catS (by show 1 + 1 ≤ 16777216; decide), v_fdiv (by decide), d16]
    rw [wh_step]
    simp (implicitDefEqProofs := false) only [post_bnd, post_ret, a_k, a_v, getV_cons0, getV_cons, a_bin, a_cmp, a_ch, a_neg, a_not, a_and, a_or, a_ite, a_sub, a_slc, a_no, a_so, a_nil', a_cons', a_tup, a_lst, a_nl, a_ndk, a_call, a_call0, a_bi, a_isi, a_app, a_sd, a_tst, a_sk, a_brk, a_cnt, a_bad, a_ex, a_ret, a_retN, a_if, a_asg, a_par2, a_par3, a_set, a_for, a_seq, a_enum, a_rng1, a_rng2, a_lc, a_lc2, a_aug, a_disp, a_op2, a_tsub, a_tin, a_tnin, a_itemsL, v_add, v_sub, v_band, v_neg, v_trB, v_trI, v_trN, v_lt, v_le, v_gt, v_ge, v_eqI, v_neI, v_eqS, v_neS, v_isn, v_isnn, v_int, v_abs, v_lenT, v_lenL, v_tupL, v_lstL, List.set_cons_zero, List.set_cons_succ, List.map_cons, List.map_nil, List.cons_append, List.nil_append, List.replicate_succ, List.replicate_zero, dataOf, Option.map_some, Option.some.injEq, exists_eq_left', List.length_cons, List.length_nil, asOI]
    by_cases h2 : n < 256
    · rw [decide_eq_false (by omega)]
      simp (implicitDefEqProofs := false) only [↓reduceIte, Bool.false_eq_true, post_bnd, post_ret, a_k, a_v, getV_cons0, getV_cons, a_bin, a_cmp, a_ch, a_neg, a_not, a_and, a_or, a_ite, a_sub, a_slc, a_no, a_so, a_nil', a_cons', a_tup, a_lst, a_nl, a_ndk, a_call, a_call0, a_bi, a_isi, a_app, a_sd, a_tst, a_sk, a_brk, a_cnt, a_bad, a_ex, a_ret, a_retN, a_if, a_asg, a_par2, a_par3, a_set, a_for, a_seq, a_enum, a_rng1, a_rng2, a_lc, a_lc2, a_aug, a_disp, a_op2, a_tsub, a_tin, a_tnin, a_itemsL, v_add, v_sub, v_band, v_neg, v_trB, v_trI, v_trN, v_lt, v_le, v_gt, v_ge, v_eqI, v_neI, v_eqS, v_neS, v_isn, v_isnn, v_int, v_abs, v_lenT, v_lenL, v_tupL, v_lstL, List.set_cons_zero, List.set_cons_succ, List.map_cons, List.map_nil, List.cons_append, List.nil_append, List.replicate_succ, List.replicate_zero, dataOf, Option.map_some, Option.some.injEq, exists_eq_left', List.length_cons, List.length_nil, asOI]
      rw [leave_same (Nat.le_refl _)]
      refine k _ ?_
      unfold hexI hexK
      rw [if_neg h1, if_pos h2, cpsI_app, cps_sg, cps_sg, show n / 16 % 16 = n / 16 by omega]
      rfl
    · rw [decide_eq_true (by omega)]
      simp (implicitDefEqProofs := false) only [↓reduceIte, post_bnd, post_ret, a_k, a_v, getV_cons0, getV_cons, a_bin, a_cmp, a_ch, a_neg, a_not, a_and, a_or, a_ite, a_sub, a_slc, a_no, a_so, a_nil', a_cons', a_tup, a_lst, a_nl, a_ndk, a_call, a_call0, a_bi, a_isi, a_app, a_sd, a_tst, a_sk, a_brk, a_cnt, a_bad, a_ex, a_ret, a_retN, a_if, a_asg, a_par2, a_par3, a_set, a_for, a_seq, a_enum, a_rng1, a_rng2, a_lc, a_lc2, a_aug, a_disp, a_op2, a_tsub, a_tin, a_tnin, a_itemsL, v_add, v_sub, v_band, v_neg, v_trB, v_trI, v_trN, v_lt, v_le, v_gt, v_ge, v_eqI, v_neI, v_eqS, v_neS, v_isn, v_isnn, v_int, v_abs, v_lenT, v_lenL, v_tupL, v_lstL, List.set_cons_zero, List.set_cons_succ, List.map_cons, List.map_nil, List.cons_append, List.nil_append, List.replicate_succ, List.replicate_zero, dataOf, Option.map_some, Option.some.injEq, exists_eq_left', List.length_cons, List.length_nil, asOI]
      rw [v_mod (by decide), m16, v_hx (by omega), v_catS (by show 1 + (1 + 1) ≤ 16777216; decide), v_fdiv (by decide), d16]
      rw [wh_step]
      simp (implicitDefEqProofs := false) only [post_bnd, post_ret, a_k, a_v, getV_cons0, getV_cons, a_bin, a_cmp, a_ch, a_neg, a_not, a_and, a_or, a_ite, a_sub, a_slc, a_no, a_so, a_nil', a_cons', a_tup, a_lst, a_nl, a_ndk, a_call, a_call0, a_bi, a_isi, a_app, a_sd, a_tst, a_sk, a_brk, a_cnt, a_bad, a_ex, a_ret, a_retN, a_if, a_asg, a_par2, a_par3, a_set, a_for, a_seq, a_enum, a_rng1, a_rng2, a_lc, a_lc2, a_aug, a_disp, a_op2, a_tsub, a_tin, a_tnin, a_itemsL, v_add, v_sub, v_band, v_neg, v_trB, v_trI, v_trN, v_lt, v_le, v_gt, v_ge, v_eqI, v_neI, v_eqS, v_neS, v_isn, v_isnn, v_int, v_abs, v_lenT, v_lenL, v_tupL, v_lstL, List.set_cons_zero, List.set_cons_succ, List.map_cons, List.map_nil, List.cons_append, List.nil_append, List.replicate_succ, List.replicate_zero, dataOf, Option.map_some, Option.some.injEq, exists_eq_left', List.length_cons, List.length_nil, asOI]
      rw [decide_eq_false (by omega)]
      simp (implicitDefEqProofs := false) only [↓reduceIte, Bool.false_eq_true, post_bnd, post_ret, a_k, a_v, getV_cons0, getV_cons, a_bin, a_cmp, a_ch, a_neg, a_not, a_and, a_or, a_ite, a_sub, a_slc, a_no, a_so, a_nil', a_cons', a_tup, a_lst, a_nl, a_ndk, a_call, a_call0, a_bi, a_isi, a_app, a_sd, a_tst, a_sk, a_brk, a_cnt, a_bad, a_ex, a_ret, a_retN, a_if, a_asg, a_par2, a_par3, a_set, a_for, a_seq, a_enum, a_rng1, a_rng2, a_lc, a_lc2, a_aug, a_disp, a_op2, a_tsub, a_tin, a_tnin, a_itemsL, v_add, v_sub, v_band, v_neg, v_trB, v_trI, v_trN, v_lt, v_le, v_gt, v_ge, v_eqI, v_neI, v_eqS, v_neS, v_isn, v_isnn, v_int, v_abs, v_lenT, v_lenL, v_tupL, v_lstL, List.set_cons_zero, List.set_cons_succ, List.map_cons, List.map_nil, List.cons_append, List.nil_append, List.replicate_succ, List.replicate_zero, dataOf, Option.map_some, Option.some.injEq, exists_eq_left', List.length_cons, List.length_nil, asOI]
      rw [leave_same (Nat.le_refl _)]
      refine k _ ?_
      unfold hexI hexK
      rw [if_neg h1, if_neg h2, cpsI_app, cpsI_app, cps_sg, cps_sg, cps_sg, show n / 16 / 16 % 16 = n / 256 by omega]
      rfl
def ltT : D → M (Option D) := fun x => bad
theorem inS (c : Nat) (z : Str) : inD (.str ⟨#[c]⟩) (.str z) = some (decide (c ∈ z.cps.toList)) := rfl
theorem row_no {c : Nat} {a : Int} {z : Str} {w0 w1 x3 x4 : Option W} {q : Option D → Sto → Prop} (h : decide (c ∈ z.cps.toList) = false) (k : q none S) :
    post (lcT (.tup [3, 4]) [3, 4] (tst (cmpM .inn (vM 2) (vM 4))) (binM .add (vM 3) (meS sIdx (vM 4) (vM 2))) [w0, w1, some (.d (.str ⟨#[c]⟩)), x3, x4] (.tuple [.int a, .str z]) S) q := by
  unfold lcT
  have eb : bindP (.tup [3, 4]) (.d (.tuple [.int a, .str z])) (wipeW [w0, w1, some (.d (.str ⟨#[c]⟩)), x3, x4] [3, 4]) = some [w0, w1, some (.d (.str ⟨#[c]⟩)), some (.d (.int a)), some (.d (.str z))] := rfl
  rw [eb]
  simp (implicitDefEqProofs := false) only [opt_some, bnd_ret, post_bnd, post_ret, a_k, a_v, getV_cons0, getV_cons, a_bin, a_cmp, a_ch, a_neg, a_not, a_and, a_or, a_ite, a_sub, a_slc, a_no, a_so, a_nil', a_cons', a_tup, a_lst, a_nl, a_ndk, a_call, a_call0, a_bi, a_isi, a_app, a_sd, a_tst, a_sk, a_brk, a_cnt, a_bad, a_ex, a_ret, a_retN, a_if, a_asg, a_par2, a_par3, a_set, a_for, a_seq, a_enum, a_rng1, a_rng2, a_lc, a_lc2, a_aug, a_disp, a_op2, a_tsub, a_tin, a_tnin, a_itemsL, v_add, v_sub, v_band, v_neg, v_trB, v_trI, v_trN, v_lt, v_le, v_gt, v_ge, v_eqI, v_neI, v_eqS, v_neS, v_isn, v_isnn, v_int, v_abs, v_lenT, v_lenL, v_tupL, v_lstL, List.set_cons_zero, List.set_cons_succ, List.map_cons, List.map_nil, List.cons_append, List.nil_append, List.replicate_succ, List.replicate_zero, dataOf, Option.map_some, Option.some.injEq, exists_eq_left', List.length_cons, List.length_nil, asOI]
  rw [v_inD (inS c z), h]
  simp (implicitDefEqProofs := false) only [↓reduceIte, Bool.false_eq_true, post_bnd, post_ret, a_k, a_v, getV_cons0, getV_cons, a_bin, a_cmp, a_ch, a_neg, a_not, a_and, a_or, a_ite, a_sub, a_slc, a_no, a_so, a_nil', a_cons', a_tup, a_lst, a_nl, a_ndk, a_call, a_call0, a_bi, a_isi, a_app, a_sd, a_tst, a_sk, a_brk, a_cnt, a_bad, a_ex, a_ret, a_retN, a_if, a_asg, a_par2, a_par3, a_set, a_for, a_seq, a_enum, a_rng1, a_rng2, a_lc, a_lc2, a_aug, a_disp, a_op2, a_tsub, a_tin, a_tnin, a_itemsL, v_add, v_sub, v_band, v_neg, v_trB, v_trI, v_trN, v_lt, v_le, v_gt, v_ge, v_eqI, v_neI, v_eqS, v_neS, v_isn, v_isnn, v_int, v_abs, v_lenT, v_lenL, v_tupL, v_lstL, List.set_cons_zero, List.set_cons_succ, List.map_cons, List.map_nil, List.cons_append, List.nil_append, List.replicate_succ, List.replicate_zero, dataOf, Option.map_some, Option.some.injEq, exists_eq_left', List.length_cons, List.length_nil, asOI]
  exact k
theorem row_yes {c i : Nat} {a : Int} {z : Str} {w0 w1 x3 x4 : Option W} {q : Option D → Sto → Prop} (h : decide (c ∈ z.cps.toList) = true) (ho : Builtin.Str.occurrences z ⟨#[c]⟩ 0 z.length 1 = [i]) (k : q (some (.int (a + (i : Nat)))) S) :
    post (lcT (.tup [3, 4]) [3, 4] (tst (cmpM .inn (vM 2) (vM 4))) (binM .add (vM 3) (meS sIdx (vM 4) (vM 2))) [w0, w1, some (.d (.str ⟨#[c]⟩)), x3, x4] (.tuple [.int a, .str z]) S) q := by
  unfold lcT
  have eb : bindP (.tup [3, 4]) (.d (.tuple [.int a, .str z])) (wipeW [w0, w1, some (.d (.str ⟨#[c]⟩)), x3, x4] [3, 4]) = some [w0, w1, some (.d (.str ⟨#[c]⟩)), some (.d (.int a)), some (.d (.str z))] := rfl
  rw [eb]
  simp (implicitDefEqProofs := false) only [opt_some, bnd_ret, post_bnd, post_ret, a_k, a_v, getV_cons0, getV_cons, a_bin, a_cmp, a_ch, a_neg, a_not, a_and, a_or, a_ite, a_sub, a_slc, a_no, a_so, a_nil', a_cons', a_tup, a_lst, a_nl, a_ndk, a_call, a_call0, a_bi, a_isi, a_app, a_sd, a_tst, a_sk, a_brk, a_cnt, a_bad, a_ex, a_ret, a_retN, a_if, a_asg, a_par2, a_par3, a_set, a_for, a_seq, a_enum, a_rng1, a_rng2, a_lc, a_lc2, a_aug, a_disp, a_op2, a_tsub, a_tin, a_tnin, a_itemsL, v_add, v_sub, v_band, v_neg, v_trB, v_trI, v_trN, v_lt, v_le, v_gt, v_ge, v_eqI, v_neI, v_eqS, v_neS, v_isn, v_isnn, v_int, v_abs, v_lenT, v_lenL, v_tupL, v_lstL, List.set_cons_zero, List.set_cons_succ, List.map_cons, List.map_nil, List.cons_append, List.nil_append, List.replicate_succ, List.replicate_zero, dataOf, Option.map_some, Option.some.injEq, exists_eq_left', List.length_cons, List.length_nil, asOI]
  rw [v_inD (inS c z), h]
  simp (implicitDefEqProofs := false) only [↓reduceIte, Bool.false_eq_true, post_bnd, post_ret, a_k, a_v, getV_cons0, getV_cons, a_bin, a_cmp, a_ch, a_neg, a_not, a_and, a_or, a_ite, a_sub, a_slc, a_no, a_so, a_nil', a_cons', a_tup, a_lst, a_nl, a_ndk, a_call, a_call0, a_bi, a_isi, a_app, a_sd, a_tst, a_sk, a_brk, a_cnt, a_bad, a_ex, a_ret, a_retN, a_if, a_asg, a_par2, a_par3, a_set, a_for, a_seq, a_enum, a_rng1, a_rng2, a_lc, a_lc2, a_aug, a_disp, a_op2, a_tsub, a_tin, a_tnin, a_itemsL, v_add, v_sub, v_band, v_neg, v_trB, v_trI, v_trN, v_lt, v_le, v_gt, v_ge, v_eqI, v_neI, v_eqS, v_neS, v_isn, v_isnn, v_int, v_abs, v_lenT, v_lenL, v_tupL, v_lstL, List.set_cons_zero, List.set_cons_succ, List.map_cons, List.map_nil, List.cons_append, List.nil_append, List.replicate_succ, List.replicate_zero, dataOf, Option.map_some, Option.some.injEq, exists_eq_left', List.length_cons, List.length_nil, asOI, a_meS]
  rw [v_sidx ho]
  simp (implicitDefEqProofs := false) only [post_bnd, post_ret, a_k, a_v, getV_cons0, getV_cons, a_bin, a_cmp, a_ch, a_neg, a_not, a_and, a_or, a_ite, a_sub, a_slc, a_no, a_so, a_nil', a_cons', a_tup, a_lst, a_nl, a_ndk, a_call, a_call0, a_bi, a_isi, a_app, a_sd, a_tst, a_sk, a_brk, a_cnt, a_bad, a_ex, a_ret, a_retN, a_if, a_asg, a_par2, a_par3, a_set, a_for, a_seq, a_enum, a_rng1, a_rng2, a_lc, a_lc2, a_aug, a_disp, a_op2, a_tsub, a_tin, a_tnin, a_itemsL, v_add, v_sub, v_band, v_neg, v_trB, v_trI, v_trN, v_lt, v_le, v_gt, v_ge, v_eqI, v_neI, v_eqS, v_neS, v_isn, v_isnn, v_int, v_abs, v_lenT, v_lenL, v_tupL, v_lstL, List.set_cons_zero, List.set_cons_succ, List.map_cons, List.map_nil, List.cons_append, List.nil_append, List.replicate_succ, List.replicate_zero, dataOf, Option.map_some, Option.some.injEq, exists_eq_left', List.length_cons, List.length_nil, asOI, asD]
  exact k
theorem ltext_ok {z : Str} {ks : List Nat} (hz : z.cps.toList = ks.map cN) (hk : ∀ k ∈ ks, k < 16) (hl : ks.length ≤ 1000) (k : q (.d (T (ks.map fun k => (cN k : Int)))) S) : post (m__law_text [.d (.str z)] S) q := by
  refine post_fn rfl ?_
  unfold b__law_text
  rw [sq_ap]
  simp (implicitDefEqProofs := false) only [post_bnd, post_ret, a_k, a_v, getV_cons0, getV_cons, a_bin, a_cmp, a_ch, a_neg, a_not, a_and, a_or, a_ite, a_sub, a_slc, a_no, a_so, a_nil', a_cons', a_tup, a_lst, a_nl, a_ndk, a_call, a_call0, a_bi, a_isi, a_app, a_sd, a_tst, a_sk, a_brk, a_cnt, a_bad, a_ex, a_ret, a_retN, a_if, a_asg, a_par2, a_par3, a_set, a_for, a_seq, a_enum, a_rng1, a_rng2, a_lc, a_lc2, a_aug, a_disp, a_op2, a_tsub, a_tin, a_tnin, a_itemsL, v_add, v_sub, v_band, v_neg, v_trB, v_trI, v_trN, v_lt, v_le, v_gt, v_ge, v_eqI, v_neI, v_eqS, v_neS, v_isn, v_isnn, v_int, v_abs, v_lenT, v_lenL, v_tupL, v_lstL, List.set_cons_zero, List.set_cons_succ, List.map_cons, List.map_nil, List.cons_append, List.nil_append, List.replicate_succ, List.replicate_zero, dataOf, Option.map_some, Option.some.injEq, exists_eq_left', List.length_cons, List.length_nil, asOI]
  refine ⟨by decide, by decide, by decide, by decide, ?_⟩
  have ei : itemsOf .seq [.d (.str z)] = some ((ks.map cN).map fun c => (.str ⟨#[c]⟩ : D)) := by rw [← hz]; rfl
  refine ⟨_, ei, ?_⟩
  refine lc_map (f := fun d => match d with
    | .str y => (match sign1 y with
      | some c => .int (c : Nat)
      | none => .none)
    | _ => .none) _ ?_ ?_
  · intro x m q h
    obtain ⟨c, hc, rfl⟩ := List.mem_map.mp m
    obtain ⟨j, hj, rfl⟩ := List.mem_map.mp hc
    have hj := hk j hj
    have hr : (48 ≤ cN j ∧ cN j < 58) ∨ (97 ≤ cN j ∧ cN j < 103) := by unfold cN; split <;> omega
    generalize cN j = c at *
    have h : q (some (.int (c : Nat))) S := h
    unfold lcT
    have eb : ∀ rows : Option W, bindP (.nm 2) (.d (.str ⟨#[c]⟩)) (wipeW [some (.d (.str z)), rows, none, none, none] [2]) = some [some (.d (.str z)), rows, some (.d (.str ⟨#[c]⟩)), none, none] := fun _ => rfl
    rw [eb]
    simp (implicitDefEqProofs := false) only [opt_some, bnd_ret, yesM, if_true, post_bnd, post_ret, a_k, a_v, getV_cons0, getV_cons, a_bin, a_cmp, a_ch, a_neg, a_not, a_and, a_or, a_ite, a_sub, a_slc, a_no, a_so, a_nil', a_cons', a_tup, a_lst, a_nl, a_ndk, a_call, a_call0, a_bi, a_isi, a_app, a_sd, a_tst, a_sk, a_brk, a_cnt, a_bad, a_ex, a_ret, a_retN, a_if, a_asg, a_par2, a_par3, a_set, a_for, a_seq, a_enum, a_rng1, a_rng2, a_lc, a_lc2, a_aug, a_disp, a_op2, a_tsub, a_tin, a_tnin, a_itemsL, v_add, v_sub, v_band, v_neg, v_trB, v_trI, v_trN, v_lt, v_le, v_gt, v_ge, v_eqI, v_neI, v_eqS, v_neS, v_isn, v_isnn, v_int, v_abs, v_lenT, v_lenL, v_tupL, v_lstL, List.set_cons_zero, List.set_cons_succ, List.map_cons, List.map_nil, List.cons_append, List.nil_append, List.replicate_succ, List.replicate_zero, dataOf, Option.map_some, Option.some.injEq, exists_eq_left', List.length_cons, List.length_nil, asOI]
    refine ⟨_, rfl, ?_⟩
    have i0 : ∀ (x : D) (l : List D), L2.atI (x :: l) 0 = some x := fun _ _ => L2.atI_nat (j := 0) rfl
    rcases hr with ⟨h1, h2⟩ | ⟨h1, h2⟩
    · obtain ⟨g1, g2, g3, g4⟩ := h_dig c h2 h1
      rw [lc_cons]
      refine row_no g1 ?_
      rw [lc_cons]
      refine row_yes g2 g4 ?_
      rw [lc_cons]
      refine row_no g3 ?_
      rw [lc_nil]
      refine ⟨by show 1 ≤ 16777216; decide, ?_⟩
      rw [v_ixL (i0 _ _)]
      simp (implicitDefEqProofs := false) only [post_bnd, post_ret, a_k, a_v, getV_cons0, getV_cons, a_bin, a_cmp, a_ch, a_neg, a_not, a_and, a_or, a_ite, a_sub, a_slc, a_no, a_so, a_nil', a_cons', a_tup, a_lst, a_nl, a_ndk, a_call, a_call0, a_bi, a_isi, a_app, a_sd, a_tst, a_sk, a_brk, a_cnt, a_bad, a_ex, a_ret, a_retN, a_if, a_asg, a_par2, a_par3, a_set, a_for, a_seq, a_enum, a_rng1, a_rng2, a_lc, a_lc2, a_aug, a_disp, a_op2, a_tsub, a_tin, a_tnin, a_itemsL, v_add, v_sub, v_band, v_neg, v_trB, v_trI, v_trN, v_lt, v_le, v_gt, v_ge, v_eqI, v_neI, v_eqS, v_neS, v_isn, v_isnn, v_int, v_abs, v_lenT, v_lenL, v_tupL, v_lstL, List.set_cons_zero, List.set_cons_succ, List.map_cons, List.map_nil, List.cons_append, List.nil_append, List.replicate_succ, List.replicate_zero, dataOf, Option.map_some, Option.some.injEq, exists_eq_left', List.length_cons, List.length_nil, asOI, asD]
      rw [show (38 : Int) + ((c - 38 : Nat) : Int) = (c : Nat) by omega]
      exact h
    · obtain ⟨g1, g2, g3, g4⟩ := h_let c h2 h1
      rw [lc_cons]
      refine row_no g1 ?_
      rw [lc_cons]
      refine row_no g2 ?_
      rw [lc_cons]
      refine row_yes g3 g4 ?_
      rw [lc_nil]
      refine ⟨by show 1 ≤ 16777216; decide, ?_⟩
      rw [v_ixL (i0 _ _)]
      simp (implicitDefEqProofs := false) only [post_bnd, post_ret, a_k, a_v, getV_cons0, getV_cons, a_bin, a_cmp, a_ch, a_neg, a_not, a_and, a_or, a_ite, a_sub, a_slc, a_no, a_so, a_nil', a_cons', a_tup, a_lst, a_nl, a_ndk, a_call, a_call0, a_bi, a_isi, a_app, a_sd, a_tst, a_sk, a_brk, a_cnt, a_bad, a_ex, a_ret, a_retN, a_if, a_asg, a_par2, a_par3, a_set, a_for, a_seq, a_enum, a_rng1, a_rng2, a_lc, a_lc2, a_aug, a_disp, a_op2, a_tsub, a_tin, a_tnin, a_itemsL, v_add, v_sub, v_band, v_neg, v_trB, v_trI, v_trN, v_lt, v_le, v_gt, v_ge, v_eqI, v_neI, v_eqS, v_neS, v_isn, v_isnn, v_int, v_abs, v_lenT, v_lenL, v_tupL, v_lstL, List.set_cons_zero, List.set_cons_succ, List.map_cons, List.map_nil, List.cons_append, List.nil_append, List.replicate_succ, List.replicate_zero, dataOf, Option.map_some, Option.some.injEq, exists_eq_left', List.length_cons, List.length_nil, asOI, asD]
      rw [show (93 : Int) + ((c - 93 : Nat) : Int) = (c : Nat) by omega]
      exact h
  · refine ⟨by rw [List.length_map, List.length_map, List.length_map]; show _ ≤ 16777216; omega, ?_⟩
    try simp (implicitDefEqProofs := false) only [post_bnd, post_ret, a_k, a_v, getV_cons0, getV_cons, a_bin, a_cmp, a_ch, a_neg, a_not, a_and, a_or, a_ite, a_sub, a_slc, a_no, a_so, a_nil', a_cons', a_tup, a_lst, a_nl, a_ndk, a_call, a_call0, a_bi, a_isi, a_app, a_sd, a_tst, a_sk, a_brk, a_cnt, a_bad, a_ex, a_ret, a_retN, a_if, a_asg, a_par2, a_par3, a_set, a_for, a_seq, a_enum, a_rng1, a_rng2, a_lc, a_lc2, a_aug, a_disp, a_op2, a_tsub, a_tin, a_tnin, a_itemsL, v_add, v_sub, v_band, v_neg, v_trB, v_trI, v_trN, v_lt, v_le, v_gt, v_ge, v_eqI, v_neI, v_eqS, v_neS, v_isn, v_isnn, v_int, v_abs, v_lenT, v_lenL, v_tupL, v_lstL, List.set_cons_zero, List.set_cons_succ, List.map_cons, List.map_nil, List.cons_append, List.nil_append, List.replicate_succ, List.replicate_zero, dataOf, Option.map_some, Option.some.injEq, exists_eq_left', List.length_cons, List.length_nil, asOI]
    rw [leave_same (Nat.le_refl _)]
    have e : T (ks.map fun k => (cN k : Int)) = .tuple ((((ks.map cN).map fun c => (PyData.str ⟨#[c]⟩ : D))).map fun d => match d with
    | .str y => (match sign1 y with
      | some c => .int (c : Nat)
      | none => .none)
    | _ => .none) := by
      show PyData.tuple ((ks.map fun k => (cN k : Int)).map .int) = _
      rw [List.map_map, List.map_map, List.map_map]
      rfl
    rw [e] at k
    exact k
theorem join_sg : ∀ ks : List Nat, 1 ≤ ks.length → ks.length ≤ 3 → (Txt.join ("" : String) (ks.map sg)).cps.toList = ks.map cN
  | [], h, _ => by simp at h
  | [a], _, _ => rfl
  | [a, b], _, _ => rfl
  | [a, b, c], _, _ => rfl
  | _ :: _ :: _ :: _ :: _, _, h => by simp only [List.length_cons] at h; omega
def hxB : SM := retM (callM m__law_text (consM (meS sJoin (kM (.str "")) (lcE (seqI (vM 2)) (.nm 3) [3] (yesM) (subM (vM 1) (vM 3)))) (nilM)))
def gS : D → D
  | .int v => .str (sg v.toNat)
  | _ => .none
theorem hxB_ok {Q : Fl → Sto → Prop} {w0 x3 : Option W} (ks : List Nat) (hk : ∀ k ∈ ks, k < 16) (h1 : 1 ≤ ks.length) (h3 : ks.length ≤ 3) (k : Q (.rt (.d (T (ks.map fun k => (cN k : Int))))) S) :
    post (hxB [w0, some (.d (.str HX)), some (.d (.list (ks.map fun k => .int ((k : Nat) : Int)))), x3] S) Q := by
  unfold hxB
  simp (implicitDefEqProofs := false) only [post_bnd, post_ret, a_k, a_v, getV_cons0, getV_cons, a_bin, a_cmp, a_ch, a_neg, a_not, a_and, a_or, a_ite, a_sub, a_slc, a_no, a_so, a_nil', a_cons', a_tup, a_lst, a_nl, a_ndk, a_call, a_call0, a_bi, a_isi, a_app, a_sd, a_tst, a_sk, a_brk, a_cnt, a_bad, a_ex, a_ret, a_retN, a_if, a_asg, a_par2, a_par3, a_set, a_for, a_seq, a_enum, a_rng1, a_rng2, a_lc, a_lc2, a_aug, a_disp, a_op2, a_tsub, a_tin, a_tnin, a_itemsL, v_add, v_sub, v_band, v_neg, v_trB, v_trI, v_trN, v_lt, v_le, v_gt, v_ge, v_eqI, v_neI, v_eqS, v_neS, v_isn, v_isnn, v_int, v_abs, v_lenT, v_lenL, v_tupL, v_lstL, List.set_cons_zero, List.set_cons_succ, List.map_cons, List.map_nil, List.cons_append, List.nil_append, List.replicate_succ, List.replicate_zero, dataOf, Option.map_some, Option.some.injEq, exists_eq_left', List.length_cons, List.length_nil, asOI, a_meS]
  refine ⟨_, rfl, ?_⟩
  refine lc_map (f := gS) _ ?_ ?_
  · intro x m q h
    obtain ⟨j, hj, rfl⟩ := List.mem_map.mp m
    unfold lcT
    have eb : bindP (.nm 3) (.d (.int ((j : Nat) : Int))) (wipeW [w0, some (.d (.str HX)), some (.d (.list (ks.map fun k => .int ((k : Nat) : Int)))), x3] [3]) = some [w0, some (.d (.str HX)), some (.d (.list (ks.map fun k => .int ((k : Nat) : Int)))), some (.d (.int ((j : Nat) : Int)))] := rfl
    rw [eb]
    simp (implicitDefEqProofs := false) only [opt_some, bnd_ret, yesM, if_true, post_bnd, post_ret, a_k, a_v, getV_cons0, getV_cons, a_bin, a_cmp, a_ch, a_neg, a_not, a_and, a_or, a_ite, a_sub, a_slc, a_no, a_so, a_nil', a_cons', a_tup, a_lst, a_nl, a_ndk, a_call, a_call0, a_bi, a_isi, a_app, a_sd, a_tst, a_sk, a_brk, a_cnt, a_bad, a_ex, a_ret, a_retN, a_if, a_asg, a_par2, a_par3, a_set, a_for, a_seq, a_enum, a_rng1, a_rng2, a_lc, a_lc2, a_aug, a_disp, a_op2, a_tsub, a_tin, a_tnin, a_itemsL, v_add, v_sub, v_band, v_neg, v_trB, v_trI, v_trN, v_lt, v_le, v_gt, v_ge, v_eqI, v_neI, v_eqS, v_neS, v_isn, v_isnn, v_int, v_abs, v_lenT, v_lenL, v_tupL, v_lstL, List.set_cons_zero, List.set_cons_succ, List.map_cons, List.map_nil, List.cons_append, List.nil_append, List.replicate_succ, List.replicate_zero, dataOf, Option.map_some, Option.some.injEq, exists_eq_left', List.length_cons, List.length_nil, asOI]
    rw [v_hx (hk j hj)]
    simp (implicitDefEqProofs := false) only [post_bnd, post_ret, a_k, a_v, getV_cons0, getV_cons, a_bin, a_cmp, a_ch, a_neg, a_not, a_and, a_or, a_ite, a_sub, a_slc, a_no, a_so, a_nil', a_cons', a_tup, a_lst, a_nl, a_ndk, a_call, a_call0, a_bi, a_isi, a_app, a_sd, a_tst, a_sk, a_brk, a_cnt, a_bad, a_ex, a_ret, a_retN, a_if, a_asg, a_par2, a_par3, a_set, a_for, a_seq, a_enum, a_rng1, a_rng2, a_lc, a_lc2, a_aug, a_disp, a_op2, a_tsub, a_tin, a_tnin, a_itemsL, v_add, v_sub, v_band, v_neg, v_trB, v_trI, v_trN, v_lt, v_le, v_gt, v_ge, v_eqI, v_neI, v_eqS, v_neS, v_isn, v_isnn, v_int, v_abs, v_lenT, v_lenL, v_tupL, v_lstL, List.set_cons_zero, List.set_cons_succ, List.map_cons, List.map_nil, List.cons_append, List.nil_append, List.replicate_succ, List.replicate_zero, dataOf, Option.map_some, Option.some.injEq, exists_eq_left', List.length_cons, List.length_nil, asOI, asD]
    exact h
  · refine ⟨by rw [List.length_map, List.length_map]; show _ ≤ 16777216; omega, ?_⟩
    have e : ((ks.map fun k => (.int ((k : Nat) : Int) : D)).map gS) = (ks.map sg).map .str := by
      rw [List.map_map, List.map_map]
      rfl
    rw [e]
    have el : ((ks.map sg).map (·.length)).sum = ks.length := by
      rw [List.map_map]
      clear e k hk h1 h3
      induction ks with
      | nil => rfl
      | cons a r ih => rw [List.map_cons, List.sum_cons, ih, List.length_cons]; show 1 + _ = _; omega
    rw [v_sjoin (by rw [el, List.length_map]; show _ + _ * 0 ≤ _; omega)]
    refine ltext_ok (join_sg ks h1 h3) hk (by omega) k
theorem lhex_eq : b__law_hex = sq (asgM (.nm 1) (kM (.str "0123456789abcdef"))) (sq (asgM (.nm 2) (lstM (consM (binM .fdiv (vM 0) (kM (.int 256))) (consM (binM .mod (biM .int (consM (binM .fdiv (vM 0) (kM (.int 16))) (nilM))) (kM (.int 16))) (consM (binM .mod (biM .int (consM (vM 0) (nilM))) (kM (.int 16))) (nilM)))))) (sq (whM (cmpM .eq (subM (vM 2) (kM (.int 0))) (kM (.int 0))) (asgM (.nm 2) (slcM (vM 2) (soM (kM (.int 1))) (noM)))) hxB)) := rfl
theorem v_slL {xs : List D} {lo hi : Option Int} : post (slcW (.d (.list xs)) lo hi S) q = q (.d (.list (cut xs lo hi))) S := post_some _ _
theorem lhex_ok {n : Nat} (h0 : 1 ≤ n) (hn : n < 4096) (k : q (.d (T (hexI n))) S) : post (m__law_hex [.d (.int (n : Nat))] S) q := by
  refine post_fn rfl ?_
  rw [lhex_eq]
  rw [sq_ap]
  simp (implicitDefEqProofs := false) only [post_bnd, post_ret, a_k, a_v, getV_cons0, getV_cons, a_bin, a_cmp, a_ch, a_neg, a_not, a_and, a_or, a_ite, a_sub, a_slc, a_no, a_so, a_nil', a_cons', a_tup, a_lst, a_nl, a_ndk, a_call, a_call0, a_bi, a_isi, a_app, a_sd, a_tst, a_sk, a_brk, a_cnt, a_bad, a_ex, a_ret, a_retN, a_if, a_asg, a_par2, a_par3, a_set, a_for, a_seq, a_enum, a_rng1, a_rng2, a_lc, a_lc2, a_aug, a_disp, a_op2, a_tsub, a_tin, a_tnin, a_itemsL, v_add, v_sub, v_band, v_neg, v_trB, v_trI, v_trN, v_lt, v_le, v_gt, v_ge, v_eqI, v_neI, v_eqS, v_neS, v_isn, v_isnn, v_int, v_abs, v_lenT, v_lenL, v_tupL, v_lstL, List.set_cons_zero, List.set_cons_succ, List.map_cons, List.map_nil, List.cons_append, List.nil_append, List.replicate_succ, List.replicate_zero, dataOf, Option.map_some, Option.some.injEq, exists_eq_left', List.length_cons, List.length_nil, asOI]
  rw [sq_ap]
  simp (implicitDefEqProofs := false) only [post_bnd, post_ret, a_k, a_v, getV_cons0, getV_cons, a_bin, a_cmp, a_ch, a_neg, a_not, a_and, a_or, a_ite, a_sub, a_slc, a_no, a_so, a_nil', a_cons', a_tup, a_lst, a_nl, a_ndk, a_call, a_call0, a_bi, a_isi, a_app, a_sd, a_tst, a_sk, a_brk, a_cnt, a_bad, a_ex, a_ret, a_retN, a_if, a_asg, a_par2, a_par3, a_set, a_for, a_seq, a_enum, a_rng1, a_rng2, a_lc, a_lc2, a_aug, a_disp, a_op2, a_tsub, a_tin, a_tnin, a_itemsL, v_add, v_sub, v_band, v_neg, v_trB, v_trI, v_trN, v_lt, v_le, v_gt, v_ge, v_eqI, v_neI, v_eqS, v_neS, v_isn, v_isnn, v_int, v_abs, v_lenT, v_lenL, v_tupL, v_lstL, List.set_cons_zero, List.set_cons_succ, List.map_cons, List.map_nil, List.cons_append, List.nil_append, List.replicate_succ, List.replicate_zero, dataOf, Option.map_some, Option.some.injEq, exists_eq_left', List.length_cons, List.length_nil, asOI]
  rw [v_fdiv (by decide), d256, v_fdiv (by decide), d16]
  simp (implicitDefEqProofs := false) only [post_bnd, post_ret, a_k, a_v, getV_cons0, getV_cons, a_bin, a_cmp, a_ch, a_neg, a_not, a_and, a_or, a_ite, a_sub, a_slc, a_no, a_so, a_nil', a_cons', a_tup, a_lst, a_nl, a_ndk, a_call, a_call0, a_bi, a_isi, a_app, a_sd, a_tst, a_sk, a_brk, a_cnt, a_bad, a_ex, a_ret, a_retN, a_if, a_asg, a_par2, a_par3, a_set, a_for, a_seq, a_enum, a_rng1, a_rng2, a_lc, a_lc2, a_aug, a_disp, a_op2, a_tsub, a_tin, a_tnin, a_itemsL, v_add, v_sub, v_band, v_neg, v_trB, v_trI, v_trN, v_lt, v_le, v_gt, v_ge, v_eqI, v_neI, v_eqS, v_neS, v_isn, v_isnn, v_int, v_abs, v_lenT, v_lenL, v_tupL, v_lstL, List.set_cons_zero, List.set_cons_succ, List.map_cons, List.map_nil, List.cons_append, List.nil_append, List.replicate_succ, List.replicate_zero, dataOf, Option.map_some, Option.some.injEq, exists_eq_left', List.length_cons, List.length_nil, asOI]
  rw [v_mod (by decide), m16, v_mod (by decide), m16]
  simp (implicitDefEqProofs := false) only [post_bnd, post_ret, a_k, a_v, getV_cons0, getV_cons, a_bin, a_cmp, a_ch, a_neg, a_not, a_and, a_or, a_ite, a_sub, a_slc, a_no, a_so, a_nil', a_cons', a_tup, a_lst, a_nl, a_ndk, a_call, a_call0, a_bi, a_isi, a_app, a_sd, a_tst, a_sk, a_brk, a_cnt, a_bad, a_ex, a_ret, a_retN, a_if, a_asg, a_par2, a_par3, a_set, a_for, a_seq, a_enum, a_rng1, a_rng2, a_lc, a_lc2, a_aug, a_disp, a_op2, a_tsub, a_tin, a_tnin, a_itemsL, v_add, v_sub, v_band, v_neg, v_trB, v_trI, v_trN, v_lt, v_le, v_gt, v_ge, v_eqI, v_neI, v_eqS, v_neS, v_isn, v_isnn, v_int, v_abs, v_lenT, v_lenL, v_tupL, v_lstL, List.set_cons_zero, List.set_cons_succ, List.map_cons, List.map_nil, List.cons_append, List.nil_append, List.replicate_succ, List.replicate_zero, dataOf, Option.map_some, Option.some.injEq, exists_eq_left', List.length_cons, List.length_nil, asOI]
  have i0 : ∀ (x : D) (l : List D), L2.atI (x :: l) 0 = some x := fun _ _ => L2.atI_nat (j := 0) rfl
  have fin : ∀ ks : List Nat, ks = hexK n → post (hxB [some (.d (.int (n : Nat))), some (.d (.str HX)), some (.d (.list (ks.map fun k => .int ((k : Nat) : Int)))), none] S) (fun f S1 => match f with
    | .nx _ => q (.d .none) (leave S.length (.d .none) S1)
    | .rt w => q w (leave S.length w S1)
    | _ => False) := by
    intro ks e
    subst e
    refine hxB_ok (hexK n) (hexK_lt hn) (hexK_len n).1 (hexK_len n).2 ?_
    dsimp only
    rw [leave_same (Nat.le_refl _)]
    exact k
  refine ⟨by decide, ?_⟩
  rw [sq_ap, wh4, wh_step]
  simp (implicitDefEqProofs := false) only [post_bnd, post_ret, a_k, a_v, getV_cons0, getV_cons, a_bin, a_cmp, a_ch, a_neg, a_not, a_and, a_or, a_ite, a_sub, a_slc, a_no, a_so, a_nil', a_cons', a_tup, a_lst, a_nl, a_ndk, a_call, a_call0, a_bi, a_isi, a_app, a_sd, a_tst, a_sk, a_brk, a_cnt, a_bad, a_ex, a_ret, a_retN, a_if, a_asg, a_par2, a_par3, a_set, a_for, a_seq, a_enum, a_rng1, a_rng2, a_lc, a_lc2, a_aug, a_disp, a_op2, a_tsub, a_tin, a_tnin, a_itemsL, v_add, v_sub, v_band, v_neg, v_trB, v_trI, v_trN, v_lt, v_le, v_gt, v_ge, v_eqI, v_neI, v_eqS, v_neS, v_isn, v_isnn, v_int, v_abs, v_lenT, v_lenL, v_tupL, v_lstL, List.set_cons_zero, List.set_cons_succ, List.map_cons, List.map_nil, List.cons_append, List.nil_append, List.replicate_succ, List.replicate_zero, dataOf, Option.map_some, Option.some.injEq, exists_eq_left', List.length_cons, List.length_nil, asOI]
  rw [v_ixL (i0 _ _)]
  simp (implicitDefEqProofs := false) only [post_bnd, post_ret, a_k, a_v, getV_cons0, getV_cons, a_bin, a_cmp, a_ch, a_neg, a_not, a_and, a_or, a_ite, a_sub, a_slc, a_no, a_so, a_nil', a_cons', a_tup, a_lst, a_nl, a_ndk, a_call, a_call0, a_bi, a_isi, a_app, a_sd, a_tst, a_sk, a_brk, a_cnt, a_bad, a_ex, a_ret, a_retN, a_if, a_asg, a_par2, a_par3, a_set, a_for, a_seq, a_enum, a_rng1, a_rng2, a_lc, a_lc2, a_aug, a_disp, a_op2, a_tsub, a_tin, a_tnin, a_itemsL, v_add, v_sub, v_band, v_neg, v_trB, v_trI, v_trN, v_lt, v_le, v_gt, v_ge, v_eqI, v_neI, v_eqS, v_neS, v_isn, v_isnn, v_int, v_abs, v_lenT, v_lenL, v_tupL, v_lstL, List.set_cons_zero, List.set_cons_succ, List.map_cons, List.map_nil, List.cons_append, List.nil_append, List.replicate_succ, List.replicate_zero, dataOf, Option.map_some, Option.some.injEq, exists_eq_left', List.length_cons, List.length_nil, asOI]
  by_cases h1 : n < 256
  · rw [show n / 256 = 0 by omega]
    simp (implicitDefEqProofs := false) only [post_bnd, post_ret, a_k, a_v, getV_cons0, getV_cons, a_bin, a_cmp, a_ch, a_neg, a_not, a_and, a_or, a_ite, a_sub, a_slc, a_no, a_so, a_nil', a_cons', a_tup, a_lst, a_nl, a_ndk, a_call, a_call0, a_bi, a_isi, a_app, a_sd, a_tst, a_sk, a_brk, a_cnt, a_bad, a_ex, a_ret, a_retN, a_if, a_asg, a_par2, a_par3, a_set, a_for, a_seq, a_enum, a_rng1, a_rng2, a_lc, a_lc2, a_aug, a_disp, a_op2, a_tsub, a_tin, a_tnin, a_itemsL, v_add, v_sub, v_band, v_neg, v_trB, v_trI, v_trN, v_lt, v_le, v_gt, v_ge, v_eqI, v_neI, v_eqS, v_neS, v_isn, v_isnn, v_int, v_abs, v_lenT, v_lenL, v_tupL, v_lstL, List.set_cons_zero, List.set_cons_succ, List.map_cons, List.map_nil, List.cons_append, List.nil_append, List.replicate_succ, List.replicate_zero, dataOf, Option.map_some, Option.some.injEq, exists_eq_left', List.length_cons, List.length_nil, asOI, Int.natCast_zero, beq_self_eq_true, if_true]
    rw [v_slL, cut1, List.tail_cons, wh_step]
    simp (implicitDefEqProofs := false) only [post_bnd, post_ret, a_k, a_v, getV_cons0, getV_cons, a_bin, a_cmp, a_ch, a_neg, a_not, a_and, a_or, a_ite, a_sub, a_slc, a_no, a_so, a_nil', a_cons', a_tup, a_lst, a_nl, a_ndk, a_call, a_call0, a_bi, a_isi, a_app, a_sd, a_tst, a_sk, a_brk, a_cnt, a_bad, a_ex, a_ret, a_retN, a_if, a_asg, a_par2, a_par3, a_set, a_for, a_seq, a_enum, a_rng1, a_rng2, a_lc, a_lc2, a_aug, a_disp, a_op2, a_tsub, a_tin, a_tnin, a_itemsL, v_add, v_sub, v_band, v_neg, v_trB, v_trI, v_trN, v_lt, v_le, v_gt, v_ge, v_eqI, v_neI, v_eqS, v_neS, v_isn, v_isnn, v_int, v_abs, v_lenT, v_lenL, v_tupL, v_lstL, List.set_cons_zero, List.set_cons_succ, List.map_cons, List.map_nil, List.cons_append, List.nil_append, List.replicate_succ, List.replicate_zero, dataOf, Option.map_some, Option.some.injEq, exists_eq_left', List.length_cons, List.length_nil, asOI]
    rw [v_ixL (i0 _ _)]
    simp (implicitDefEqProofs := false) only [post_bnd, post_ret, a_k, a_v, getV_cons0, getV_cons, a_bin, a_cmp, a_ch, a_neg, a_not, a_and, a_or, a_ite, a_sub, a_slc, a_no, a_so, a_nil', a_cons', a_tup, a_lst, a_nl, a_ndk, a_call, a_call0, a_bi, a_isi, a_app, a_sd, a_tst, a_sk, a_brk, a_cnt, a_bad, a_ex, a_ret, a_retN, a_if, a_asg, a_par2, a_par3, a_set, a_for, a_seq, a_enum, a_rng1, a_rng2, a_lc, a_lc2, a_aug, a_disp, a_op2, a_tsub, a_tin, a_tnin, a_itemsL, v_add, v_sub, v_band, v_neg, v_trB, v_trI, v_trN, v_lt, v_le, v_gt, v_ge, v_eqI, v_neI, v_eqS, v_neS, v_isn, v_isnn, v_int, v_abs, v_lenT, v_lenL, v_tupL, v_lstL, List.set_cons_zero, List.set_cons_succ, List.map_cons, List.map_nil, List.cons_append, List.nil_append, List.replicate_succ, List.replicate_zero, dataOf, Option.map_some, Option.some.injEq, exists_eq_left', List.length_cons, List.length_nil, asOI]
    by_cases h2 : n < 16
    · rw [show n / 16 % 16 = 0 by omega]
      simp (implicitDefEqProofs := false) only [post_bnd, post_ret, a_k, a_v, getV_cons0, getV_cons, a_bin, a_cmp, a_ch, a_neg, a_not, a_and, a_or, a_ite, a_sub, a_slc, a_no, a_so, a_nil', a_cons', a_tup, a_lst, a_nl, a_ndk, a_call, a_call0, a_bi, a_isi, a_app, a_sd, a_tst, a_sk, a_brk, a_cnt, a_bad, a_ex, a_ret, a_retN, a_if, a_asg, a_par2, a_par3, a_set, a_for, a_seq, a_enum, a_rng1, a_rng2, a_lc, a_lc2, a_aug, a_disp, a_op2, a_tsub, a_tin, a_tnin, a_itemsL, v_add, v_sub, v_band, v_neg, v_trB, v_trI, v_trN, v_lt, v_le, v_gt, v_ge, v_eqI, v_neI, v_eqS, v_neS, v_isn, v_isnn, v_int, v_abs, v_lenT, v_lenL, v_tupL, v_lstL, List.set_cons_zero, List.set_cons_succ, List.map_cons, List.map_nil, List.cons_append, List.nil_append, List.replicate_succ, List.replicate_zero, dataOf, Option.map_some, Option.some.injEq, exists_eq_left', List.length_cons, List.length_nil, asOI, Int.natCast_zero, beq_self_eq_true, if_true]
      rw [v_slL, cut1, List.tail_cons, wh_step]
      simp (implicitDefEqProofs := false) only [post_bnd, post_ret, a_k, a_v, getV_cons0, getV_cons, a_bin, a_cmp, a_ch, a_neg, a_not, a_and, a_or, a_ite, a_sub, a_slc, a_no, a_so, a_nil', a_cons', a_tup, a_lst, a_nl, a_ndk, a_call, a_call0, a_bi, a_isi, a_app, a_sd, a_tst, a_sk, a_brk, a_cnt, a_bad, a_ex, a_ret, a_retN, a_if, a_asg, a_par2, a_par3, a_set, a_for, a_seq, a_enum, a_rng1, a_rng2, a_lc, a_lc2, a_aug, a_disp, a_op2, a_tsub, a_tin, a_tnin, a_itemsL, v_add, v_sub, v_band, v_neg, v_trB, v_trI, v_trN, v_lt, v_le, v_gt, v_ge, v_eqI, v_neI, v_eqS, v_neS, v_isn, v_isnn, v_int, v_abs, v_lenT, v_lenL, v_tupL, v_lstL, List.set_cons_zero, List.set_cons_succ, List.map_cons, List.map_nil, List.cons_append, List.nil_append, List.replicate_succ, List.replicate_zero, dataOf, Option.map_some, Option.some.injEq, exists_eq_left', List.length_cons, List.length_nil, asOI]
      rw [v_ixL (i0 _ _)]
      simp (implicitDefEqProofs := false) only [post_bnd, post_ret, a_k, a_v, getV_cons0, getV_cons, a_bin, a_cmp, a_ch, a_neg, a_not, a_and, a_or, a_ite, a_sub, a_slc, a_no, a_so, a_nil', a_cons', a_tup, a_lst, a_nl, a_ndk, a_call, a_call0, a_bi, a_isi, a_app, a_sd, a_tst, a_sk, a_brk, a_cnt, a_bad, a_ex, a_ret, a_retN, a_if, a_asg, a_par2, a_par3, a_set, a_for, a_seq, a_enum, a_rng1, a_rng2, a_lc, a_lc2, a_aug, a_disp, a_op2, a_tsub, a_tin, a_tnin, a_itemsL, v_add, v_sub, v_band, v_neg, v_trB, v_trI, v_trN, v_lt, v_le, v_gt, v_ge, v_eqI, v_neI, v_eqS, v_neS, v_isn, v_isnn, v_int, v_abs, v_lenT, v_lenL, v_tupL, v_lstL, List.set_cons_zero, List.set_cons_succ, List.map_cons, List.map_nil, List.cons_append, List.nil_append, List.replicate_succ, List.replicate_zero, dataOf, Option.map_some, Option.some.injEq, exists_eq_left', List.length_cons, List.length_nil, asOI]
      rw [show (((n % 16 : Nat) : Int) == 0) = false from beq_eq_false_iff_ne.mpr (by omega)]
      simp (implicitDefEqProofs := false) only [↓reduceIte, Bool.false_eq_true, post_bnd, post_ret, a_k, a_v, getV_cons0, getV_cons, a_bin, a_cmp, a_ch, a_neg, a_not, a_and, a_or, a_ite, a_sub, a_slc, a_no, a_so, a_nil', a_cons', a_tup, a_lst, a_nl, a_ndk, a_call, a_call0, a_bi, a_isi, a_app, a_sd, a_tst, a_sk, a_brk, a_cnt, a_bad, a_ex, a_ret, a_retN, a_if, a_asg, a_par2, a_par3, a_set, a_for, a_seq, a_enum, a_rng1, a_rng2, a_lc, a_lc2, a_aug, a_disp, a_op2, a_tsub, a_tin, a_tnin, a_itemsL, v_add, v_sub, v_band, v_neg, v_trB, v_trI, v_trN, v_lt, v_le, v_gt, v_ge, v_eqI, v_neI, v_eqS, v_neS, v_isn, v_isnn, v_int, v_abs, v_lenT, v_lenL, v_tupL, v_lstL, List.set_cons_zero, List.set_cons_succ, List.map_cons, List.map_nil, List.cons_append, List.nil_append, List.replicate_succ, List.replicate_zero, dataOf, Option.map_some, Option.some.injEq, exists_eq_left', List.length_cons, List.length_nil, asOI]
      exact fin [n % 16] (by unfold hexK; rw [if_pos h2, show n % 16 = n by omega])
    · rw [show (((n / 16 % 16 : Nat) : Int) == 0) = false from beq_eq_false_iff_ne.mpr (by omega)]
      simp (implicitDefEqProofs := false) only [↓reduceIte, Bool.false_eq_true, post_bnd, post_ret, a_k, a_v, getV_cons0, getV_cons, a_bin, a_cmp, a_ch, a_neg, a_not, a_and, a_or, a_ite, a_sub, a_slc, a_no, a_so, a_nil', a_cons', a_tup, a_lst, a_nl, a_ndk, a_call, a_call0, a_bi, a_isi, a_app, a_sd, a_tst, a_sk, a_brk, a_cnt, a_bad, a_ex, a_ret, a_retN, a_if, a_asg, a_par2, a_par3, a_set, a_for, a_seq, a_enum, a_rng1, a_rng2, a_lc, a_lc2, a_aug, a_disp, a_op2, a_tsub, a_tin, a_tnin, a_itemsL, v_add, v_sub, v_band, v_neg, v_trB, v_trI, v_trN, v_lt, v_le, v_gt, v_ge, v_eqI, v_neI, v_eqS, v_neS, v_isn, v_isnn, v_int, v_abs, v_lenT, v_lenL, v_tupL, v_lstL, List.set_cons_zero, List.set_cons_succ, List.map_cons, List.map_nil, List.cons_append, List.nil_append, List.replicate_succ, List.replicate_zero, dataOf, Option.map_some, Option.some.injEq, exists_eq_left', List.length_cons, List.length_nil, asOI]
      exact fin [n / 16 % 16, n % 16] (by unfold hexK; rw [if_neg h2, if_pos h1, show n / 16 % 16 = n / 16 by omega])
  · rw [show (((n / 256 : Nat) : Int) == 0) = false from beq_eq_false_iff_ne.mpr (by omega)]
    simp (implicitDefEqProofs := false) only [↓reduceIte, Bool.false_eq_true, post_bnd, post_ret, a_k, a_v, getV_cons0, getV_cons, a_bin, a_cmp, a_ch, a_neg, a_not, a_and, a_or, a_ite, a_sub, a_slc, a_no, a_so, a_nil', a_cons', a_tup, a_lst, a_nl, a_ndk, a_call, a_call0, a_bi, a_isi, a_app, a_sd, a_tst, a_sk, a_brk, a_cnt, a_bad, a_ex, a_ret, a_retN, a_if, a_asg, a_par2, a_par3, a_set, a_for, a_seq, a_enum, a_rng1, a_rng2, a_lc, a_lc2, a_aug, a_disp, a_op2, a_tsub, a_tin, a_tnin, a_itemsL, v_add, v_sub, v_band, v_neg, v_trB, v_trI, v_trN, v_lt, v_le, v_gt, v_ge, v_eqI, v_neI, v_eqS, v_neS, v_isn, v_isnn, v_int, v_abs, v_lenT, v_lenL, v_tupL, v_lstL, List.set_cons_zero, List.set_cons_succ, List.map_cons, List.map_nil, List.cons_append, List.nil_append, List.replicate_succ, List.replicate_zero, dataOf, Option.map_some, Option.some.injEq, exists_eq_left', List.length_cons, List.length_nil, asOI]
    exact fin [n / 256, n / 16 % 16, n % 16] (by unfold hexK; rw [if_neg (by omega), if_neg h1])
end
end MP.Q0

namespace MP.Q0
open PySem L2 PySem.Spec PyProof.Rows
def lineI (z : Str) : List Int := cpsI z ++ [13, 10]
def gLn : D → List D
  | .str z => (lineI z).map .int
  | _ => []
theorem e1310 : (PyData.tuple [.int 13, .int 10] : D) = T [13, 10] := rfl
theorem lines_ok {S : Sto} {q : W → Sto → Prop} (zs : List Str) {d : D} (hd : d = .tuple (zs.map .str)) (hz : ∀ z ∈ zs, (cpsI z).length ≤ 500) (hl : (zs.flatMap lineI).length ≤ 100000) (k : q (.d (T (zs.flatMap lineI))) S) : post (m_lines_octets [.d d] S) q := by
  subst hd
  refine post_fn rfl ?_
  unfold b_lines_octets
  simp (maxSteps := 4000000) (implicitDefEqProofs := false) only [post_bnd, post_ret, a_k, a_v, getV_cons0, getV_cons, a_bin, a_cmp, a_ch, a_neg, a_not, a_and, a_or, a_ite, a_sub, a_slc, a_no, a_so, a_nil', a_cons', a_tup, a_lst, a_nl, a_ndk, a_call, a_call0, a_bi, a_isi, a_app, a_sd, a_tst, a_sk, a_brk, a_cnt, a_bad, a_ex, a_ret, a_retN, a_if, a_asg, a_par2, a_par3, a_set, a_for, a_seq, a_enum, a_rng1, a_rng2, a_lc, a_lc2, a_aug, a_disp, a_op2, a_tsub, a_tin, a_tnin, a_itemsL, v_add, v_sub, v_band, v_neg, v_trB, v_trI, v_trN, v_lt, v_le, v_gt, v_ge, v_eqI, v_neI, v_eqS, v_neS, v_isn, v_isnn, v_int, v_abs, v_lenT, v_lenL, v_tupL, v_lstL, List.set_cons_zero, List.set_cons_succ, List.map_cons, List.map_nil, List.cons_append, List.nil_append, List.replicate_succ, List.replicate_zero, dataOf, Option.map_some, Option.some.injEq, exists_eq_left', List.length_cons, List.length_nil, asOI]
  refine ⟨_, rfl, ?_⟩
  refine lc2_map (f := gLn) (zs.map .str) ?_ ?_
  · intro x hx q h
    obtain ⟨z, hz', rfl⟩ := List.mem_map.mp hx
    have hlz := hz z hz'
    unfold lc2T
    have eb : bindP (.nm 1) (.d (.str z)) (wipeW [some (.d (.tuple (zs.map .str))), none, none] [1, 2]) = some [some (.d (.tuple (zs.map .str))), some (.d (.str z)), none] := rfl
    rw [eb]
    simp (implicitDefEqProofs := false) only [opt_some, bnd_ret, yesM, if_true]
    simp (maxSteps := 4000000) (implicitDefEqProofs := false) only [post_bnd, post_ret, a_k, a_v, getV_cons0, getV_cons, a_bin, a_cmp, a_ch, a_neg, a_not, a_and, a_or, a_ite, a_sub, a_slc, a_no, a_so, a_nil', a_cons', a_tup, a_lst, a_nl, a_ndk, a_call, a_call0, a_bi, a_isi, a_app, a_sd, a_tst, a_sk, a_brk, a_cnt, a_bad, a_ex, a_ret, a_retN, a_if, a_asg, a_par2, a_par3, a_set, a_for, a_seq, a_enum, a_rng1, a_rng2, a_lc, a_lc2, a_aug, a_disp, a_op2, a_tsub, a_tin, a_tnin, a_itemsL, v_add, v_sub, v_band, v_neg, v_trB, v_trI, v_trN, v_lt, v_le, v_gt, v_ge, v_eqI, v_neI, v_eqS, v_neS, v_isn, v_isnn, v_int, v_abs, v_lenT, v_lenL, v_tupL, v_lstL, List.set_cons_zero, List.set_cons_succ, List.map_cons, List.map_nil, List.cons_append, List.nil_append, List.replicate_succ, List.replicate_zero, dataOf, Option.map_some, Option.some.injEq, exists_eq_left', List.length_cons, List.length_nil, asOI]
    refine text_ok (by rw [lst_cps]; omega) ?_
    refine ⟨by decide, ?_⟩
    rw [e1310, v_catT (by simp only [List.length_cons, List.length_nil]; omega)]
    refine ⟨_, rfl, ?_⟩
    refine lc_map (f := id) _ ?_ ?_
    · intro y hy q h
      obtain ⟨o, ho, rfl⟩ := List.mem_map.mp hy
      unfold lcT
      have eb : bindP (.nm 2) (.d (.int o)) (wipeW [some (.d (.tuple (zs.map .str))), some (.d (.str z)), none] [2]) = some [some (.d (.tuple (zs.map .str))), some (.d (.str z)), some (.d (.int o))] := rfl
      rw [eb]
      simp (implicitDefEqProofs := false) only [opt_some, bnd_ret, yesM, if_true, a_v, getV_cons0, getV_cons, post_bnd, post_ret, asD]
      exact h
    · rw [List.map_id]
      exact h
  · have e : (zs.map PyData.str).flatMap gLn = (zs.flatMap lineI).map .int := by
      rw [List.flatMap_map, List.map_flatMap]
      rfl
    rw [e]
    refine ⟨by rw [List.length_map]; show _ ≤ 16777216; omega, ?_⟩
    try simp (implicitDefEqProofs := false) only [v_tupL]
    rw [leave_same (Nat.le_refl _)]
    exact k
def cb0 : SM := par2M 2 3 (consM (tupM (nilM)) (consM (vM 0) (nilM)))
def cb1b0 : SM := ifM (cmpM .le (vM 4) (biM .len (consM (vM 3) (nilM)))) (par2M 2 3 (consM (binM .add (vM 2) (callM m_chunk_of (consM (slcM (vM 3) (noM) (soM (vM 4))) (nilM)))) (consM (slcM (vM 3) (soM (vM 4)) (noM)) (nilM)))) (brkM)
def cb1b : SM := cb1b0
def cb1 : SM := foM (.nm 4) (seqI (vM 1)) cb1b
def cb2 : SM := retM (binM .add (binM .add (binM .add (vM 2) (iteM (cmpM .ne (vM 3) (tupM (nilM))) (callM m_chunk_of (consM (vM 3) (nilM))) (tupM (nilM)))) (callM m_text_octets (consM (kM (.str "0")) (nilM)))) (tupM (consM (kM (.int 13)) (consM (kM (.int 10)) (consM (kM (.int 13)) (consM (kM (.int 10)) (nilM)))))))
def cb : SM := sq cb0 (sq cb1 (cb2))
def ld0 : SM := par3M 2 3 4 (consM (tupM (nilM)) (consM (vM 0) (consM (kM (.bool true)) (nilM))))
def ld1b0 : SM := asgM (.nm 6) (iteM (andM (vM 4) (cmpM .le (vM 5) (biM .len (consM (vM 3) (nilM))))) (vM 5) (kM (.int 0)))
def ld1b1 : SM := asgM (.nm 4) (andM (vM 4) (cmpM .le (vM 5) (biM .len (consM (vM 3) (nilM)))))
def ld1b2 : SM := ifM (cmpM .gt (vM 6) (kM (.int 0))) (par2M 2 3 (consM (binM .add (binM .add (binM .add (binM .add (vM 2) (callM m__law_hex (consM (vM 6) (nilM)))) (tupM (consM (kM (.int 13)) (consM (kM (.int 10)) (nilM))))) (slcM (vM 3) (noM) (soM (vM 6)))) (tupM (consM (kM (.int 13)) (consM (kM (.int 10)) (nilM))))) (consM (slcM (vM 3) (soM (vM 6)) (noM)) (nilM)))) (skM)
def ld1b : SM := sq ld1b0 (sq ld1b1 (ld1b2))
def ld1 : SM := foM (.nm 5) (seqI (binM .add (biM .list (consM (vM 1) (nilM))) (lstM (consM (biM .len (consM (vM 0) (nilM))) (nilM))))) ld1b
def ld2 : SM := ifM (cmpM .ne (vM 3) (tupM (nilM))) (asgM (.nm 2) (binM .add (binM .add (binM .add (binM .add (vM 2) (callM m__law_hex (consM (biM .len (consM (vM 3) (nilM))) (nilM)))) (tupM (consM (kM (.int 13)) (consM (kM (.int 10)) (nilM))))) (vM 3)) (tupM (consM (kM (.int 13)) (consM (kM (.int 10)) (nilM)))))) (skM)
def ld3 : SM := retM (binM .add (vM 2) (tupM (consM (kM (.int 48)) (consM (kM (.int 13)) (consM (kM (.int 10)) (consM (kM (.int 13)) (consM (kM (.int 10)) (nilM))))))))
def ld : SM := sq ld0 (sq ld1 (sq ld2 (ld3)))

theorem cb_eq : b_chunks_by = cb := rfl
theorem ld_eq : b__law_due = ld := rfl
def chI (l : List Int) : List Int := hexI l.length ++ [13, 10] ++ l ++ [13, 10]
def byI : List Int → List Nat → List Int
  | left, [] => if left = [] then [] else chI left
  | left, s :: ss => if s ≤ left.length then chI (left.take s) ++ byI (left.drop s) ss else if left = [] then [] else chI left
def duI : Bool → List Int → List Nat → List Int
  | _, left, [] => if left = [] then [] else chI left
  | f, left, s :: ss => if f = true ∧ s ≤ left.length then (if 0 < s then chI (left.take s) ++ duI true (left.drop s) ss else duI true left ss) else duI false left ss
theorem du_false (left : List Int) : ∀ ss, duI false left ss = if left = [] then [] else chI left
  | [] => rfl
  | s :: ss => by
    unfold duI
    rw [if_neg fun z => Bool.false_ne_true z.1, du_false left ss]
theorem du_by {L : Nat} : ∀ (ss : List Nat) (left : List Int), (∀ s ∈ ss, 1 ≤ s) → left.length ≤ L → duI true left (ss ++ [L]) = byI left ss
  | [], left, _, h => by
    show (if true = true ∧ L ≤ left.length then (if 0 < L then chI (left.take L) ++ duI true (left.drop L) [] else duI true left []) else duI false left []) = if left = [] then [] else chI left
    by_cases c : L ≤ left.length
    · rw [if_pos ⟨rfl, c⟩]
      by_cases z : 0 < L
      · rw [if_pos z, List.take_of_length_le (by omega), List.drop_of_length_le (by omega)]
        have ne : left ≠ [] := fun e => by rw [e] at c; simp at c; omega
        rw [if_neg ne]
        show chI left ++ [] = _
        rw [List.append_nil]
      · rw [if_neg z]; rfl
    · rw [if_neg fun z => c z.2]; rfl
  | s :: ss, left, hs, h => by
    have h1 := hs s List.mem_cons_self
    show (if true = true ∧ s ≤ left.length then (if 0 < s then chI (left.take s) ++ duI true (left.drop s) (ss ++ [L]) else duI true left (ss ++ [L])) else duI false left (ss ++ [L])) = if s ≤ left.length then chI (left.take s) ++ byI (left.drop s) ss else if left = [] then [] else chI left
    by_cases c : s ≤ left.length
    · rw [if_pos ⟨rfl, c⟩, if_pos (by omega), if_pos c, du_by ss _ (fun x m => hs x (List.mem_cons_of_mem _ m)) (by rw [List.length_drop]; omega)]
    · rw [if_neg fun z => c z.2, if_neg c, du_false]
theorem hexI_len (n : Nat) : (hexI n).length ≤ 3 := by unfold hexI; rw [List.length_map]; exact (hexK_len n).2
theorem chI_len (l : List Int) : (chI l).length ≤ l.length + 7 := by
  unfold chI
  have := hexI_len l.length
  simp only [List.length_append, List.length_cons, List.length_nil]
  omega
section
variable {S : Sto} {q : W → Sto → Prop} {Q : Fl → Sto → Prop}
theorem v_lstT {xs : List D} : post (b1W .list [.d (.tuple xs)] S) q = q (.d (.list xs)) S := v_b1 (xs := [.tuple xs]) (by decide) (by decide) rfl
theorem chunk_ok {l : List Int} (hl : l.length ≤ 300) (k : q (.d (T (chI l))) S) : post (m_chunk_of [.d (T l)] S) q := by
  refine post_fn rfl ?_
  unfold b_chunk_of
  simp (implicitDefEqProofs := false) only [post_bnd, post_ret, a_k, a_v, getV_cons0, getV_cons, a_bin, a_cmp, a_ch, a_neg, a_not, a_and, a_or, a_ite, a_sub, a_slc, a_no, a_so, a_nil', a_cons', a_tup, a_lst, a_nl, a_ndk, a_call, a_call0, a_bi, a_isi, a_app, a_sd, a_tst, a_sk, a_brk, a_cnt, a_bad, a_ex, a_ret, a_retN, a_if, a_asg, a_par2, a_par3, a_set, a_for, a_seq, a_enum, a_rng1, a_rng2, a_lc, a_lc2, a_aug, a_disp, a_op2, a_tsub, a_tin, a_tnin, a_itemsL, v_add, v_sub, v_band, v_neg, v_trB, v_trI, v_trN, v_lt, v_le, v_gt, v_ge, v_eqI, v_neI, v_eqS, v_neS, v_isn, v_isnn, v_int, v_abs, v_lenT, v_lenL, v_tupL, v_lstL, List.set_cons_zero, List.set_cons_succ, List.map_cons, List.map_nil, List.cons_append, List.nil_append, List.replicate_succ, List.replicate_zero, dataOf, Option.map_some, Option.some.injEq, exists_eq_left', List.length_cons, List.length_nil, asOI, List.length_map]
  refine hex_ok (by omega) fun z hz => ?_
  try simp (implicitDefEqProofs := false) only [post_bnd, post_ret, a_k, a_v, getV_cons0, getV_cons, a_bin, a_cmp, a_ch, a_neg, a_not, a_and, a_or, a_ite, a_sub, a_slc, a_no, a_so, a_nil', a_cons', a_tup, a_lst, a_nl, a_ndk, a_call, a_call0, a_bi, a_isi, a_app, a_sd, a_tst, a_sk, a_brk, a_cnt, a_bad, a_ex, a_ret, a_retN, a_if, a_asg, a_par2, a_par3, a_set, a_for, a_seq, a_enum, a_rng1, a_rng2, a_lc, a_lc2, a_aug, a_disp, a_op2, a_tsub, a_tin, a_tnin, a_itemsL, v_add, v_sub, v_band, v_neg, v_trB, v_trI, v_trN, v_lt, v_le, v_gt, v_ge, v_eqI, v_neI, v_eqS, v_neS, v_isn, v_isnn, v_int, v_abs, v_lenT, v_lenL, v_tupL, v_lstL, List.set_cons_zero, List.set_cons_succ, List.map_cons, List.map_nil, List.cons_append, List.nil_append, List.replicate_succ, List.replicate_zero, dataOf, Option.map_some, Option.some.injEq, exists_eq_left', List.length_cons, List.length_nil, asOI]
  refine ⟨by decide, ?_⟩
  have hx := hexI_len l.length
  have e : [z].flatMap lineI = hexI l.length ++ [13, 10] := by
    show (cpsI z ++ [13, 10]) ++ [] = _
    rw [hz, List.append_nil]
  refine lines_ok [z] rfl (fun y m => by rw [List.mem_singleton.mp m, hz]; omega) (by rw [e, List.length_append]; show _ + 2 ≤ _; omega) ?_
  rw [e]
  try simp (implicitDefEqProofs := false) only [post_bnd, post_ret, a_k, a_v, getV_cons0, getV_cons, a_bin, a_cmp, a_ch, a_neg, a_not, a_and, a_or, a_ite, a_sub, a_slc, a_no, a_so, a_nil', a_cons', a_tup, a_lst, a_nl, a_ndk, a_call, a_call0, a_bi, a_isi, a_app, a_sd, a_tst, a_sk, a_brk, a_cnt, a_bad, a_ex, a_ret, a_retN, a_if, a_asg, a_par2, a_par3, a_set, a_for, a_seq, a_enum, a_rng1, a_rng2, a_lc, a_lc2, a_aug, a_disp, a_op2, a_tsub, a_tin, a_tnin, a_itemsL, v_add, v_sub, v_band, v_neg, v_trB, v_trI, v_trN, v_lt, v_le, v_gt, v_ge, v_eqI, v_neI, v_eqS, v_neS, v_isn, v_isnn, v_int, v_abs, v_lenT, v_lenL, v_tupL, v_lstL, List.set_cons_zero, List.set_cons_succ, List.map_cons, List.map_nil, List.cons_append, List.nil_append, List.replicate_succ, List.replicate_zero, dataOf, Option.map_some, Option.some.injEq, exists_eq_left', List.length_cons, List.length_nil, asOI]
  rw [v_catT (by simp only [List.length_append, List.length_cons, List.length_nil]; omega)]
  refine ⟨by decide, ?_⟩
  rw [e1310, v_catT (by simp only [List.length_append, List.length_cons, List.length_nil]; omega)]
  rw [leave_same (Nat.le_refl _)]
  exact k
theorem cb_loop {w0 w1 : Option W} : ∀ (ss : List Nat) (found left : List Int) (x4 : Option W), left.length ≤ 300 → found.length + 310 * ss.length ≤ 100000 →
    (∀ found' left' x4, found' ++ byI left' [] = found ++ byI left ss → left'.length ≤ 300 → found'.length ≤ 100000 → Q (.nx [w0, w1, some (.d (T found')), some (.d (T left')), x4]) S) →
    post (forM (.nm 4) cb1b (ss.map fun s => .int ((s : Nat) : Int)) [w0, w1, some (.d (T found)), some (.d (T left)), x4] S) Q
  | [], found, left, x4, hl, hb, k => by rw [List.map_nil, for_nil]; exact k _ _ _ rfl hl (by omega)
  | s :: ss, found, left, x4, hl, hb, k => by
    rw [List.map_cons, for_cons]
    refine ⟨[w0, w1, some (.d (T found)), some (.d (T left)), some (.d (.int ((s : Nat) : Int)))], rfl, ?_⟩
    unfold cb1b cb1b0
    simp (implicitDefEqProofs := false) only [↓reduceIte, post_bnd, post_ret, a_k, a_v, getV_cons0, getV_cons, a_bin, a_cmp, a_ch, a_neg, a_not, a_and, a_or, a_ite, a_sub, a_slc, a_no, a_so, a_nil', a_cons', a_tup, a_lst, a_nl, a_ndk, a_call, a_call0, a_bi, a_isi, a_app, a_sd, a_tst, a_sk, a_brk, a_cnt, a_bad, a_ex, a_ret, a_retN, a_if, a_asg, a_par2, a_par3, a_set, a_for, a_seq, a_enum, a_rng1, a_rng2, a_lc, a_lc2, a_aug, a_disp, a_op2, a_tsub, a_tin, a_tnin, a_itemsL, v_add, v_sub, v_band, v_neg, v_trB, v_trI, v_trN, v_lt, v_le, v_gt, v_ge, v_eqI, v_neI, v_eqS, v_neS, v_isn, v_isnn, v_int, v_abs, v_lenT, v_lenL, v_tupL, v_lstL, List.set_cons_zero, List.set_cons_succ, List.map_cons, List.map_nil, List.cons_append, List.nil_append, List.replicate_succ, List.replicate_zero, dataOf, Option.map_some, Option.some.injEq, exists_eq_left', List.length_cons, List.length_nil, asOI, List.length_map]
    rw [List.length_cons] at hb
    by_cases c : s ≤ left.length
    · rw [decide_eq_true (by omega)]
      simp (implicitDefEqProofs := false) only [↓reduceIte, post_bnd, post_ret, a_k, a_v, getV_cons0, getV_cons, a_bin, a_cmp, a_ch, a_neg, a_not, a_and, a_or, a_ite, a_sub, a_slc, a_no, a_so, a_nil', a_cons', a_tup, a_lst, a_nl, a_ndk, a_call, a_call0, a_bi, a_isi, a_app, a_sd, a_tst, a_sk, a_brk, a_cnt, a_bad, a_ex, a_ret, a_retN, a_if, a_asg, a_par2, a_par3, a_set, a_for, a_seq, a_enum, a_rng1, a_rng2, a_lc, a_lc2, a_aug, a_disp, a_op2, a_tsub, a_tin, a_tnin, a_itemsL, v_add, v_sub, v_band, v_neg, v_trB, v_trI, v_trN, v_lt, v_le, v_gt, v_ge, v_eqI, v_neI, v_eqS, v_neS, v_isn, v_isnn, v_int, v_abs, v_lenT, v_lenL, v_tupL, v_lstL, List.set_cons_zero, List.set_cons_succ, List.map_cons, List.map_nil, List.cons_append, List.nil_append, List.replicate_succ, List.replicate_zero, dataOf, Option.map_some, Option.some.injEq, exists_eq_left', List.length_cons, List.length_nil, asOI]
      rw [v_slT, cutTo]
      have ht : (left.take s).length ≤ 300 := by rw [List.length_take]; omega
      refine chunk_ok ht ?_
      have := chI_len (left.take s)
      rw [v_catT (by omega), v_slT, cutFrom]
      refine cb_loop ss _ _ _ (by rw [List.length_drop]; omega) (by rw [List.length_append]; omega) fun found' left' x4 e h1 h2 => k _ _ _ ?_ h1 h2
      rw [e, List.append_assoc]
      show _ = found ++ (if s ≤ left.length then chI (left.take s) ++ byI (left.drop s) ss else if left = [] then [] else chI left)
      rw [if_pos c]
    · rw [decide_eq_false (by omega)]
      simp (implicitDefEqProofs := false) only [↓reduceIte, Bool.false_eq_true, post_bnd, post_ret, a_k, a_v, getV_cons0, getV_cons, a_bin, a_cmp, a_ch, a_neg, a_not, a_and, a_or, a_ite, a_sub, a_slc, a_no, a_so, a_nil', a_cons', a_tup, a_lst, a_nl, a_ndk, a_call, a_call0, a_bi, a_isi, a_app, a_sd, a_tst, a_sk, a_brk, a_cnt, a_bad, a_ex, a_ret, a_retN, a_if, a_asg, a_par2, a_par3, a_set, a_for, a_seq, a_enum, a_rng1, a_rng2, a_lc, a_lc2, a_aug, a_disp, a_op2, a_tsub, a_tin, a_tnin, a_itemsL, v_add, v_sub, v_band, v_neg, v_trB, v_trI, v_trN, v_lt, v_le, v_gt, v_ge, v_eqI, v_neI, v_eqS, v_neS, v_isn, v_isnn, v_int, v_abs, v_lenT, v_lenL, v_tupL, v_lstL, List.set_cons_zero, List.set_cons_succ, List.map_cons, List.map_nil, List.cons_append, List.nil_append, List.replicate_succ, List.replicate_zero, dataOf, Option.map_some, Option.some.injEq, exists_eq_left', List.length_cons, List.length_nil, asOI]
      refine k _ _ _ ?_ hl (by omega)
      show found ++ (if left = [] then [] else chI left) = found ++ (if s ≤ left.length then chI (left.take s) ++ byI (left.drop s) ss else if left = [] then [] else chI left)
      rw [if_neg c]
def endI : List Int := [48, 13, 10, 13, 10]
theorem e_4 : (PyData.tuple [.int 13, .int 10, .int 13, .int 10] : D) = T [13, 10, 13, 10] := rfl
theorem by_ok {body : List Int} {ss : List Nat} {d : D} (hd : d = .tuple (ss.map fun s => .int ((s : Nat) : Int))) (hl : body.length ≤ 300) (hs : ss.length ≤ 300) (k : q (.d (T (byI body ss ++ endI))) S) : post (m_chunks_by [.d (T body), .d d] S) q := by
  subst hd
  refine post_fn rfl ?_
  rw [cb_eq]
  unfold cb
  rw [sq_ap]
  unfold cb0
  simp (implicitDefEqProofs := false) only [post_bnd, post_ret, a_k, a_v, getV_cons0, getV_cons, a_bin, a_cmp, a_ch, a_neg, a_not, a_and, a_or, a_ite, a_sub, a_slc, a_no, a_so, a_nil', a_cons', a_tup, a_lst, a_nl, a_ndk, a_call, a_call0, a_bi, a_isi, a_app, a_sd, a_tst, a_sk, a_brk, a_cnt, a_bad, a_ex, a_ret, a_retN, a_if, a_asg, a_par2, a_par3, a_set, a_for, a_seq, a_enum, a_rng1, a_rng2, a_lc, a_lc2, a_aug, a_disp, a_op2, a_tsub, a_tin, a_tnin, a_itemsL, v_add, v_sub, v_band, v_neg, v_trB, v_trI, v_trN, v_lt, v_le, v_gt, v_ge, v_eqI, v_neI, v_eqS, v_neS, v_isn, v_isnn, v_int, v_abs, v_lenT, v_lenL, v_tupL, v_lstL, List.set_cons_zero, List.set_cons_succ, List.map_cons, List.map_nil, List.cons_append, List.nil_append, List.replicate_succ, List.replicate_zero, dataOf, Option.map_some, Option.some.injEq, exists_eq_left', List.length_cons, List.length_nil, asOI]
  refine ⟨by decide, ?_⟩
  rw [sq_ap]
  unfold cb1
  simp (implicitDefEqProofs := false) only [post_bnd, post_ret, a_k, a_v, getV_cons0, getV_cons, a_bin, a_cmp, a_ch, a_neg, a_not, a_and, a_or, a_ite, a_sub, a_slc, a_no, a_so, a_nil', a_cons', a_tup, a_lst, a_nl, a_ndk, a_call, a_call0, a_bi, a_isi, a_app, a_sd, a_tst, a_sk, a_brk, a_cnt, a_bad, a_ex, a_ret, a_retN, a_if, a_asg, a_par2, a_par3, a_set, a_for, a_seq, a_enum, a_rng1, a_rng2, a_lc, a_lc2, a_aug, a_disp, a_op2, a_tsub, a_tin, a_tnin, a_itemsL, v_add, v_sub, v_band, v_neg, v_trB, v_trI, v_trN, v_lt, v_le, v_gt, v_ge, v_eqI, v_neI, v_eqS, v_neS, v_isn, v_isnn, v_int, v_abs, v_lenT, v_lenL, v_tupL, v_lstL, List.set_cons_zero, List.set_cons_succ, List.map_cons, List.map_nil, List.cons_append, List.nil_append, List.replicate_succ, List.replicate_zero, dataOf, Option.map_some, Option.some.injEq, exists_eq_left', List.length_cons, List.length_nil, asOI]
  refine ⟨_, rfl, ?_⟩
  refine cb_loop ss [] body _ hl (by show 0 + _ ≤ _; omega) fun found' left' x4 e h1 h2 => ?_
  rw [List.nil_append] at e
  unfold cb2
  rw [← e] at k
  simp (implicitDefEqProofs := false) only [post_bnd, post_ret, a_k, a_v, getV_cons0, getV_cons, a_bin, a_cmp, a_ch, a_neg, a_not, a_and, a_or, a_ite, a_sub, a_slc, a_no, a_so, a_nil', a_cons', a_tup, a_lst, a_nl, a_ndk, a_call, a_call0, a_bi, a_isi, a_app, a_sd, a_tst, a_sk, a_brk, a_cnt, a_bad, a_ex, a_ret, a_retN, a_if, a_asg, a_par2, a_par3, a_set, a_for, a_seq, a_enum, a_rng1, a_rng2, a_lc, a_lc2, a_aug, a_disp, a_op2, a_tsub, a_tin, a_tnin, a_itemsL, v_add, v_sub, v_band, v_neg, v_trB, v_trI, v_trN, v_lt, v_le, v_gt, v_ge, v_eqI, v_neI, v_eqS, v_neS, v_isn, v_isnn, v_int, v_abs, v_lenT, v_lenL, v_tupL, v_lstL, List.set_cons_zero, List.set_cons_succ, List.map_cons, List.map_nil, List.cons_append, List.nil_append, List.replicate_succ, List.replicate_zero, dataOf, Option.map_some, Option.some.injEq, exists_eq_left', List.length_cons, List.length_nil, asOI, v_neT0]
  refine ⟨by decide, ?_⟩
  have h0 : cpsI ("0" : String) = [48] := by decide
  by_cases c : left' = []
  · subst c
    rw [decide_eq_true rfl]
    simp (implicitDefEqProofs := false) only [↓reduceIte, Bool.not_true, Bool.false_eq_true, post_bnd, post_ret, a_k, a_v, getV_cons0, getV_cons, a_bin, a_cmp, a_ch, a_neg, a_not, a_and, a_or, a_ite, a_sub, a_slc, a_no, a_so, a_nil', a_cons', a_tup, a_lst, a_nl, a_ndk, a_call, a_call0, a_bi, a_isi, a_app, a_sd, a_tst, a_sk, a_brk, a_cnt, a_bad, a_ex, a_ret, a_retN, a_if, a_asg, a_par2, a_par3, a_set, a_for, a_seq, a_enum, a_rng1, a_rng2, a_lc, a_lc2, a_aug, a_disp, a_op2, a_tsub, a_tin, a_tnin, a_itemsL, v_add, v_sub, v_band, v_neg, v_trB, v_trI, v_trN, v_lt, v_le, v_gt, v_ge, v_eqI, v_neI, v_eqS, v_neS, v_isn, v_isnn, v_int, v_abs, v_lenT, v_lenL, v_tupL, v_lstL, List.set_cons_zero, List.set_cons_succ, List.map_cons, List.map_nil, List.cons_append, List.nil_append, List.replicate_succ, List.replicate_zero, dataOf, Option.map_some, Option.some.injEq, exists_eq_left', List.length_cons, List.length_nil, asOI]
    refine ⟨by decide, ?_⟩
    rw [show (PyData.tuple [] : D) = T [] from rfl, v_catT (by simp only [List.length_nil]; omega)]
    refine text_ok (by decide) ?_
    rw [h0, v_catT (by simp only [List.length_append, List.length_nil, List.length_cons]; omega)]
    refine ⟨by decide, ?_⟩
    rw [e_4, v_catT (by simp only [List.length_append, List.length_nil, List.length_cons]; omega)]
    rw [leave_same (Nat.le_refl _)]
    simp only [List.append_assoc] at k ⊢
    exact k
  · rw [decide_eq_false c]
    simp (implicitDefEqProofs := false) only [↓reduceIte, Bool.not_false, post_bnd, post_ret, a_k, a_v, getV_cons0, getV_cons, a_bin, a_cmp, a_ch, a_neg, a_not, a_and, a_or, a_ite, a_sub, a_slc, a_no, a_so, a_nil', a_cons', a_tup, a_lst, a_nl, a_ndk, a_call, a_call0, a_bi, a_isi, a_app, a_sd, a_tst, a_sk, a_brk, a_cnt, a_bad, a_ex, a_ret, a_retN, a_if, a_asg, a_par2, a_par3, a_set, a_for, a_seq, a_enum, a_rng1, a_rng2, a_lc, a_lc2, a_aug, a_disp, a_op2, a_tsub, a_tin, a_tnin, a_itemsL, v_add, v_sub, v_band, v_neg, v_trB, v_trI, v_trN, v_lt, v_le, v_gt, v_ge, v_eqI, v_neI, v_eqS, v_neS, v_isn, v_isnn, v_int, v_abs, v_lenT, v_lenL, v_tupL, v_lstL, List.set_cons_zero, List.set_cons_succ, List.map_cons, List.map_nil, List.cons_append, List.nil_append, List.replicate_succ, List.replicate_zero, dataOf, Option.map_some, Option.some.injEq, exists_eq_left', List.length_cons, List.length_nil, asOI]
    refine chunk_ok h1 ?_
    have := chI_len left'
    rw [v_catT (by omega)]
    refine text_ok (by decide) ?_
    rw [h0, v_catT (by simp only [List.length_append, List.length_nil, List.length_cons]; omega)]
    refine ⟨by decide, ?_⟩
    rw [e_4, v_catT (by simp only [List.length_append, List.length_nil, List.length_cons]; omega)]
    rw [leave_same (Nat.le_refl _)]
    have eb : byI left' [] = chI left' := if_neg c
    rw [eb] at k
    simp only [List.append_assoc] at k ⊢
    exact k
theorem sizes_ok {ss : List Nat} (hs : ∀ s ∈ ss, 1 ≤ s ∧ s ≤ 300) (hl : ss.length ≤ 300) (k : q (.d .none) S) : post (m_need_sizes [.d (.tuple (ss.map fun s => .int ((s : Nat) : Int)))] S) q := by
  refine post_fn rfl ?_
  unfold b_need_sizes
  have ed : (PyData.tuple (ss.map fun s => .int ((s : Nat) : Int)) : D) = T (ss.map fun s => ((s : Nat) : Int)) := by
    show _ = PyData.tuple ((ss.map fun s => ((s : Nat) : Int)).map .int)
    rw [List.map_map]; rfl
  rw [ed]
  simp (implicitDefEqProofs := false) only [post_bnd, post_ret, a_k, a_v, getV_cons0, getV_cons, a_bin, a_cmp, a_ch, a_neg, a_not, a_and, a_or, a_ite, a_sub, a_slc, a_no, a_so, a_nil', a_cons', a_tup, a_lst, a_nl, a_ndk, a_call, a_call0, a_bi, a_isi, a_app, a_sd, a_tst, a_sk, a_brk, a_cnt, a_bad, a_ex, a_ret, a_retN, a_if, a_asg, a_par2, a_par3, a_set, a_for, a_seq, a_enum, a_rng1, a_rng2, a_lc, a_lc2, a_aug, a_disp, a_op2, a_tsub, a_tin, a_tnin, a_itemsL, v_add, v_sub, v_band, v_neg, v_trB, v_trI, v_trN, v_lt, v_le, v_gt, v_ge, v_eqI, v_neI, v_eqS, v_neS, v_isn, v_isnn, v_int, v_abs, v_lenT, v_lenL, v_tupL, v_lstL, List.set_cons_zero, List.set_cons_succ, List.map_cons, List.map_nil, List.cons_append, List.nil_append, List.replicate_succ, List.replicate_zero, dataOf, Option.map_some, Option.some.injEq, exists_eq_left', List.length_cons, List.length_nil, asOI]
  refine tup_of ⟨by omega, by rw [List.length_map]; omega⟩ ?_
  simp (implicitDefEqProofs := false) only [↓reduceIte, Bool.not_true, Bool.false_eq_true, post_bnd, post_ret, a_k, a_v, getV_cons0, getV_cons, a_bin, a_cmp, a_ch, a_neg, a_not, a_and, a_or, a_ite, a_sub, a_slc, a_no, a_so, a_nil', a_cons', a_tup, a_lst, a_nl, a_ndk, a_call, a_call0, a_bi, a_isi, a_app, a_sd, a_tst, a_sk, a_brk, a_cnt, a_bad, a_ex, a_ret, a_retN, a_if, a_asg, a_par2, a_par3, a_set, a_for, a_seq, a_enum, a_rng1, a_rng2, a_lc, a_lc2, a_aug, a_disp, a_op2, a_tsub, a_tin, a_tnin, a_itemsL, v_add, v_sub, v_band, v_neg, v_trB, v_trI, v_trN, v_lt, v_le, v_gt, v_ge, v_eqI, v_neI, v_eqS, v_neS, v_isn, v_isnn, v_int, v_abs, v_lenT, v_lenL, v_tupL, v_lstL, List.set_cons_zero, List.set_cons_succ, List.map_cons, List.map_nil, List.cons_append, List.nil_append, List.replicate_succ, List.replicate_zero, dataOf, Option.map_some, Option.some.injEq, exists_eq_left', List.length_cons, List.length_nil, asOI]
  refine ⟨_, rfl, ?_⟩
  refine lc_map (f := fun _ => .bool true) _ ?_ ?_
  · intro x hx q h
    obtain ⟨o, ho, rfl⟩ := List.mem_map.mp hx
    obtain ⟨s, hs', rfl⟩ := List.mem_map.mp ho
    have := hs s hs'
    unfold lcT
    have eb : bindP (.nm 1) (.d (.int ((s : Nat) : Int))) (wipeW [some (.d (T (ss.map fun s => ((s : Nat) : Int)))), none] [1]) = some [some (.d (T (ss.map fun s => ((s : Nat) : Int)))), some (.d (.int ((s : Nat) : Int)))] := rfl
    rw [eb]
    simp (implicitDefEqProofs := false) only [opt_some, bnd_ret, yesM, if_true]
    simp (maxSteps := 4000000) (implicitDefEqProofs := false) only [post_bnd, post_ret, a_k, a_v, getV_cons0, getV_cons, a_bin, a_cmp, a_ch, a_neg, a_not, a_and, a_or, a_ite, a_sub, a_slc, a_no, a_so, a_nil', a_cons', a_tup, a_lst, a_nl, a_ndk, a_call, a_call0, a_bi, a_isi, a_app, a_sd, a_tst, a_sk, a_brk, a_cnt, a_bad, a_ex, a_ret, a_retN, a_if, a_asg, a_par2, a_par3, a_set, a_for, a_seq, a_enum, a_rng1, a_rng2, a_lc, a_lc2, a_aug, a_disp, a_op2, a_tsub, a_tin, a_tnin, a_itemsL, v_add, v_sub, v_band, v_neg, v_trB, v_trI, v_trN, v_lt, v_le, v_gt, v_ge, v_eqI, v_neI, v_eqS, v_neS, v_isn, v_isnn, v_int, v_abs, v_lenT, v_lenL, v_tupL, v_lstL, List.set_cons_zero, List.set_cons_succ, List.map_cons, List.map_nil, List.cons_append, List.nil_append, List.replicate_succ, List.replicate_zero, dataOf, Option.map_some, Option.some.injEq, exists_eq_left', List.length_cons, List.length_nil, asOI]
    refine isw_ok ⟨by omega, by omega⟩ ?_
    simp (implicitDefEqProofs := false) only [asD, post_ret]
    exact h
  · refine ⟨by rw [List.length_map, List.length_map, List.length_map]; show _ ≤ 16777216; omega, ?_⟩
    generalize ss.map (fun s => ((s : Nat) : Int)) = xs
    have e : ((xs.map PyData.int).map fun _ => (PyData.bool true : D)) = xs.map fun x => (PyData.bool ((fun _ => true) x) : D) := by rw [List.map_map]; rfl
    rw [e, v_all]
    rw [show xs.all (fun _ => true) = true from List.all_eq_true.mpr fun _ _ => rfl]
    simp (implicitDefEqProofs := false) only [↓reduceIte, Bool.not_true, Bool.false_eq_true, post_bnd, post_ret, a_k, a_v, getV_cons0, getV_cons, a_bin, a_cmp, a_ch, a_neg, a_not, a_and, a_or, a_ite, a_sub, a_slc, a_no, a_so, a_nil', a_cons', a_tup, a_lst, a_nl, a_ndk, a_call, a_call0, a_bi, a_isi, a_app, a_sd, a_tst, a_sk, a_brk, a_cnt, a_bad, a_ex, a_ret, a_retN, a_if, a_asg, a_par2, a_par3, a_set, a_for, a_seq, a_enum, a_rng1, a_rng2, a_lc, a_lc2, a_aug, a_disp, a_op2, a_tsub, a_tin, a_tnin, a_itemsL, v_add, v_sub, v_band, v_neg, v_trB, v_trI, v_trN, v_lt, v_le, v_gt, v_ge, v_eqI, v_neI, v_eqS, v_neS, v_isn, v_isnn, v_int, v_abs, v_lenT, v_lenL, v_tupL, v_lstL, List.set_cons_zero, List.set_cons_succ, List.map_cons, List.map_nil, List.cons_append, List.nil_append, List.replicate_succ, List.replicate_zero, dataOf, Option.map_some, Option.some.injEq, exists_eq_left', List.length_cons, List.length_nil, asOI]
    rw [leave_same (Nat.le_refl _)]
    exact k
theorem of_ok {body : List Int} {ss : List Nat} {d : D} (hd : d = .tuple (ss.map fun s => .int ((s : Nat) : Int))) (ho : oct body) (hl : body.length ≤ 300) (hs : ∀ s ∈ ss, 1 ≤ s ∧ s ≤ 300) (hsl : ss.length ≤ 300) (k : q (.d (T (byI body ss ++ endI))) S) : post (m_chunks_of [.d (T body), .d d] S) q := by
  refine post_fn rfl ?_
  unfold b_chunks_of
  rw [sq_ap]
  simp (implicitDefEqProofs := false) only [post_bnd, post_ret, a_k, a_v, getV_cons0, getV_cons, a_bin, a_cmp, a_ch, a_neg, a_not, a_and, a_or, a_ite, a_sub, a_slc, a_no, a_so, a_nil', a_cons', a_tup, a_lst, a_nl, a_ndk, a_call, a_call0, a_bi, a_isi, a_app, a_sd, a_tst, a_sk, a_brk, a_cnt, a_bad, a_ex, a_ret, a_retN, a_if, a_asg, a_par2, a_par3, a_set, a_for, a_seq, a_enum, a_rng1, a_rng2, a_lc, a_lc2, a_aug, a_disp, a_op2, a_tsub, a_tin, a_tnin, a_itemsL, v_add, v_sub, v_band, v_neg, v_trB, v_trI, v_trN, v_lt, v_le, v_gt, v_ge, v_eqI, v_neI, v_eqS, v_neS, v_isn, v_isnn, v_int, v_abs, v_lenT, v_lenL, v_tupL, v_lstL, List.set_cons_zero, List.set_cons_succ, List.map_cons, List.map_nil, List.cons_append, List.nil_append, List.replicate_succ, List.replicate_zero, dataOf, Option.map_some, Option.some.injEq, exists_eq_left', List.length_cons, List.length_nil, asOI]
  refine need_ok ho ⟨by omega, by omega⟩ (by omega) ?_
  rw [sq_ap]
  try simp (implicitDefEqProofs := false) only [post_bnd, post_ret, a_k, a_v, getV_cons0, getV_cons, a_bin, a_cmp, a_ch, a_neg, a_not, a_and, a_or, a_ite, a_sub, a_slc, a_no, a_so, a_nil', a_cons', a_tup, a_lst, a_nl, a_ndk, a_call, a_call0, a_bi, a_isi, a_app, a_sd, a_tst, a_sk, a_brk, a_cnt, a_bad, a_ex, a_ret, a_retN, a_if, a_asg, a_par2, a_par3, a_set, a_for, a_seq, a_enum, a_rng1, a_rng2, a_lc, a_lc2, a_aug, a_disp, a_op2, a_tsub, a_tin, a_tnin, a_itemsL, v_add, v_sub, v_band, v_neg, v_trB, v_trI, v_trN, v_lt, v_le, v_gt, v_ge, v_eqI, v_neI, v_eqS, v_neS, v_isn, v_isnn, v_int, v_abs, v_lenT, v_lenL, v_tupL, v_lstL, List.set_cons_zero, List.set_cons_succ, List.map_cons, List.map_nil, List.cons_append, List.nil_append, List.replicate_succ, List.replicate_zero, dataOf, Option.map_some, Option.some.injEq, exists_eq_left', List.length_cons, List.length_nil, asOI]
  subst hd
  refine sizes_ok hs hsl ?_
  try simp (implicitDefEqProofs := false) only [post_bnd, post_ret, a_k, a_v, getV_cons0, getV_cons, a_bin, a_cmp, a_ch, a_neg, a_not, a_and, a_or, a_ite, a_sub, a_slc, a_no, a_so, a_nil', a_cons', a_tup, a_lst, a_nl, a_ndk, a_call, a_call0, a_bi, a_isi, a_app, a_sd, a_tst, a_sk, a_brk, a_cnt, a_bad, a_ex, a_ret, a_retN, a_if, a_asg, a_par2, a_par3, a_set, a_for, a_seq, a_enum, a_rng1, a_rng2, a_lc, a_lc2, a_aug, a_disp, a_op2, a_tsub, a_tin, a_tnin, a_itemsL, v_add, v_sub, v_band, v_neg, v_trB, v_trI, v_trN, v_lt, v_le, v_gt, v_ge, v_eqI, v_neI, v_eqS, v_neS, v_isn, v_isnn, v_int, v_abs, v_lenT, v_lenL, v_tupL, v_lstL, List.set_cons_zero, List.set_cons_succ, List.map_cons, List.map_nil, List.cons_append, List.nil_append, List.replicate_succ, List.replicate_zero, dataOf, Option.map_some, Option.some.injEq, exists_eq_left', List.length_cons, List.length_nil, asOI]
  refine by_ok rfl hl hsl ?_
  rw [leave_same (Nat.le_refl _)]
  exact k
theorem ld_loop {w0 w1 : Option W} : ∀ (ss : List Nat) (found left : List Int) (f : Bool) (x5 x6 : Option W), left.length ≤ 300 → found.length + 310 * ss.length ≤ 100000 →
    (∀ found' left' f' x5 x6, found' ++ duI f' left' [] = found ++ duI f left ss → left'.length ≤ 300 → found'.length ≤ 100000 → Q (.nx [w0, w1, some (.d (T found')), some (.d (T left')), some (.d (.bool f')), x5, x6]) S) →
    post (forM (.nm 5) ld1b (ss.map fun s => .int ((s : Nat) : Int)) [w0, w1, some (.d (T found)), some (.d (T left)), some (.d (.bool f)), x5, x6] S) Q
  | [], found, left, f, x5, x6, hl, hb, k => by rw [List.map_nil, for_nil]; exact k _ _ _ _ _ rfl hl (by omega)
  | s :: ss, found, left, f, x5, x6, hl, hb, k => by
    rw [List.map_cons, for_cons]
    refine ⟨[w0, w1, some (.d (T found)), some (.d (T left)), some (.d (.bool f)), some (.d (.int ((s : Nat) : Int))), x6], rfl, ?_⟩
    unfold ld1b ld1b0 ld1b1 ld1b2
    rw [List.length_cons] at hb
    have ed : duI f left (s :: ss) = if f = true ∧ s ≤ left.length then (if 0 < s then chI (left.take s) ++ duI true (left.drop s) ss else duI true left ss) else duI false left ss := rfl
    rw [ed] at k
    cases f with
    | false =>
      rw [if_neg fun z => Bool.false_ne_true z.1] at k
      simp (implicitDefEqProofs := false) only [↓reduceIte, sq_ap, Bool.false_eq_true, post_bnd, post_ret, a_k, a_v, getV_cons0, getV_cons, a_bin, a_cmp, a_ch, a_neg, a_not, a_and, a_or, a_ite, a_sub, a_slc, a_no, a_so, a_nil', a_cons', a_tup, a_lst, a_nl, a_ndk, a_call, a_call0, a_bi, a_isi, a_app, a_sd, a_tst, a_sk, a_brk, a_cnt, a_bad, a_ex, a_ret, a_retN, a_if, a_asg, a_par2, a_par3, a_set, a_for, a_seq, a_enum, a_rng1, a_rng2, a_lc, a_lc2, a_aug, a_disp, a_op2, a_tsub, a_tin, a_tnin, a_itemsL, v_add, v_sub, v_band, v_neg, v_trB, v_trI, v_trN, v_lt, v_le, v_gt, v_ge, v_eqI, v_neI, v_eqS, v_neS, v_isn, v_isnn, v_int, v_abs, v_lenT, v_lenL, v_tupL, v_lstL, List.set_cons_zero, List.set_cons_succ, List.map_cons, List.map_nil, List.cons_append, List.nil_append, List.replicate_succ, List.replicate_zero, dataOf, Option.map_some, Option.some.injEq, exists_eq_left', List.length_cons, List.length_nil, asOI, List.length_map]
      rw [show decide ((0 : Int) < 0) = false from rfl]
      simp (implicitDefEqProofs := false) only [↓reduceIte, sq_ap, Bool.false_eq_true, post_bnd, post_ret, a_k, a_v, getV_cons0, getV_cons, a_bin, a_cmp, a_ch, a_neg, a_not, a_and, a_or, a_ite, a_sub, a_slc, a_no, a_so, a_nil', a_cons', a_tup, a_lst, a_nl, a_ndk, a_call, a_call0, a_bi, a_isi, a_app, a_sd, a_tst, a_sk, a_brk, a_cnt, a_bad, a_ex, a_ret, a_retN, a_if, a_asg, a_par2, a_par3, a_set, a_for, a_seq, a_enum, a_rng1, a_rng2, a_lc, a_lc2, a_aug, a_disp, a_op2, a_tsub, a_tin, a_tnin, a_itemsL, v_add, v_sub, v_band, v_neg, v_trB, v_trI, v_trN, v_lt, v_le, v_gt, v_ge, v_eqI, v_neI, v_eqS, v_neS, v_isn, v_isnn, v_int, v_abs, v_lenT, v_lenL, v_tupL, v_lstL, List.set_cons_zero, List.set_cons_succ, List.map_cons, List.map_nil, List.cons_append, List.nil_append, List.replicate_succ, List.replicate_zero, dataOf, Option.map_some, Option.some.injEq, exists_eq_left', List.length_cons, List.length_nil, asOI]
      exact ld_loop ss found left false _ _ hl (by omega) k
    | true =>
      by_cases c : s ≤ left.length
      · rw [if_pos ⟨rfl, c⟩] at k
        have ec : decide ((s : Int) ≤ (left.length : Nat)) = true := decide_eq_true (by omega)
        simp (implicitDefEqProofs := false) only [↓reduceIte, sq_ap, post_bnd, post_ret, a_k, a_v, getV_cons0, getV_cons, a_bin, a_cmp, a_ch, a_neg, a_not, a_and, a_or, a_ite, a_sub, a_slc, a_no, a_so, a_nil', a_cons', a_tup, a_lst, a_nl, a_ndk, a_call, a_call0, a_bi, a_isi, a_app, a_sd, a_tst, a_sk, a_brk, a_cnt, a_bad, a_ex, a_ret, a_retN, a_if, a_asg, a_par2, a_par3, a_set, a_for, a_seq, a_enum, a_rng1, a_rng2, a_lc, a_lc2, a_aug, a_disp, a_op2, a_tsub, a_tin, a_tnin, a_itemsL, v_add, v_sub, v_band, v_neg, v_trB, v_trI, v_trN, v_lt, v_le, v_gt, v_ge, v_eqI, v_neI, v_eqS, v_neS, v_isn, v_isnn, v_int, v_abs, v_lenT, v_lenL, v_tupL, v_lstL, List.set_cons_zero, List.set_cons_succ, List.map_cons, List.map_nil, List.cons_append, List.nil_append, List.replicate_succ, List.replicate_zero, dataOf, Option.map_some, Option.some.injEq, exists_eq_left', List.length_cons, List.length_nil, asOI, List.length_map, ec]
        by_cases z : 0 < s
        · rw [if_pos z] at k
          rw [decide_eq_true (by omega)]
          simp (implicitDefEqProofs := false) only [↓reduceIte, post_bnd, post_ret, a_k, a_v, getV_cons0, getV_cons, a_bin, a_cmp, a_ch, a_neg, a_not, a_and, a_or, a_ite, a_sub, a_slc, a_no, a_so, a_nil', a_cons', a_tup, a_lst, a_nl, a_ndk, a_call, a_call0, a_bi, a_isi, a_app, a_sd, a_tst, a_sk, a_brk, a_cnt, a_bad, a_ex, a_ret, a_retN, a_if, a_asg, a_par2, a_par3, a_set, a_for, a_seq, a_enum, a_rng1, a_rng2, a_lc, a_lc2, a_aug, a_disp, a_op2, a_tsub, a_tin, a_tnin, a_itemsL, v_add, v_sub, v_band, v_neg, v_trB, v_trI, v_trN, v_lt, v_le, v_gt, v_ge, v_eqI, v_neI, v_eqS, v_neS, v_isn, v_isnn, v_int, v_abs, v_lenT, v_lenL, v_tupL, v_lstL, List.set_cons_zero, List.set_cons_succ, List.map_cons, List.map_nil, List.cons_append, List.nil_append, List.replicate_succ, List.replicate_zero, dataOf, Option.map_some, Option.some.injEq, exists_eq_left', List.length_cons, List.length_nil, asOI]
          refine lhex_ok z (by omega) ?_
          have ht : (left.take s).length = s := by rw [List.length_take]; omega
          have hx := hexI_len s
          rw [v_catT (by omega)]
          refine ⟨by decide, ?_⟩
          rw [e1310, v_catT (by simp only [List.length_append, List.length_nil, List.length_cons]; omega), v_slT, cutTo, v_catT (by simp only [List.length_append, List.length_nil, List.length_cons]; omega)]
          refine ⟨by decide, ?_⟩
          rw [v_catT (by simp only [List.length_append, List.length_nil, List.length_cons]; omega), v_slT, cutFrom]
          have e2 : found ++ hexI s ++ [13, 10] ++ left.take s ++ [13, 10] = found ++ chI (left.take s) := by
            unfold chI
            rw [ht]
            simp only [List.append_assoc]
          rw [e2]
          have := chI_len (left.take s)
          refine ld_loop ss _ _ true _ _ (by rw [List.length_drop]; omega) (by rw [List.length_append]; omega) fun found' left' f' x5 x6 e h1 h2 => k _ _ _ _ _ ?_ h1 h2
          rw [e, List.append_assoc]
        · rw [if_neg z] at k
          rw [decide_eq_false (by omega)]
          simp (implicitDefEqProofs := false) only [↓reduceIte, Bool.false_eq_true, post_bnd, post_ret, a_k, a_v, getV_cons0, getV_cons, a_bin, a_cmp, a_ch, a_neg, a_not, a_and, a_or, a_ite, a_sub, a_slc, a_no, a_so, a_nil', a_cons', a_tup, a_lst, a_nl, a_ndk, a_call, a_call0, a_bi, a_isi, a_app, a_sd, a_tst, a_sk, a_brk, a_cnt, a_bad, a_ex, a_ret, a_retN, a_if, a_asg, a_par2, a_par3, a_set, a_for, a_seq, a_enum, a_rng1, a_rng2, a_lc, a_lc2, a_aug, a_disp, a_op2, a_tsub, a_tin, a_tnin, a_itemsL, v_add, v_sub, v_band, v_neg, v_trB, v_trI, v_trN, v_lt, v_le, v_gt, v_ge, v_eqI, v_neI, v_eqS, v_neS, v_isn, v_isnn, v_int, v_abs, v_lenT, v_lenL, v_tupL, v_lstL, List.set_cons_zero, List.set_cons_succ, List.map_cons, List.map_nil, List.cons_append, List.nil_append, List.replicate_succ, List.replicate_zero, dataOf, Option.map_some, Option.some.injEq, exists_eq_left', List.length_cons, List.length_nil, asOI]
          exact ld_loop ss found left true _ _ hl (by omega) k
      · rw [if_neg fun z => c z.2] at k
        have ec : decide ((s : Int) ≤ (left.length : Nat)) = false := decide_eq_false (by omega)
        simp (implicitDefEqProofs := false) only [↓reduceIte, sq_ap, post_bnd, post_ret, a_k, a_v, getV_cons0, getV_cons, a_bin, a_cmp, a_ch, a_neg, a_not, a_and, a_or, a_ite, a_sub, a_slc, a_no, a_so, a_nil', a_cons', a_tup, a_lst, a_nl, a_ndk, a_call, a_call0, a_bi, a_isi, a_app, a_sd, a_tst, a_sk, a_brk, a_cnt, a_bad, a_ex, a_ret, a_retN, a_if, a_asg, a_par2, a_par3, a_set, a_for, a_seq, a_enum, a_rng1, a_rng2, a_lc, a_lc2, a_aug, a_disp, a_op2, a_tsub, a_tin, a_tnin, a_itemsL, v_add, v_sub, v_band, v_neg, v_trB, v_trI, v_trN, v_lt, v_le, v_gt, v_ge, v_eqI, v_neI, v_eqS, v_neS, v_isn, v_isnn, v_int, v_abs, v_lenT, v_lenL, v_tupL, v_lstL, List.set_cons_zero, List.set_cons_succ, List.map_cons, List.map_nil, List.cons_append, List.nil_append, List.replicate_succ, List.replicate_zero, dataOf, Option.map_some, Option.some.injEq, exists_eq_left', List.length_cons, List.length_nil, asOI, List.length_map, ec, Bool.false_eq_true]
        rw [show decide ((0 : Int) < 0) = false from rfl]
        simp (implicitDefEqProofs := false) only [↓reduceIte, sq_ap, Bool.false_eq_true, post_bnd, post_ret, a_k, a_v, getV_cons0, getV_cons, a_bin, a_cmp, a_ch, a_neg, a_not, a_and, a_or, a_ite, a_sub, a_slc, a_no, a_so, a_nil', a_cons', a_tup, a_lst, a_nl, a_ndk, a_call, a_call0, a_bi, a_isi, a_app, a_sd, a_tst, a_sk, a_brk, a_cnt, a_bad, a_ex, a_ret, a_retN, a_if, a_asg, a_par2, a_par3, a_set, a_for, a_seq, a_enum, a_rng1, a_rng2, a_lc, a_lc2, a_aug, a_disp, a_op2, a_tsub, a_tin, a_tnin, a_itemsL, v_add, v_sub, v_band, v_neg, v_trB, v_trI, v_trN, v_lt, v_le, v_gt, v_ge, v_eqI, v_neI, v_eqS, v_neS, v_isn, v_isnn, v_int, v_abs, v_lenT, v_lenL, v_tupL, v_lstL, List.set_cons_zero, List.set_cons_succ, List.map_cons, List.map_nil, List.cons_append, List.nil_append, List.replicate_succ, List.replicate_zero, dataOf, Option.map_some, Option.some.injEq, exists_eq_left', List.length_cons, List.length_nil, asOI]
        exact ld_loop ss found left false _ _ hl (by omega) k
theorem due_is {body : List Int} {ss : List Nat} {d : D} (hd : d = .tuple (ss.map fun s => .int ((s : Nat) : Int))) (hl : body.length ≤ 300) (hs : ∀ s ∈ ss, 1 ≤ s ∧ s ≤ 300) (hsl : ss.length ≤ 300) (k : q (.d (T (byI body ss ++ endI))) S) : post (m__law_due [.d (T body), .d d] S) q := by
  subst hd
  refine post_fn rfl ?_
  rw [ld_eq]
  unfold ld
  rw [sq_ap]
  unfold ld0
  simp (implicitDefEqProofs := false) only [post_bnd, post_ret, a_k, a_v, getV_cons0, getV_cons, a_bin, a_cmp, a_ch, a_neg, a_not, a_and, a_or, a_ite, a_sub, a_slc, a_no, a_so, a_nil', a_cons', a_tup, a_lst, a_nl, a_ndk, a_call, a_call0, a_bi, a_isi, a_app, a_sd, a_tst, a_sk, a_brk, a_cnt, a_bad, a_ex, a_ret, a_retN, a_if, a_asg, a_par2, a_par3, a_set, a_for, a_seq, a_enum, a_rng1, a_rng2, a_lc, a_lc2, a_aug, a_disp, a_op2, a_tsub, a_tin, a_tnin, a_itemsL, v_add, v_sub, v_band, v_neg, v_trB, v_trI, v_trN, v_lt, v_le, v_gt, v_ge, v_eqI, v_neI, v_eqS, v_neS, v_isn, v_isnn, v_int, v_abs, v_lenT, v_lenL, v_tupL, v_lstL, List.set_cons_zero, List.set_cons_succ, List.map_cons, List.map_nil, List.cons_append, List.nil_append, List.replicate_succ, List.replicate_zero, dataOf, Option.map_some, Option.some.injEq, exists_eq_left', List.length_cons, List.length_nil, asOI]
  refine ⟨by decide, ?_⟩
  rw [sq_ap]
  unfold ld1
  simp (implicitDefEqProofs := false) only [post_bnd, post_ret, a_k, a_v, getV_cons0, getV_cons, a_bin, a_cmp, a_ch, a_neg, a_not, a_and, a_or, a_ite, a_sub, a_slc, a_no, a_so, a_nil', a_cons', a_tup, a_lst, a_nl, a_ndk, a_call, a_call0, a_bi, a_isi, a_app, a_sd, a_tst, a_sk, a_brk, a_cnt, a_bad, a_ex, a_ret, a_retN, a_if, a_asg, a_par2, a_par3, a_set, a_for, a_seq, a_enum, a_rng1, a_rng2, a_lc, a_lc2, a_aug, a_disp, a_op2, a_tsub, a_tin, a_tnin, a_itemsL, v_add, v_sub, v_band, v_neg, v_trB, v_trI, v_trN, v_lt, v_le, v_gt, v_ge, v_eqI, v_neI, v_eqS, v_neS, v_isn, v_isnn, v_int, v_abs, v_lenT, v_lenL, v_tupL, v_lstL, List.set_cons_zero, List.set_cons_succ, List.map_cons, List.map_nil, List.cons_append, List.nil_append, List.replicate_succ, List.replicate_zero, dataOf, Option.map_some, Option.some.injEq, exists_eq_left', List.length_cons, List.length_nil, asOI, List.length_map, v_lstT]
  refine ⟨by decide, ?_⟩
  rw [v_catL (by rw [List.length_map]; show _ + 1 ≤ 16777216; omega)]
  refine ⟨_, rfl, ?_⟩
  have e0 : (ss.map fun s => (.int ((s : Nat) : Int) : D)) ++ [.int ((body.length : Nat) : Int)] = (ss ++ [body.length]).map fun s => .int ((s : Nat) : Int) := by rw [List.map_append]; rfl
  rw [e0]
  refine ld_loop (ss ++ [body.length]) [] body true _ _ hl (by rw [List.length_append]; show 0 + 310 * (_ + 1) ≤ _; omega) fun found' left' f' x5 x6 e h1 h2 => ?_
  rw [List.nil_append, du_by ss body (fun s m => (hs s m).1) (Nat.le_refl _)] at e
  rw [← e] at k
  dsimp only
  rw [sq_ap]
  unfold ld2 ld3
  simp (implicitDefEqProofs := false) only [post_bnd, post_ret, a_k, a_v, getV_cons0, getV_cons, a_bin, a_cmp, a_ch, a_neg, a_not, a_and, a_or, a_ite, a_sub, a_slc, a_no, a_so, a_nil', a_cons', a_tup, a_lst, a_nl, a_ndk, a_call, a_call0, a_bi, a_isi, a_app, a_sd, a_tst, a_sk, a_brk, a_cnt, a_bad, a_ex, a_ret, a_retN, a_if, a_asg, a_par2, a_par3, a_set, a_for, a_seq, a_enum, a_rng1, a_rng2, a_lc, a_lc2, a_aug, a_disp, a_op2, a_tsub, a_tin, a_tnin, a_itemsL, v_add, v_sub, v_band, v_neg, v_trB, v_trI, v_trN, v_lt, v_le, v_gt, v_ge, v_eqI, v_neI, v_eqS, v_neS, v_isn, v_isnn, v_int, v_abs, v_lenT, v_lenL, v_tupL, v_lstL, List.set_cons_zero, List.set_cons_succ, List.map_cons, List.map_nil, List.cons_append, List.nil_append, List.replicate_succ, List.replicate_zero, dataOf, Option.map_some, Option.some.injEq, exists_eq_left', List.length_cons, List.length_nil, asOI, v_neT0, List.length_map]
  refine ⟨by decide, ?_⟩
  have e5 : (PyData.tuple [.int 48, .int 13, .int 10, .int 13, .int 10] : D) = T endI := rfl
  have l5 : endI.length = 5 := rfl
  by_cases c : left' = []
  · subst c
    rw [decide_eq_true rfl]
    simp (implicitDefEqProofs := false) only [↓reduceIte, Bool.not_true, Bool.false_eq_true, post_bnd, post_ret, a_k, a_v, getV_cons0, getV_cons, a_bin, a_cmp, a_ch, a_neg, a_not, a_and, a_or, a_ite, a_sub, a_slc, a_no, a_so, a_nil', a_cons', a_tup, a_lst, a_nl, a_ndk, a_call, a_call0, a_bi, a_isi, a_app, a_sd, a_tst, a_sk, a_brk, a_cnt, a_bad, a_ex, a_ret, a_retN, a_if, a_asg, a_par2, a_par3, a_set, a_for, a_seq, a_enum, a_rng1, a_rng2, a_lc, a_lc2, a_aug, a_disp, a_op2, a_tsub, a_tin, a_tnin, a_itemsL, v_add, v_sub, v_band, v_neg, v_trB, v_trI, v_trN, v_lt, v_le, v_gt, v_ge, v_eqI, v_neI, v_eqS, v_neS, v_isn, v_isnn, v_int, v_abs, v_lenT, v_lenL, v_tupL, v_lstL, List.set_cons_zero, List.set_cons_succ, List.map_cons, List.map_nil, List.cons_append, List.nil_append, List.replicate_succ, List.replicate_zero, dataOf, Option.map_some, Option.some.injEq, exists_eq_left', List.length_cons, List.length_nil, asOI]
    refine ⟨by decide, ?_⟩
    rw [e5, v_catT (by omega), leave_same (Nat.le_refl _)]
    have eb : duI f' [] [] = [] := rfl
    rw [eb, List.append_nil] at k
    exact k
  · rw [decide_eq_false c]
    simp (implicitDefEqProofs := false) only [↓reduceIte, Bool.not_false, post_bnd, post_ret, a_k, a_v, getV_cons0, getV_cons, a_bin, a_cmp, a_ch, a_neg, a_not, a_and, a_or, a_ite, a_sub, a_slc, a_no, a_so, a_nil', a_cons', a_tup, a_lst, a_nl, a_ndk, a_call, a_call0, a_bi, a_isi, a_app, a_sd, a_tst, a_sk, a_brk, a_cnt, a_bad, a_ex, a_ret, a_retN, a_if, a_asg, a_par2, a_par3, a_set, a_for, a_seq, a_enum, a_rng1, a_rng2, a_lc, a_lc2, a_aug, a_disp, a_op2, a_tsub, a_tin, a_tnin, a_itemsL, v_add, v_sub, v_band, v_neg, v_trB, v_trI, v_trN, v_lt, v_le, v_gt, v_ge, v_eqI, v_neI, v_eqS, v_neS, v_isn, v_isnn, v_int, v_abs, v_lenT, v_lenL, v_tupL, v_lstL, List.set_cons_zero, List.set_cons_succ, List.map_cons, List.map_nil, List.cons_append, List.nil_append, List.replicate_succ, List.replicate_zero, dataOf, Option.map_some, Option.some.injEq, exists_eq_left', List.length_cons, List.length_nil, asOI, List.length_map]
    have hp : 1 ≤ left'.length := by cases left' with
      | nil => exact absurd rfl c
      | cons _ _ => rw [List.length_cons]; omega
    refine lhex_ok hp (by omega) ?_
    have hx := hexI_len left'.length
    rw [v_catT (by omega)]
    refine ⟨by decide, ?_⟩
    rw [e1310, v_catT (by simp only [List.length_append, List.length_nil, List.length_cons]; omega), v_catT (by simp only [List.length_append, List.length_nil, List.length_cons]; omega)]
    refine ⟨by decide, ?_⟩
    rw [v_catT (by simp only [List.length_append, List.length_nil, List.length_cons]; omega)]
    try simp (implicitDefEqProofs := false) only [post_bnd, post_ret, a_k, a_v, getV_cons0, getV_cons, a_bin, a_cmp, a_ch, a_neg, a_not, a_and, a_or, a_ite, a_sub, a_slc, a_no, a_so, a_nil', a_cons', a_tup, a_lst, a_nl, a_ndk, a_call, a_call0, a_bi, a_isi, a_app, a_sd, a_tst, a_sk, a_brk, a_cnt, a_bad, a_ex, a_ret, a_retN, a_if, a_asg, a_par2, a_par3, a_set, a_for, a_seq, a_enum, a_rng1, a_rng2, a_lc, a_lc2, a_aug, a_disp, a_op2, a_tsub, a_tin, a_tnin, a_itemsL, v_add, v_sub, v_band, v_neg, v_trB, v_trI, v_trN, v_lt, v_le, v_gt, v_ge, v_eqI, v_neI, v_eqS, v_neS, v_isn, v_isnn, v_int, v_abs, v_lenT, v_lenL, v_tupL, v_lstL, List.set_cons_zero, List.set_cons_succ, List.map_cons, List.map_nil, List.cons_append, List.nil_append, List.replicate_succ, List.replicate_zero, dataOf, Option.map_some, Option.some.injEq, exists_eq_left', List.length_cons, List.length_nil, asOI]
    refine ⟨by decide, ?_⟩
    rw [e5, v_catT (by rw [l5]; simp only [List.length_append, List.length_nil, List.length_cons]; omega), leave_same (Nat.le_refl _)]
    have eb : duI f' left' [] = chI left' := if_neg c
    rw [eb] at k
    unfold chI at k
    simp only [List.append_assoc] at k ⊢
    exact k
end
end MP.Q0

namespace MP.Q0
open PySem L2 PySem.Spec PyProof.Rows
theorem hex_all : ∀ n < 320, (hexI n).all isD = true ∧ numN 0 (hexI n) = n ∧ 1 ≤ (hexI n).length := by decide +kernel
theorem run_head {ds : List Int} {m : Nat} {lf : Int} {b rest : List Int} {n : Nat} (h1 : ds.all isD = true) (h2 : numN 0 ds = m) (h3 : 1 ≤ ds.length) (h4 : ds.length ≤ 4) :
    runC ⟨.size, 0, 0, lf, b⟩ (ds ++ 13 :: rest) n = if 300 < b.length + m then some (.wrong 413 (n + ds.length)) else runC ⟨.line, (ds.length : Nat), (m : Nat), lf, b⟩ rest (n + ds.length + 1) := by
  have q := run_digits (lf := lf) (b := b) (rest := 13 :: rest) ds 0 0 n (fun o m => List.all_eq_true.mp h1 o m) (by omega)
  rw [Nat.zero_add, h2] at q
  rw [show (⟨.size, 0, 0, lf, b⟩ : Ch) = ⟨.size, (0 : Nat), (0 : Nat), lf, b⟩ from rfl, q, run_cons]
  have hs : stand ⟨.size, (ds.length : Nat), (m : Nat), lf, b⟩ 13 = true := by
    show decide ((0 : Int) < (ds.length : Nat)) = true
    exact decide_eq_true (by omega)
  unfold flt
  rw [if_pos hs]
  by_cases c : 300 < b.length + m
  · rw [if_pos c, if_pos ⟨rfl, rfl, by show (300 : Int) < (b.length : Int) + (m : Nat); omega⟩]
  · rw [if_neg c, if_neg (by rintro ⟨_, _, z⟩; apply c; have z : (300 : Int) < (b.length : Int) + (m : Nat) := z; omega)]
    rfl
theorem run_chunk {lf : Int} {b l rest : List Int} {n : Nat} (h0 : l ≠ []) (hl : b.length + l.length ≤ 300) : runC ⟨.size, 0, 0, lf, b⟩ (chI l ++ rest) n = runC ⟨.size, 0, 0, 0, b ++ l⟩ rest (n + (chI l).length) := by
  obtain ⟨k, hk⟩ : ∃ k, l.length = k + 1 := ⟨l.length - 1, by cases l with
    | nil => exact absurd rfl h0
    | cons _ _ => rw [List.length_cons]; omega⟩
  obtain ⟨g1, g2, g3⟩ := hex_all l.length (by omega)
  have e1 : chI l ++ rest = hexI l.length ++ 13 :: (10 :: (l ++ 13 :: 10 :: rest)) := by
    unfold chI
    simp only [List.append_assoc, List.cons_append, List.nil_append]
  have e2 : (chI l).length = (hexI l.length).length + 2 + l.length + 2 := by
    unfold chI
    simp only [List.length_append, List.length_cons, List.length_nil]
  rw [e1, run_head g1 g2 g3 (by have := hexI_len l.length; omega), if_neg (by omega)]
  have s1 : ∀ d lf r n, runC ⟨.line, d, (l.length : Nat), lf, b⟩ (10 :: r) n = runC ⟨.octets, d, (l.length : Nat), (k + 1 : Nat), b⟩ r (n + 1) := by
    intro d lf r n
    have e : runC ⟨.line, d, (l.length : Nat), lf, b⟩ (10 :: r) n = runC ⟨if 0 < ((l.length : Nat) : Int) then .octets else .empty, d, (l.length : Nat), (l.length : Nat), b⟩ r (n + 1) := rfl
    rw [e, if_pos (by omega), hk]
  rw [s1, run_octets, if_neg (by simp only [List.length_append, List.length_cons]; omega), List.take_left' hk, List.drop_left' hk]
  have s2 : ∀ d m b r n, runC ⟨.fin, d, m, 0, b⟩ (13 :: 10 :: r) n = runC ⟨.size, 0, 0, 0, b⟩ r (n + 1 + 1) := fun _ _ _ _ _ => rfl
  rw [s2]
  congr 1
  omega
theorem run_end {lf : Int} {b rest : List Int} {n : Nat} (hb : b.length ≤ 300) : runC ⟨.size, 0, 0, lf, b⟩ (endI ++ rest) n = some (.whole b (n + 5)) := by
  have e : endI ++ rest = [48] ++ 13 :: (10 :: 13 :: 10 :: rest) := rfl
  rw [e, run_head (m := 0) rfl rfl (by decide) (by decide), if_neg (by omega)]
  rfl
theorem run_by : ∀ (ss : List Nat) (left b rest : List Int) (lf : Int) (n : Nat), (∀ s ∈ ss, 1 ≤ s) → b.length + left.length ≤ 300 → runC ⟨.size, 0, 0, lf, b⟩ (byI left ss ++ (endI ++ rest)) n = some (.whole (b ++ left) (n + (byI left ss).length + 5))
  | [], left, b, rest, lf, n, _, hl => by
    unfold byI
    by_cases c : left = []
    · subst c
      rw [if_pos rfl, List.append_nil, List.nil_append, run_end (by simpa using hl)]; rfl
    · rw [if_neg c, run_chunk c hl, run_end (by rw [List.length_append]; exact hl)]
  | s :: ss, left, b, rest, lf, n, hs, hl => by
    unfold byI
    by_cases c : s ≤ left.length
    · rw [if_pos c]
      have h1 := hs s List.mem_cons_self
      have ne : left.take s ≠ [] := fun z => by
        have := congrArg List.length z
        rw [List.length_take, List.length_nil] at this
        omega
      have lt : (left.take s).length + (left.drop s).length = left.length := by rw [← List.length_append, List.take_append_drop]
      rw [List.append_assoc, run_chunk ne (by omega), run_by ss (left.drop s) (b ++ left.take s) rest 0 _ (fun x m => hs x (List.mem_cons_of_mem _ m)) (by rw [List.length_append]; omega)]
      rw [List.append_assoc, List.take_append_drop, List.length_append, show n + (chI (left.take s)).length + (byI (left.drop s) ss).length + 5 = n + ((chI (left.take s)).length + (byI (left.drop s) ss).length) + 5 by omega]
    · rw [if_neg c]
      by_cases c : left = []
      · subst c
        rw [if_pos rfl, List.append_nil, List.nil_append, run_end (by simpa using hl)]; rfl
      · rw [if_neg c, run_chunk c hl, run_end (by rw [List.length_append]; exact hl)]
theorem run_line {b : List Int} {ds : List Int} {m n : Nat} {lf : Int} (h1 : ds.all isD = true) (h2 : numN 0 ds = m) (h3 : 1 ≤ ds.length) (h4 : ds.length ≤ 4) : runC ⟨.size, 0, 0, lf, b⟩ (ds ++ [13]) n = if 300 < b.length + m then some (.wrong 413 (n + ds.length)) else none := by
  rw [run_head h1 h2 h3 h4]
  rfl
/-! what a reading tells is small -/
def Oc.ok (k : Nat) : Option Oc → Prop
  | none => True
  | some (.wrong c n) => (c = 400 ∨ c = 413) ∧ n ≤ k
  | some (.whole b n) => oct b ∧ b.length ≤ k ∧ n ≤ k
theorem run_fits {k : Nat} : ∀ (r : List Int) (c : Ch) (n : Nat), oct c.bd → oct r → n + r.length ≤ k → c.bd.length + r.length ≤ k → Oc.ok k (runC c r n)
  | [], _, _, _, _, _, _ => trivial
  | o :: r, c, n, h1, h2, h3, h4 => by
    rw [List.length_cons] at h3 h4
    rw [run_cons]
    cases hf : flt c o with
    | some x =>
      refine ⟨?_, by omega⟩
      unfold flt at hf
      split at hf
      · split at hf
        · cases hf; exact .inr rfl
        · cases hf
      · cases hf; exact .inl rfl
    | none =>
      dsimp only
      by_cases hl : c.pl.isLast = true
      · rw [if_pos hl]
        exact ⟨h1, by omega, by omega⟩
      · rw [if_neg hl]
        have hb := bd_go (c := c) (o := o)
        refine run_fits r (goC c o) (n + 1) ?_ (fun x m => h2 x (List.mem_cons_of_mem _ m)) (by omega) (by omega)
        have ho := h2 o List.mem_cons_self
        unfold goC
        split
        · split <;> exact h1
        · exact h1
        · intro x m
          rcases List.mem_append.mp m with m | m
          · exact h1 x m
          · rw [List.mem_singleton.mp m]; exact ho
        · exact h1
        · exact h1
        · exact h1
        · exact h1
end MP.Q0

namespace MP.Q0
open PySem L2 PySem.Spec PyProof.Rows
def lu0 : SM := par3M 2 3 4 (consM (tupM (nilM)) (consM (vM 1) (consM (callM m__law_some (consM (vM 0) (consM (lstM (consM (kM (.int 1)) (consM (kM (.int 3)) (consM (kM (.int 40)) (consM (kM (.int 300)) (nilM)))))) (nilM)))) (nilM))))
def luB0 : SM := asgM (.nm 5) (biM .min (consM (biM .len (consM (vM 3) (nilM))) (consM (binM .add (kM (.int 1)) (callM m__law_roll (consM (vM 0) (consM (vM 4) (nilM))))) (nilM))))
def luB1 : SM := asgM (.nm 6) (binM .add (lstM (consM (kM (.int 48)) (consM (kM (.int 49)) (consM (kM (.int 50)) (consM (kM (.int 51)) (consM (kM (.int 52)) (consM (kM (.int 53)) (consM (kM (.int 54)) (consM (kM (.int 55)) (consM (kM (.int 56)) (consM (kM (.int 57)) (nilM)))))))))))) (callM m__law_some (consM (vM 0) (consM (lstM (consM (lstM (consM (kM (.int 65)) (consM (kM (.int 66)) (consM (kM (.int 67)) (consM (kM (.int 68)) (consM (kM (.int 69)) (consM (kM (.int 70)) (nilM)))))))) (consM (lstM (consM (kM (.int 97)) (consM (kM (.int 98)) (consM (kM (.int 99)) (consM (kM (.int 100)) (consM (kM (.int 101)) (consM (kM (.int 102)) (nilM)))))))) (nilM)))) (nilM)))))
def luB2 : SM := asgM (.nm 7) (tupM (consM (subM (vM 6) (binM .fdiv (vM 5) (kM (.int 256)))) (consM (subM (vM 6) (binM .mod (biM .int (consM (binM .fdiv (vM 5) (kM (.int 16))) (nilM))) (kM (.int 16)))) (consM (subM (vM 6) (binM .mod (biM .int (consM (vM 5) (nilM))) (kM (.int 16)))) (nilM)))))
def luB3 : SM := asgM (.nm 7) (iteM (orM (cmpM .gt (vM 5) (kM (.int 255))) (cmpM .eq (callM m__law_roll (consM (vM 0) (consM (kM (.int 2)) (nilM)))) (kM (.int 0)))) (binM .add (op2M mulT (tupM (consM (kM (.int 48)) (nilM))) (callM m__law_roll (consM (vM 0) (consM (kM (.int 2)) (nilM))))) (vM 7)) (iteM (orM (cmpM .gt (vM 5) (kM (.int 15))) (cmpM .eq (callM m__law_roll (consM (vM 0) (consM (kM (.int 2)) (nilM)))) (kM (.int 0)))) (slcM (vM 7) (soM (kM (.int 1))) (noM)) (slcM (vM 7) (soM (kM (.int 2))) (noM))))
def luB4 : SM := par2M 2 3 (consM (binM .add (binM .add (binM .add (binM .add (vM 2) (vM 7)) (tupM (consM (kM (.int 13)) (consM (kM (.int 10)) (nilM))))) (slcM (vM 3) (noM) (soM (vM 5)))) (tupM (consM (kM (.int 13)) (consM (kM (.int 10)) (nilM))))) (consM (slcM (vM 3) (soM (vM 5)) (noM)) (nilM)))
def luC : EM := cmpM .ne (vM 3) (tupM (nilM))
def luB : SM := sq luB0 (sq luB1 (sq luB2 (sq luB3 (luB4))))
def lu1 : SM := whM luC luB
def lu2 : SM := retM (binM .add (binM .add (vM 2) (op2M mulT (tupM (consM (kM (.int 48)) (nilM))) (binM .add (kM (.int 1)) (callM m__law_roll (consM (vM 0) (consM (kM (.int 4)) (nilM))))))) (tupM (consM (kM (.int 13)) (consM (kM (.int 10)) (consM (kM (.int 13)) (consM (kM (.int 10)) (nilM)))))))
def lu : SM := sq lu0 (sq lu1 (lu2))
def lp0 : SM := asgM (.nm 2) (callM m__law_roll (consM (vM 0) (consM (binM .add (biM .len (consM (vM 1) (nilM))) (kM (.int 1))) (nilM))))
def lp1 : SM := asgM (.nm 3) (callM m__law_some (consM (vM 0) (consM (lstM (consM (kM (.int 13)) (consM (kM (.int 10)) (consM (kM (.int 48)) (consM (kM (.int 49)) (consM (kM (.int 65)) (consM (kM (.int 71)) (consM (kM (.int 96)) (consM (kM (.int 102)) (consM (kM (.int 103)) (consM (kM (.int 64)) (consM (kM (.int 47)) (consM (kM (.int 58)) (consM (kM (.int 32)) (consM (kM (.int 255)) (consM (callM m__law_roll (consM (vM 0) (consM (kM (.int 256)) (nilM)))) (nilM))))))))))))))))) (nilM))))
def lp2 : SM := asgM (.nm 4) (callM m__law_roll (consM (vM 0) (consM (kM (.int 4)) (nilM))))
def lp3 : SM := retM (iteM (cmpM .eq (vM 4) (kM (.int 0))) (binM .add (slcM (vM 1) (noM) (soM (vM 2))) (slcM (vM 1) (soM (binM .add (vM 2) (kM (.int 1)))) (noM))) (binM .add (binM .add (slcM (vM 1) (noM) (soM (vM 2))) (tupM (consM (vM 3) (nilM)))) (slcM (vM 1) (soM (binM .add (vM 2) (iteM (cmpM .gt (vM 4) (kM (.int 1))) (kM (.int 1)) (kM (.int 0))))) (noM))))
def lp : SM := sq lp0 (sq lp1 (sq lp2 (lp3)))

theorem lu_eq : b__law_cut = lu := rfl
theorem lp_eq : b__law_spoilt = lp := rfl
abbrev CS (c0 c1 : Int) : Sto := [.lst [.d (.int c0), .d (.int c1)]]
theorem cs_below (c0 c1 : Int) : (CS c0 c1).all (O.below (CS c0 c1).length) = true := rfl
theorem lvc {w : W} {a b : Int} : leave (0 + 1) w (CS a b) = CS a b := leave_same (Nat.le_refl 1)
def Po (y : D) : Prop := ∃ o : Int, y = .int o ∧ 0 ≤ o ∧ o < 256
theorem po_list : ∀ ys : List D, (∀ y ∈ ys, Po y) → ∃ os : List Int, ys = os.map .int ∧ oct os
  | [], _ => ⟨[], rfl, fun _ m => by cases m⟩
  | y :: r, h => by
    obtain ⟨o, e, h1⟩ := h y List.mem_cons_self
    obtain ⟨os, e2, h2⟩ := po_list r fun x m => h x (List.mem_cons_of_mem _ m)
    refine ⟨o :: os, by rw [e, e2]; rfl, fun x m => ?_⟩
    rcases List.mem_cons.mp m with z | m
    · rw [z]; exact h1
    · exact h2 x m
theorem mem_int {xs : List Int} {x : D} (h : x ∈ xs.map PyData.int) {lo hi : Int} (hb : ∀ w ∈ xs, lo ≤ w ∧ w ≤ hi) : ∃ w, x = .int w ∧ lo ≤ w ∧ w ≤ hi := by
  obtain ⟨w, m, e⟩ := List.mem_map.mp h
  exact ⟨w, e.symm, hb w m⟩
section
variable {q : W → Sto → Prop} {Q : Fl → Sto → Prop} {c0 c1 : Int}
theorem lc_cup {turn : D → M (Option D)} (P : D → Prop) : ∀ (items : List D) (c0 c1 : Int) (q : List D → Sto → Prop), 0 ≤ c0 →
    (∀ x ∈ items, ∀ (c0 c1 : Int) (q : Option D → Sto → Prop), 0 ≤ c0 → (∀ y c0' c1', P y → 0 ≤ c0' → q (some y) (CS c0' c1')) → post (turn x (CS c0 c1)) q) →
    (∀ ys c0' c1', (∀ y ∈ ys, P y) → ys.length = items.length → 0 ≤ c0' → q ys (CS c0' c1')) → post (lcM turn items (CS c0 c1)) q
  | [], c0, c1, q, h0, _, k => by rw [lc_nil]; exact k [] _ _ (fun _ m => by cases m) rfl h0
  | x :: r, c0, c1, q, h0, h, k => by
    rw [lc_cons]
    refine h x List.mem_cons_self c0 c1 _ h0 fun y a b hy h1 => ?_
    refine lc_cup P r a b _ h1 (fun z m => h z (List.mem_cons_of_mem _ m)) fun ys c d hys hl h2 => ?_
    exact k (y :: ys) c d (fun z m => (List.mem_cons.mp m).elim (fun e => e ▸ hy) (hys z)) (by rw [List.length_cons, List.length_cons, hl]) h2
theorem body_ok (h0 : 0 ≤ c0) (k : ∀ b c0' c1', oct b → b.length ≤ 300 → 0 ≤ c0' → q (.d (T b)) (CS c0' c1')) : post (m__law_body [.r 0] (CS c0 c1)) q := by
  refine post_fn rfl ?_
  unfold b__law_body
  rw [sq_ap]
  try simp (implicitDefEqProofs := false) only [post_bnd, post_ret, a_k, a_v, getV_cons0, getV_cons, a_bin, a_cmp, a_ch, a_neg, a_not, a_and, a_or, a_ite, a_sub, a_slc, a_no, a_so, a_nil', a_cons', a_tup, a_lst, a_nl, a_ndk, a_call, a_call0, a_bi, a_isi, a_app, a_sd, a_tst, a_sk, a_brk, a_cnt, a_bad, a_ex, a_ret, a_retN, a_if, a_asg, a_par2, a_par3, a_set, a_for, a_seq, a_enum, a_rng1, a_rng2, a_lc, a_lc2, a_aug, a_disp, a_op2, a_tsub, a_tin, a_tnin, a_itemsL, v_add, v_sub, v_band, v_neg, v_trB, v_trI, v_trN, v_lt, v_le, v_gt, v_ge, v_eqI, v_neI, v_eqS, v_neS, v_isn, v_isnn, v_int, v_abs, v_lenT, v_lenL, v_tupL, v_lstL, List.set_cons_zero, List.set_cons_succ, List.map_cons, List.map_nil, List.cons_append, List.nil_append, List.replicate_succ, List.replicate_zero, dataOf, Option.map_some, Option.some.injEq, exists_eq_left', List.length_cons, List.length_nil, asOI]
  refine roll_ok (R := []) h0 ⟨by decide, by decide⟩ fun v a b hv1 hv2 h1 => ?_
  try simp (implicitDefEqProofs := false) only [post_bnd, post_ret, a_k, a_v, getV_cons0, getV_cons, a_bin, a_cmp, a_ch, a_neg, a_not, a_and, a_or, a_ite, a_sub, a_slc, a_no, a_so, a_nil', a_cons', a_tup, a_lst, a_nl, a_ndk, a_call, a_call0, a_bi, a_isi, a_app, a_sd, a_tst, a_sk, a_brk, a_cnt, a_bad, a_ex, a_ret, a_retN, a_if, a_asg, a_par2, a_par3, a_set, a_for, a_seq, a_enum, a_rng1, a_rng2, a_lc, a_lc2, a_aug, a_disp, a_op2, a_tsub, a_tin, a_tnin, a_itemsL, v_add, v_sub, v_band, v_neg, v_trB, v_trI, v_trN, v_lt, v_le, v_gt, v_ge, v_eqI, v_neI, v_eqS, v_neS, v_isn, v_isnn, v_int, v_abs, v_lenT, v_lenL, v_tupL, v_lstL, List.set_cons_zero, List.set_cons_succ, List.map_cons, List.map_nil, List.cons_append, List.nil_append, List.replicate_succ, List.replicate_zero, dataOf, Option.map_some, Option.some.injEq, exists_eq_left', List.length_cons, List.length_nil, asOI]
  refine ⟨by decide, ?_⟩
  refine some_ok (R := []) (.inl rfl) h1 (by simp) (by simp) fun x a b hx h2 => ?_
  obtain ⟨w, rfl, hw1, hw2⟩ := mem_int (xs := [0, 1, 2, 15, 16, 17, 255, 256, 300, v]) (lo := 0) (hi := 300) hx (by
    intro w m
    simp only [List.mem_cons, List.mem_nil_iff, or_false] at m
    omega)
  try simp (implicitDefEqProofs := false) only [post_bnd, post_ret, a_k, a_v, getV_cons0, getV_cons, a_bin, a_cmp, a_ch, a_neg, a_not, a_and, a_or, a_ite, a_sub, a_slc, a_no, a_so, a_nil', a_cons', a_tup, a_lst, a_nl, a_ndk, a_call, a_call0, a_bi, a_isi, a_app, a_sd, a_tst, a_sk, a_brk, a_cnt, a_bad, a_ex, a_ret, a_retN, a_if, a_asg, a_par2, a_par3, a_set, a_for, a_seq, a_enum, a_rng1, a_rng2, a_lc, a_lc2, a_aug, a_disp, a_op2, a_tsub, a_tin, a_tnin, a_itemsL, v_add, v_sub, v_band, v_neg, v_trB, v_trI, v_trN, v_lt, v_le, v_gt, v_ge, v_eqI, v_neI, v_eqS, v_neS, v_isn, v_isnn, v_int, v_abs, v_lenT, v_lenL, v_tupL, v_lstL, List.set_cons_zero, List.set_cons_succ, List.map_cons, List.map_nil, List.cons_append, List.nil_append, List.replicate_succ, List.replicate_zero, dataOf, Option.map_some, Option.some.injEq, exists_eq_left', List.length_cons, List.length_nil, asOI, v_min2]
  have hm : 0 ≤ (if 30 < w then 30 else w) ∧ (if 30 < w then 30 else w) ≤ 30 := by split <;> omega
  generalize (if 30 < w then 30 else w) = m at *
  refine ⟨_, items_rng ⟨by omega, by omega⟩, ?_⟩
  refine lc_cup Po _ _ _ _ h2 ?_ ?_
  · intro x hx c0 c1 q h0 k
    unfold lcT
    have eb : ∀ w0 w1 : Option W, bindP (.nm 2) (.d x) (wipeW [w0, w1, none] [2]) = some [w0, w1, some (.d x)] := fun _ _ => rfl
    try simp (implicitDefEqProofs := false) only [eb, opt_some, bnd_ret, yesM, if_true, post_bnd, post_ret, a_k, a_v, getV_cons0, getV_cons, a_bin, a_cmp, a_ch, a_neg, a_not, a_and, a_or, a_ite, a_sub, a_slc, a_no, a_so, a_nil', a_cons', a_tup, a_lst, a_nl, a_ndk, a_call, a_call0, a_bi, a_isi, a_app, a_sd, a_tst, a_sk, a_brk, a_cnt, a_bad, a_ex, a_ret, a_retN, a_if, a_asg, a_par2, a_par3, a_set, a_for, a_seq, a_enum, a_rng1, a_rng2, a_lc, a_lc2, a_aug, a_disp, a_op2, a_tsub, a_tin, a_tnin, a_itemsL, v_add, v_sub, v_band, v_neg, v_trB, v_trI, v_trN, v_lt, v_le, v_gt, v_ge, v_eqI, v_neI, v_eqS, v_neS, v_isn, v_isnn, v_int, v_abs, v_lenT, v_lenL, v_tupL, v_lstL, List.set_cons_zero, List.set_cons_succ, List.map_cons, List.map_nil, List.cons_append, List.nil_append, List.replicate_succ, List.replicate_zero, dataOf, Option.map_some, Option.some.injEq, exists_eq_left', List.length_cons, List.length_nil, asOI]
    refine roll_ok (R := []) h0 ⟨by decide, by decide⟩ fun v a b hv1 hv2 h1 => ?_
    try simp (implicitDefEqProofs := false) only [post_bnd, post_ret, a_k, a_v, getV_cons0, getV_cons, a_bin, a_cmp, a_ch, a_neg, a_not, a_and, a_or, a_ite, a_sub, a_slc, a_no, a_so, a_nil', a_cons', a_tup, a_lst, a_nl, a_ndk, a_call, a_call0, a_bi, a_isi, a_app, a_sd, a_tst, a_sk, a_brk, a_cnt, a_bad, a_ex, a_ret, a_retN, a_if, a_asg, a_par2, a_par3, a_set, a_for, a_seq, a_enum, a_rng1, a_rng2, a_lc, a_lc2, a_aug, a_disp, a_op2, a_tsub, a_tin, a_tnin, a_itemsL, v_add, v_sub, v_band, v_neg, v_trB, v_trI, v_trN, v_lt, v_le, v_gt, v_ge, v_eqI, v_neI, v_eqS, v_neS, v_isn, v_isnn, v_int, v_abs, v_lenT, v_lenL, v_tupL, v_lstL, List.set_cons_zero, List.set_cons_succ, List.map_cons, List.map_nil, List.cons_append, List.nil_append, List.replicate_succ, List.replicate_zero, dataOf, Option.map_some, Option.some.injEq, exists_eq_left', List.length_cons, List.length_nil, asOI]
    refine ⟨by decide, ?_⟩
    refine some_ok (R := []) (.inl rfl) h1 (by simp) (by simp) fun x a b hx h2 => ?_
    obtain ⟨w, rfl, hw1, hw2⟩ := mem_int (xs := [13, 10, 48, 97, 255, v]) (lo := 0) (hi := 255) hx (by
      intro w m
      simp only [List.mem_cons, List.mem_nil_iff, or_false] at m
      omega)
    try simp (implicitDefEqProofs := false) only [post_bnd, post_ret, a_k, a_v, getV_cons0, getV_cons, a_bin, a_cmp, a_ch, a_neg, a_not, a_and, a_or, a_ite, a_sub, a_slc, a_no, a_so, a_nil', a_cons', a_tup, a_lst, a_nl, a_ndk, a_call, a_call0, a_bi, a_isi, a_app, a_sd, a_tst, a_sk, a_brk, a_cnt, a_bad, a_ex, a_ret, a_retN, a_if, a_asg, a_par2, a_par3, a_set, a_for, a_seq, a_enum, a_rng1, a_rng2, a_lc, a_lc2, a_aug, a_disp, a_op2, a_tsub, a_tin, a_tnin, a_itemsL, v_add, v_sub, v_band, v_neg, v_trB, v_trI, v_trN, v_lt, v_le, v_gt, v_ge, v_eqI, v_neI, v_eqS, v_neS, v_isn, v_isnn, v_int, v_abs, v_lenT, v_lenL, v_tupL, v_lstL, List.set_cons_zero, List.set_cons_succ, List.map_cons, List.map_nil, List.cons_append, List.nil_append, List.replicate_succ, List.replicate_zero, dataOf, Option.map_some, Option.some.injEq, exists_eq_left', List.length_cons, List.length_nil, asOI, asD]
    exact k _ _ _ ⟨w, rfl, hw1, by omega⟩ h2
  · intro ys a b hys hl h3
    obtain ⟨os, rfl, ho⟩ := po_list ys hys
    rw [List.length_map, List.length_map, List.length_range] at hl
    refine ⟨by rw [List.length_map]; show _ ≤ 16777216; omega, ?_⟩
    try simp (implicitDefEqProofs := false) only [post_bnd, post_ret, a_k, a_v, getV_cons0, getV_cons, a_bin, a_cmp, a_ch, a_neg, a_not, a_and, a_or, a_ite, a_sub, a_slc, a_no, a_so, a_nil', a_cons', a_tup, a_lst, a_nl, a_ndk, a_call, a_call0, a_bi, a_isi, a_app, a_sd, a_tst, a_sk, a_brk, a_cnt, a_bad, a_ex, a_ret, a_retN, a_if, a_asg, a_par2, a_par3, a_set, a_for, a_seq, a_enum, a_rng1, a_rng2, a_lc, a_lc2, a_aug, a_disp, a_op2, a_tsub, a_tin, a_tnin, a_itemsL, v_add, v_sub, v_band, v_neg, v_trB, v_trI, v_trN, v_lt, v_le, v_gt, v_ge, v_eqI, v_neI, v_eqS, v_neS, v_isn, v_isnn, v_int, v_abs, v_lenT, v_lenL, v_tupL, v_lstL, List.set_cons_zero, List.set_cons_succ, List.map_cons, List.map_nil, List.cons_append, List.nil_append, List.replicate_succ, List.replicate_zero, dataOf, Option.map_some, Option.some.injEq, exists_eq_left', List.length_cons, List.length_nil, asOI]
    rw [v_mulL ⟨by decide, by decide, by rw [List.length_map]; show _ * 10 ≤ _; omega⟩]
    try simp (implicitDefEqProofs := false) only [post_bnd, post_ret, a_k, a_v, getV_cons0, getV_cons, a_bin, a_cmp, a_ch, a_neg, a_not, a_and, a_or, a_ite, a_sub, a_slc, a_no, a_so, a_nil', a_cons', a_tup, a_lst, a_nl, a_ndk, a_call, a_call0, a_bi, a_isi, a_app, a_sd, a_tst, a_sk, a_brk, a_cnt, a_bad, a_ex, a_ret, a_retN, a_if, a_asg, a_par2, a_par3, a_set, a_for, a_seq, a_enum, a_rng1, a_rng2, a_lc, a_lc2, a_aug, a_disp, a_op2, a_tsub, a_tin, a_tnin, a_itemsL, v_add, v_sub, v_band, v_neg, v_trB, v_trI, v_trN, v_lt, v_le, v_gt, v_ge, v_eqI, v_neI, v_eqS, v_neS, v_isn, v_isnn, v_int, v_abs, v_lenT, v_lenL, v_tupL, v_lstL, List.set_cons_zero, List.set_cons_succ, List.map_cons, List.map_nil, List.cons_append, List.nil_append, List.replicate_succ, List.replicate_zero, dataOf, Option.map_some, Option.some.injEq, exists_eq_left', List.length_cons, List.length_nil, asOI]
    have e : (List.replicate (10 : Int).toNat (os.map PyData.int)).flatten = ((List.replicate 10 os).flatten).map .int := by
      show (List.replicate 10 (os.map PyData.int)).flatten = _
      rw [List.map_flatten, List.map_replicate]
    rw [e, v_slT]
    have ew : w = ((w.toNat : Nat) : Int) := by omega
    rw [ew, cutTo, lvc]
    refine k _ _ _ (fun x m => ?_) (by rw [List.length_take]; omega) h3
    have m := List.mem_of_mem_take m
    obtain ⟨l, ml, mx⟩ := List.mem_flatten.mp m
    rw [(List.mem_replicate.mp ml).2] at mx
    exact ho x mx
theorem oct_take {xs : List Int} (h : oct xs) (n : Nat) : oct (xs.take n) := fun o m => h o (List.mem_of_mem_take m)
theorem oct_drop {xs : List Int} (h : oct xs) (n : Nat) : oct (xs.drop n) := fun o m => h o (List.mem_of_mem_drop m)
theorem spoilt_ok {xs : List Int} (ho : oct xs) (hl : xs.length ≤ 1500) (h0 : 0 ≤ c0) (k : ∀ ys c0' c1', oct ys → ys.length ≤ xs.length + 1 → 0 ≤ c0' → q (.d (T ys)) (CS c0' c1')) : post (m__law_spoilt [.r 0, .d (T xs)] (CS c0 c1)) q := by
  refine post_fn rfl ?_
  rw [lp_eq]
  unfold lp
  rw [sq_ap]
  unfold lp0
  try simp (implicitDefEqProofs := false) only [post_bnd, post_ret, a_k, a_v, getV_cons0, getV_cons, a_bin, a_cmp, a_ch, a_neg, a_not, a_and, a_or, a_ite, a_sub, a_slc, a_no, a_so, a_nil', a_cons', a_tup, a_lst, a_nl, a_ndk, a_call, a_call0, a_bi, a_isi, a_app, a_sd, a_tst, a_sk, a_brk, a_cnt, a_bad, a_ex, a_ret, a_retN, a_if, a_asg, a_par2, a_par3, a_set, a_for, a_seq, a_enum, a_rng1, a_rng2, a_lc, a_lc2, a_aug, a_disp, a_op2, a_tsub, a_tin, a_tnin, a_itemsL, v_add, v_sub, v_band, v_neg, v_trB, v_trI, v_trN, v_lt, v_le, v_gt, v_ge, v_eqI, v_neI, v_eqS, v_neS, v_isn, v_isnn, v_int, v_abs, v_lenT, v_lenL, v_tupL, v_lstL, List.set_cons_zero, List.set_cons_succ, List.map_cons, List.map_nil, List.cons_append, List.nil_append, List.replicate_succ, List.replicate_zero, dataOf, Option.map_some, Option.some.injEq, exists_eq_left', List.length_cons, List.length_nil, asOI, List.length_map]
  refine roll_ok (R := []) h0 ⟨by omega, by omega⟩ fun v a b hv1 hv2 h1 => ?_
  try simp (implicitDefEqProofs := false) only [post_bnd, post_ret, a_k, a_v, getV_cons0, getV_cons, a_bin, a_cmp, a_ch, a_neg, a_not, a_and, a_or, a_ite, a_sub, a_slc, a_no, a_so, a_nil', a_cons', a_tup, a_lst, a_nl, a_ndk, a_call, a_call0, a_bi, a_isi, a_app, a_sd, a_tst, a_sk, a_brk, a_cnt, a_bad, a_ex, a_ret, a_retN, a_if, a_asg, a_par2, a_par3, a_set, a_for, a_seq, a_enum, a_rng1, a_rng2, a_lc, a_lc2, a_aug, a_disp, a_op2, a_tsub, a_tin, a_tnin, a_itemsL, v_add, v_sub, v_band, v_neg, v_trB, v_trI, v_trN, v_lt, v_le, v_gt, v_ge, v_eqI, v_neI, v_eqS, v_neS, v_isn, v_isnn, v_int, v_abs, v_lenT, v_lenL, v_tupL, v_lstL, List.set_cons_zero, List.set_cons_succ, List.map_cons, List.map_nil, List.cons_append, List.nil_append, List.replicate_succ, List.replicate_zero, dataOf, Option.map_some, Option.some.injEq, exists_eq_left', List.length_cons, List.length_nil, asOI]
  obtain ⟨p, rfl⟩ : ∃ p : Nat, v = (p : Nat) := ⟨v.toNat, by omega⟩
  rw [sq_ap]
  unfold lp1
  try simp (implicitDefEqProofs := false) only [post_bnd, post_ret, a_k, a_v, getV_cons0, getV_cons, a_bin, a_cmp, a_ch, a_neg, a_not, a_and, a_or, a_ite, a_sub, a_slc, a_no, a_so, a_nil', a_cons', a_tup, a_lst, a_nl, a_ndk, a_call, a_call0, a_bi, a_isi, a_app, a_sd, a_tst, a_sk, a_brk, a_cnt, a_bad, a_ex, a_ret, a_retN, a_if, a_asg, a_par2, a_par3, a_set, a_for, a_seq, a_enum, a_rng1, a_rng2, a_lc, a_lc2, a_aug, a_disp, a_op2, a_tsub, a_tin, a_tnin, a_itemsL, v_add, v_sub, v_band, v_neg, v_trB, v_trI, v_trN, v_lt, v_le, v_gt, v_ge, v_eqI, v_neI, v_eqS, v_neS, v_isn, v_isnn, v_int, v_abs, v_lenT, v_lenL, v_tupL, v_lstL, List.set_cons_zero, List.set_cons_succ, List.map_cons, List.map_nil, List.cons_append, List.nil_append, List.replicate_succ, List.replicate_zero, dataOf, Option.map_some, Option.some.injEq, exists_eq_left', List.length_cons, List.length_nil, asOI]
  refine roll_ok (R := []) h1 ⟨by decide, by decide⟩ fun v a b hu1 hu2 h2 => ?_
  try simp (implicitDefEqProofs := false) only [post_bnd, post_ret, a_k, a_v, getV_cons0, getV_cons, a_bin, a_cmp, a_ch, a_neg, a_not, a_and, a_or, a_ite, a_sub, a_slc, a_no, a_so, a_nil', a_cons', a_tup, a_lst, a_nl, a_ndk, a_call, a_call0, a_bi, a_isi, a_app, a_sd, a_tst, a_sk, a_brk, a_cnt, a_bad, a_ex, a_ret, a_retN, a_if, a_asg, a_par2, a_par3, a_set, a_for, a_seq, a_enum, a_rng1, a_rng2, a_lc, a_lc2, a_aug, a_disp, a_op2, a_tsub, a_tin, a_tnin, a_itemsL, v_add, v_sub, v_band, v_neg, v_trB, v_trI, v_trN, v_lt, v_le, v_gt, v_ge, v_eqI, v_neI, v_eqS, v_neS, v_isn, v_isnn, v_int, v_abs, v_lenT, v_lenL, v_tupL, v_lstL, List.set_cons_zero, List.set_cons_succ, List.map_cons, List.map_nil, List.cons_append, List.nil_append, List.replicate_succ, List.replicate_zero, dataOf, Option.map_some, Option.some.injEq, exists_eq_left', List.length_cons, List.length_nil, asOI]
  refine ⟨by decide, ?_⟩
  refine some_ok (R := []) (.inl rfl) h2 (by simp) (by simp) fun x a b hx h3 => ?_
  obtain ⟨w, rfl, hw1, hw2⟩ := mem_int (xs := [13, 10, 48, 49, 65, 71, 96, 102, 103, 64, 47, 58, 32, 255, v]) (lo := 0) (hi := 255) hx (by
    intro w m
    simp only [List.mem_cons, List.mem_nil_iff, or_false] at m
    omega)
  try simp (implicitDefEqProofs := false) only [post_bnd, post_ret, a_k, a_v, getV_cons0, getV_cons, a_bin, a_cmp, a_ch, a_neg, a_not, a_and, a_or, a_ite, a_sub, a_slc, a_no, a_so, a_nil', a_cons', a_tup, a_lst, a_nl, a_ndk, a_call, a_call0, a_bi, a_isi, a_app, a_sd, a_tst, a_sk, a_brk, a_cnt, a_bad, a_ex, a_ret, a_retN, a_if, a_asg, a_par2, a_par3, a_set, a_for, a_seq, a_enum, a_rng1, a_rng2, a_lc, a_lc2, a_aug, a_disp, a_op2, a_tsub, a_tin, a_tnin, a_itemsL, v_add, v_sub, v_band, v_neg, v_trB, v_trI, v_trN, v_lt, v_le, v_gt, v_ge, v_eqI, v_neI, v_eqS, v_neS, v_isn, v_isnn, v_int, v_abs, v_lenT, v_lenL, v_tupL, v_lstL, List.set_cons_zero, List.set_cons_succ, List.map_cons, List.map_nil, List.cons_append, List.nil_append, List.replicate_succ, List.replicate_zero, dataOf, Option.map_some, Option.some.injEq, exists_eq_left', List.length_cons, List.length_nil, asOI]
  rw [sq_ap]
  unfold lp2
  try simp (implicitDefEqProofs := false) only [post_bnd, post_ret, a_k, a_v, getV_cons0, getV_cons, a_bin, a_cmp, a_ch, a_neg, a_not, a_and, a_or, a_ite, a_sub, a_slc, a_no, a_so, a_nil', a_cons', a_tup, a_lst, a_nl, a_ndk, a_call, a_call0, a_bi, a_isi, a_app, a_sd, a_tst, a_sk, a_brk, a_cnt, a_bad, a_ex, a_ret, a_retN, a_if, a_asg, a_par2, a_par3, a_set, a_for, a_seq, a_enum, a_rng1, a_rng2, a_lc, a_lc2, a_aug, a_disp, a_op2, a_tsub, a_tin, a_tnin, a_itemsL, v_add, v_sub, v_band, v_neg, v_trB, v_trI, v_trN, v_lt, v_le, v_gt, v_ge, v_eqI, v_neI, v_eqS, v_neS, v_isn, v_isnn, v_int, v_abs, v_lenT, v_lenL, v_tupL, v_lstL, List.set_cons_zero, List.set_cons_succ, List.map_cons, List.map_nil, List.cons_append, List.nil_append, List.replicate_succ, List.replicate_zero, dataOf, Option.map_some, Option.some.injEq, exists_eq_left', List.length_cons, List.length_nil, asOI]
  refine roll_ok (R := []) h3 ⟨by decide, by decide⟩ fun y a b hy1 hy2 h4 => ?_
  try simp (implicitDefEqProofs := false) only [post_bnd, post_ret, a_k, a_v, getV_cons0, getV_cons, a_bin, a_cmp, a_ch, a_neg, a_not, a_and, a_or, a_ite, a_sub, a_slc, a_no, a_so, a_nil', a_cons', a_tup, a_lst, a_nl, a_ndk, a_call, a_call0, a_bi, a_isi, a_app, a_sd, a_tst, a_sk, a_brk, a_cnt, a_bad, a_ex, a_ret, a_retN, a_if, a_asg, a_par2, a_par3, a_set, a_for, a_seq, a_enum, a_rng1, a_rng2, a_lc, a_lc2, a_aug, a_disp, a_op2, a_tsub, a_tin, a_tnin, a_itemsL, v_add, v_sub, v_band, v_neg, v_trB, v_trI, v_trN, v_lt, v_le, v_gt, v_ge, v_eqI, v_neI, v_eqS, v_neS, v_isn, v_isnn, v_int, v_abs, v_lenT, v_lenL, v_tupL, v_lstL, List.set_cons_zero, List.set_cons_succ, List.map_cons, List.map_nil, List.cons_append, List.nil_append, List.replicate_succ, List.replicate_zero, dataOf, Option.map_some, Option.some.injEq, exists_eq_left', List.length_cons, List.length_nil, asOI]
  unfold lp3
  try simp (implicitDefEqProofs := false) only [↓reduceIte, post_bnd, post_ret, a_k, a_v, getV_cons0, getV_cons, a_bin, a_cmp, a_ch, a_neg, a_not, a_and, a_or, a_ite, a_sub, a_slc, a_no, a_so, a_nil', a_cons', a_tup, a_lst, a_nl, a_ndk, a_call, a_call0, a_bi, a_isi, a_app, a_sd, a_tst, a_sk, a_brk, a_cnt, a_bad, a_ex, a_ret, a_retN, a_if, a_asg, a_par2, a_par3, a_set, a_for, a_seq, a_enum, a_rng1, a_rng2, a_lc, a_lc2, a_aug, a_disp, a_op2, a_tsub, a_tin, a_tnin, a_itemsL, v_add, v_sub, v_band, v_neg, v_trB, v_trI, v_trN, v_lt, v_le, v_gt, v_ge, v_eqI, v_neI, v_eqS, v_neS, v_isn, v_isnn, v_int, v_abs, v_lenT, v_lenL, v_tupL, v_lstL, List.set_cons_zero, List.set_cons_succ, List.map_cons, List.map_nil, List.cons_append, List.nil_append, List.replicate_succ, List.replicate_zero, dataOf, Option.map_some, Option.some.injEq, exists_eq_left', List.length_cons, List.length_nil, asOI]
  have lt : (xs.take p).length ≤ p ∧ (xs.take p).length ≤ xs.length := by rw [List.length_take]; omega
  have q1 : ((p : Nat) : Int) + 1 = ((p + 1 : Nat) : Int) := by omega
  have q0 : ((p : Nat) : Int) + 0 = ((p + 0 : Nat) : Int) := by omega
  by_cases c : y = 0
  · subst c
    try simp (implicitDefEqProofs := false) only [↓reduceIte, beq_self_eq_true, post_bnd, post_ret, a_k, a_v, getV_cons0, getV_cons, a_bin, a_cmp, a_ch, a_neg, a_not, a_and, a_or, a_ite, a_sub, a_slc, a_no, a_so, a_nil', a_cons', a_tup, a_lst, a_nl, a_ndk, a_call, a_call0, a_bi, a_isi, a_app, a_sd, a_tst, a_sk, a_brk, a_cnt, a_bad, a_ex, a_ret, a_retN, a_if, a_asg, a_par2, a_par3, a_set, a_for, a_seq, a_enum, a_rng1, a_rng2, a_lc, a_lc2, a_aug, a_disp, a_op2, a_tsub, a_tin, a_tnin, a_itemsL, v_add, v_sub, v_band, v_neg, v_trB, v_trI, v_trN, v_lt, v_le, v_gt, v_ge, v_eqI, v_neI, v_eqS, v_neS, v_isn, v_isnn, v_int, v_abs, v_lenT, v_lenL, v_tupL, v_lstL, List.set_cons_zero, List.set_cons_succ, List.map_cons, List.map_nil, List.cons_append, List.nil_append, List.replicate_succ, List.replicate_zero, dataOf, Option.map_some, Option.some.injEq, exists_eq_left', List.length_cons, List.length_nil, asOI]
    rw [v_slT, cutTo, q1, v_slT, cutFrom, v_catT (by rw [List.length_drop]; omega), lvc]
    exact k _ _ _ (oct_app (oct_take ho _) (oct_drop ho _)) (by rw [List.length_append, List.length_drop, List.length_take]; omega) h4
  · have e : (y == 0) = false := beq_eq_false_iff_ne.mpr c
    try simp (implicitDefEqProofs := false) only [↓reduceIte, e, Bool.false_eq_true, post_bnd, post_ret, a_k, a_v, getV_cons0, getV_cons, a_bin, a_cmp, a_ch, a_neg, a_not, a_and, a_or, a_ite, a_sub, a_slc, a_no, a_so, a_nil', a_cons', a_tup, a_lst, a_nl, a_ndk, a_call, a_call0, a_bi, a_isi, a_app, a_sd, a_tst, a_sk, a_brk, a_cnt, a_bad, a_ex, a_ret, a_retN, a_if, a_asg, a_par2, a_par3, a_set, a_for, a_seq, a_enum, a_rng1, a_rng2, a_lc, a_lc2, a_aug, a_disp, a_op2, a_tsub, a_tin, a_tnin, a_itemsL, v_add, v_sub, v_band, v_neg, v_trB, v_trI, v_trN, v_lt, v_le, v_gt, v_ge, v_eqI, v_neI, v_eqS, v_neS, v_isn, v_isnn, v_int, v_abs, v_lenT, v_lenL, v_tupL, v_lstL, List.set_cons_zero, List.set_cons_succ, List.map_cons, List.map_nil, List.cons_append, List.nil_append, List.replicate_succ, List.replicate_zero, dataOf, Option.map_some, Option.some.injEq, exists_eq_left', List.length_cons, List.length_nil, asOI]
    rw [v_slT, cutTo]
    refine ⟨by decide, ?_⟩
    have e1 : (PyData.tuple [.int w] : D) = T [w] := rfl
    rw [e1, v_catT (by show _ + 1 ≤ _; omega)]
    have fin : ∀ j : Nat, j ≤ 1 → post (slcW (.d (T xs)) (some ((p + j : Nat) : Int)) none (CS a b)) (fun y S2 => post (binW .add (.d (T (xs.take p ++ [w]))) y S2) fun w S1 => q w (leave (CS c0 c1).length w S1)) := by
      intro j hj
      rw [v_slT, cutFrom, v_catT (by rw [List.length_append, List.length_drop]; show _ + 1 + _ ≤ _; omega), show leave (CS c0 c1).length _ (CS a b) = CS a b from leave_same (Nat.le_refl 1)]
      refine k _ _ _ (oct_app (oct_app (oct_take ho _) ?_) (oct_drop ho _)) (by rw [List.length_append, List.length_append, List.length_drop, List.length_take]; show _ + 1 + _ ≤ _; omega) h4
      intro o m
      rw [List.mem_singleton.mp m]; omega
    by_cases c2 : 1 < y
    · rw [decide_eq_true c2]
      try simp (implicitDefEqProofs := false) only [↓reduceIte, post_bnd, post_ret, a_k, a_v, getV_cons0, getV_cons, a_bin, a_cmp, a_ch, a_neg, a_not, a_and, a_or, a_ite, a_sub, a_slc, a_no, a_so, a_nil', a_cons', a_tup, a_lst, a_nl, a_ndk, a_call, a_call0, a_bi, a_isi, a_app, a_sd, a_tst, a_sk, a_brk, a_cnt, a_bad, a_ex, a_ret, a_retN, a_if, a_asg, a_par2, a_par3, a_set, a_for, a_seq, a_enum, a_rng1, a_rng2, a_lc, a_lc2, a_aug, a_disp, a_op2, a_tsub, a_tin, a_tnin, a_itemsL, v_add, v_sub, v_band, v_neg, v_trB, v_trI, v_trN, v_lt, v_le, v_gt, v_ge, v_eqI, v_neI, v_eqS, v_neS, v_isn, v_isnn, v_int, v_abs, v_lenT, v_lenL, v_tupL, v_lstL, List.set_cons_zero, List.set_cons_succ, List.map_cons, List.map_nil, List.cons_append, List.nil_append, List.replicate_succ, List.replicate_zero, dataOf, Option.map_some, Option.some.injEq, exists_eq_left', List.length_cons, List.length_nil, asOI]
      rw [q1]
      exact fin 1 (Nat.le_refl _)
    · rw [decide_eq_false c2]
      try simp (implicitDefEqProofs := false) only [↓reduceIte, Bool.false_eq_true, post_bnd, post_ret, a_k, a_v, getV_cons0, getV_cons, a_bin, a_cmp, a_ch, a_neg, a_not, a_and, a_or, a_ite, a_sub, a_slc, a_no, a_so, a_nil', a_cons', a_tup, a_lst, a_nl, a_ndk, a_call, a_call0, a_bi, a_isi, a_app, a_sd, a_tst, a_sk, a_brk, a_cnt, a_bad, a_ex, a_ret, a_retN, a_if, a_asg, a_par2, a_par3, a_set, a_for, a_seq, a_enum, a_rng1, a_rng2, a_lc, a_lc2, a_aug, a_disp, a_op2, a_tsub, a_tin, a_tnin, a_itemsL, v_add, v_sub, v_band, v_neg, v_trB, v_trI, v_trN, v_lt, v_le, v_gt, v_ge, v_eqI, v_neI, v_eqS, v_neS, v_isn, v_isnn, v_int, v_abs, v_lenT, v_lenL, v_tupL, v_lstL, List.set_cons_zero, List.set_cons_succ, List.map_cons, List.map_nil, List.cons_append, List.nil_append, List.replicate_succ, List.replicate_zero, dataOf, Option.map_some, Option.some.injEq, exists_eq_left', List.length_cons, List.length_nil, asOI]
      rw [q0]
      exact fin 0 (by omega)
end
end MP.Q0

namespace MP.Q0
open PySem L2 PySem.Spec PyProof.Rows
section
variable {q : W → Sto → Prop} {Q : Fl → Sto → Prop} {c0 c1 : Int}
def dA : List Int := [48, 49, 50, 51, 52, 53, 54, 55, 56, 57, 65, 66, 67, 68, 69, 70]
def dB : List Int := [48, 49, 50, 51, 52, 53, 54, 55, 56, 57, 97, 98, 99, 100, 101, 102]
theorem dig_at {ds : List Int} (h : ds = dA ∨ ds = dB) : ∀ k < 16, ∃ o, L2.atI (ds.map PyData.int) ((k : Nat) : Int) = some (.int o) ∧ 0 ≤ o ∧ o < 256 := by
  intro k hk
  have h16 : ds.length = 16 := by rcases h with e | e <;> subst e <;> rfl
  refine ⟨ds[k], L2.atI_nat (by rw [List.getElem?_map, List.getElem?_eq_getElem (by omega)]; rfl), ?_⟩
  have m := List.getElem_mem (l := ds) (n := k) (by omega)
  have hA : ∀ o ∈ dA, 0 ≤ o ∧ o < 256 := by decide
  have hB : ∀ o ∈ dB, 0 ≤ o ∧ o < 256 := by decide
  rcases h with e | e <;> subst e
  · exact hA _ m
  · exact hB _ m
theorem mul48 {S : Sto} {q : W → Sto → Prop} {v : Int} (h : 0 ≤ v ∧ v ≤ 1000) : post (mulT (.d (.tuple [.int 48])) (.d (.int v)) S) q = q (.d (T (List.replicate v.toNat 48))) S := by
  rw [v_mulT ⟨by omega, by omega, by show (1 : Int) * v ≤ _; omega⟩]
  have e : (List.replicate v.toNat [(PyData.int 48 : D)]).flatten = (List.replicate v.toNat (48 : Int)).map .int := by
    rw [List.map_replicate]
    generalize v.toNat = n
    induction n with
    | zero => rfl
    | succ n ih => rw [List.replicate_succ, List.flatten_cons, ih, List.replicate_succ]; rfl
  rw [e]
theorem oct_rep (n : Nat) : oct (List.replicate n 48) := fun o m => by rw [(List.mem_replicate.mp m).2]; omega
/-- one chunk of the law's own -/
theorem luB_ok {w1 x5 x6 x7 : Option W} {found left : List Int} {most : Int} (h0 : 0 ≤ c0) (hm : 1 ≤ most ∧ most ≤ 300) (hl : 1 ≤ left.length ∧ left.length ≤ 120) (hf : found.length ≤ 100000) (of' : oct found) (ol : oct left)
    (k : ∀ c0' c1' (m : Nat) (num : List Int) x5 x6 x7, 0 ≤ c0' → 1 ≤ m → m ≤ left.length → oct num → num.length ≤ 4 → Q (.nx [some (.r 0), w1, some (.d (T (found ++ num ++ [13, 10] ++ left.take m ++ [13, 10]))), some (.d (T (left.drop m))), some (.d (.int most)), x5, x6, x7]) (CS c0' c1')) :
    post (luB [some (.r 0), w1, some (.d (T found)), some (.d (T left)), some (.d (.int most)), x5, x6, x7] (CS c0 c1)) Q := by
  unfold luB
  rw [sq_ap]
  unfold luB0
  try simp (implicitDefEqProofs := false) only [post_bnd, post_ret, a_k, a_v, getV_cons0, getV_cons, a_bin, a_cmp, a_ch, a_neg, a_not, a_and, a_or, a_ite, a_sub, a_slc, a_no, a_so, a_nil', a_cons', a_tup, a_lst, a_nl, a_ndk, a_call, a_call0, a_bi, a_isi, a_app, a_sd, a_tst, a_sk, a_brk, a_cnt, a_bad, a_ex, a_ret, a_retN, a_if, a_asg, a_par2, a_par3, a_set, a_for, a_seq, a_enum, a_rng1, a_rng2, a_lc, a_lc2, a_aug, a_disp, a_op2, a_tsub, a_tin, a_tnin, a_itemsL, v_add, v_sub, v_band, v_neg, v_trB, v_trI, v_trN, v_lt, v_le, v_gt, v_ge, v_eqI, v_neI, v_eqS, v_neS, v_isn, v_isnn, v_int, v_abs, v_lenT, v_lenL, v_tupL, v_lstL, List.set_cons_zero, List.set_cons_succ, List.map_cons, List.map_nil, List.cons_append, List.nil_append, List.replicate_succ, List.replicate_zero, dataOf, Option.map_some, Option.some.injEq, exists_eq_left', List.length_cons, List.length_nil, asOI, List.length_map]
  refine roll_ok (R := []) h0 ⟨by omega, by omega⟩ fun v a b hv1 hv2 h1 => ?_
  try simp (implicitDefEqProofs := false) only [post_bnd, post_ret, a_k, a_v, getV_cons0, getV_cons, a_bin, a_cmp, a_ch, a_neg, a_not, a_and, a_or, a_ite, a_sub, a_slc, a_no, a_so, a_nil', a_cons', a_tup, a_lst, a_nl, a_ndk, a_call, a_call0, a_bi, a_isi, a_app, a_sd, a_tst, a_sk, a_brk, a_cnt, a_bad, a_ex, a_ret, a_retN, a_if, a_asg, a_par2, a_par3, a_set, a_for, a_seq, a_enum, a_rng1, a_rng2, a_lc, a_lc2, a_aug, a_disp, a_op2, a_tsub, a_tin, a_tnin, a_itemsL, v_add, v_sub, v_band, v_neg, v_trB, v_trI, v_trN, v_lt, v_le, v_gt, v_ge, v_eqI, v_neI, v_eqS, v_neS, v_isn, v_isnn, v_int, v_abs, v_lenT, v_lenL, v_tupL, v_lstL, List.set_cons_zero, List.set_cons_succ, List.map_cons, List.map_nil, List.cons_append, List.nil_append, List.replicate_succ, List.replicate_zero, dataOf, Option.map_some, Option.some.injEq, exists_eq_left', List.length_cons, List.length_nil, asOI, v_min2]
  obtain ⟨m, hme, hm1, hm2⟩ : ∃ m : Nat, (if 1 + v < (left.length : Int) then 1 + v else (left.length : Int)) = (m : Int) ∧ 1 ≤ m ∧ m ≤ left.length := by
    by_cases c : 1 + v < (left.length : Int)
    · rw [if_pos c]; exact ⟨(1 + v).toNat, by omega, by omega, by omega⟩
    · rw [if_neg c]; exact ⟨left.length, rfl, hl.1, Nat.le_refl _⟩
  rw [hme]
  rw [sq_ap]
  unfold luB1
  try simp (implicitDefEqProofs := false) only [post_bnd, post_ret, a_k, a_v, getV_cons0, getV_cons, a_bin, a_cmp, a_ch, a_neg, a_not, a_and, a_or, a_ite, a_sub, a_slc, a_no, a_so, a_nil', a_cons', a_tup, a_lst, a_nl, a_ndk, a_call, a_call0, a_bi, a_isi, a_app, a_sd, a_tst, a_sk, a_brk, a_cnt, a_bad, a_ex, a_ret, a_retN, a_if, a_asg, a_par2, a_par3, a_set, a_for, a_seq, a_enum, a_rng1, a_rng2, a_lc, a_lc2, a_aug, a_disp, a_op2, a_tsub, a_tin, a_tnin, a_itemsL, v_add, v_sub, v_band, v_neg, v_trB, v_trI, v_trN, v_lt, v_le, v_gt, v_ge, v_eqI, v_neI, v_eqS, v_neS, v_isn, v_isnn, v_int, v_abs, v_lenT, v_lenL, v_tupL, v_lstL, List.set_cons_zero, List.set_cons_succ, List.map_cons, List.map_nil, List.cons_append, List.nil_append, List.replicate_succ, List.replicate_zero, dataOf, Option.map_some, Option.some.injEq, exists_eq_left', List.length_cons, List.length_nil, asOI]
  refine ⟨by decide, by decide, by decide, by decide, ?_⟩
  refine some_ok (R := []) (.inl rfl) h1 (by simp) (by simp) fun x a b hx h2 => ?_
  obtain ⟨ds, hds, hcat⟩ : ∃ ds, (ds = dA ∨ ds = dB) ∧ ∀ q : W → Sto → Prop, post (binW .add (.d (.list [.int 48, .int 49, .int 50, .int 51, .int 52, .int 53, .int 54, .int 55, .int 56, .int 57])) (.d x) (CS a b)) q = q (.d (.list (ds.map .int))) (CS a b) := by
    simp only [List.mem_cons, List.mem_nil_iff, or_false] at hx
    rcases hx with e | e
    · subst e; exact ⟨dA, .inl rfl, fun q => v_catL (by decide)⟩
    · subst e; exact ⟨dB, .inr rfl, fun q => v_catL (by decide)⟩
  rw [hcat]
  have at' := dig_at hds
  rw [sq_ap]
  unfold luB2
  try simp (implicitDefEqProofs := false) only [post_bnd, post_ret, a_k, a_v, getV_cons0, getV_cons, a_bin, a_cmp, a_ch, a_neg, a_not, a_and, a_or, a_ite, a_sub, a_slc, a_no, a_so, a_nil', a_cons', a_tup, a_lst, a_nl, a_ndk, a_call, a_call0, a_bi, a_isi, a_app, a_sd, a_tst, a_sk, a_brk, a_cnt, a_bad, a_ex, a_ret, a_retN, a_if, a_asg, a_par2, a_par3, a_set, a_for, a_seq, a_enum, a_rng1, a_rng2, a_lc, a_lc2, a_aug, a_disp, a_op2, a_tsub, a_tin, a_tnin, a_itemsL, v_add, v_sub, v_band, v_neg, v_trB, v_trI, v_trN, v_lt, v_le, v_gt, v_ge, v_eqI, v_neI, v_eqS, v_neS, v_isn, v_isnn, v_int, v_abs, v_lenT, v_lenL, v_tupL, v_lstL, List.set_cons_zero, List.set_cons_succ, List.map_cons, List.map_nil, List.cons_append, List.nil_append, List.replicate_succ, List.replicate_zero, dataOf, Option.map_some, Option.some.injEq, exists_eq_left', List.length_cons, List.length_nil, asOI]
  rw [v_fdiv (by decide), d256]
  obtain ⟨o1, e1, ho1⟩ := at' (m / 256) (by omega)
  rw [v_ixL e1, v_fdiv (by decide), d16]
  try simp (implicitDefEqProofs := false) only [post_bnd, post_ret, a_k, a_v, getV_cons0, getV_cons, a_bin, a_cmp, a_ch, a_neg, a_not, a_and, a_or, a_ite, a_sub, a_slc, a_no, a_so, a_nil', a_cons', a_tup, a_lst, a_nl, a_ndk, a_call, a_call0, a_bi, a_isi, a_app, a_sd, a_tst, a_sk, a_brk, a_cnt, a_bad, a_ex, a_ret, a_retN, a_if, a_asg, a_par2, a_par3, a_set, a_for, a_seq, a_enum, a_rng1, a_rng2, a_lc, a_lc2, a_aug, a_disp, a_op2, a_tsub, a_tin, a_tnin, a_itemsL, v_add, v_sub, v_band, v_neg, v_trB, v_trI, v_trN, v_lt, v_le, v_gt, v_ge, v_eqI, v_neI, v_eqS, v_neS, v_isn, v_isnn, v_int, v_abs, v_lenT, v_lenL, v_tupL, v_lstL, List.set_cons_zero, List.set_cons_succ, List.map_cons, List.map_nil, List.cons_append, List.nil_append, List.replicate_succ, List.replicate_zero, dataOf, Option.map_some, Option.some.injEq, exists_eq_left', List.length_cons, List.length_nil, asOI]
  rw [v_mod (by decide), m16]
  obtain ⟨o2, e2, ho2⟩ := at' (m / 16 % 16) (by omega)
  rw [v_ixL e2]
  rw [v_mod (by decide), m16]
  obtain ⟨o3, e3, ho3⟩ := at' (m % 16) (by omega)
  rw [v_ixL e3]
  try simp (implicitDefEqProofs := false) only [post_bnd, post_ret, a_k, a_v, getV_cons0, getV_cons, a_bin, a_cmp, a_ch, a_neg, a_not, a_and, a_or, a_ite, a_sub, a_slc, a_no, a_so, a_nil', a_cons', a_tup, a_lst, a_nl, a_ndk, a_call, a_call0, a_bi, a_isi, a_app, a_sd, a_tst, a_sk, a_brk, a_cnt, a_bad, a_ex, a_ret, a_retN, a_if, a_asg, a_par2, a_par3, a_set, a_for, a_seq, a_enum, a_rng1, a_rng2, a_lc, a_lc2, a_aug, a_disp, a_op2, a_tsub, a_tin, a_tnin, a_itemsL, v_add, v_sub, v_band, v_neg, v_trB, v_trI, v_trN, v_lt, v_le, v_gt, v_ge, v_eqI, v_neI, v_eqS, v_neS, v_isn, v_isnn, v_int, v_abs, v_lenT, v_lenL, v_tupL, v_lstL, List.set_cons_zero, List.set_cons_succ, List.map_cons, List.map_nil, List.cons_append, List.nil_append, List.replicate_succ, List.replicate_zero, dataOf, Option.map_some, Option.some.injEq, exists_eq_left', List.length_cons, List.length_nil, asOI]
  refine ⟨by decide, ?_⟩
  have et : (PyData.tuple [.int o1, .int o2, .int o3] : D) = T [o1, o2, o3] := rfl
  rw [et]
  have on : oct [o1, o2, o3] := fun o m => by
    simp only [List.mem_cons, List.mem_nil_iff, or_false] at m
    rcases m with e | e | e <;> subst e <;> assumption
  -- the last two statements, whatever the number is
  have fin : ∀ (num : List Int) (x : Int) (y : Int), 0 ≤ x → oct num → num.length ≤ 4 → post (luB4 [some (.r 0), w1, some (.d (T found)), some (.d (T left)), some (.d (.int most)), some (.d (.int (m : Nat))), some (.d (.list (ds.map .int))), some (.d (T num))] (CS x y)) Q := by
    intro num x y hx hn hnl
    unfold luB4
    have ht : (left.take m).length ≤ 120 := by rw [List.length_take]; omega
    try simp (implicitDefEqProofs := false) only [post_bnd, post_ret, a_k, a_v, getV_cons0, getV_cons, a_bin, a_cmp, a_ch, a_neg, a_not, a_and, a_or, a_ite, a_sub, a_slc, a_no, a_so, a_nil', a_cons', a_tup, a_lst, a_nl, a_ndk, a_call, a_call0, a_bi, a_isi, a_app, a_sd, a_tst, a_sk, a_brk, a_cnt, a_bad, a_ex, a_ret, a_retN, a_if, a_asg, a_par2, a_par3, a_set, a_for, a_seq, a_enum, a_rng1, a_rng2, a_lc, a_lc2, a_aug, a_disp, a_op2, a_tsub, a_tin, a_tnin, a_itemsL, v_add, v_sub, v_band, v_neg, v_trB, v_trI, v_trN, v_lt, v_le, v_gt, v_ge, v_eqI, v_neI, v_eqS, v_neS, v_isn, v_isnn, v_int, v_abs, v_lenT, v_lenL, v_tupL, v_lstL, List.set_cons_zero, List.set_cons_succ, List.map_cons, List.map_nil, List.cons_append, List.nil_append, List.replicate_succ, List.replicate_zero, dataOf, Option.map_some, Option.some.injEq, exists_eq_left', List.length_cons, List.length_nil, asOI]
    rw [v_catT (by omega)]
    refine ⟨by decide, ?_⟩
    rw [e1310, v_catT (by simp only [List.length_append, List.length_nil, List.length_cons]; omega), v_slT, cutTo, v_catT (by simp only [List.length_append, List.length_nil, List.length_cons]; omega)]
    refine ⟨by decide, ?_⟩
    rw [v_catT (by simp only [List.length_append, List.length_nil, List.length_cons]; omega), v_slT, cutFrom]
    exact k _ _ _ _ _ _ _ hx hm1 hm2 hn hnl
  rw [sq_ap]
  unfold luB3
  try simp (implicitDefEqProofs := false) only [↓reduceIte, post_bnd, post_ret, a_k, a_v, getV_cons0, getV_cons, a_bin, a_cmp, a_ch, a_neg, a_not, a_and, a_or, a_ite, a_sub, a_slc, a_no, a_so, a_nil', a_cons', a_tup, a_lst, a_nl, a_ndk, a_call, a_call0, a_bi, a_isi, a_app, a_sd, a_tst, a_sk, a_brk, a_cnt, a_bad, a_ex, a_ret, a_retN, a_if, a_asg, a_par2, a_par3, a_set, a_for, a_seq, a_enum, a_rng1, a_rng2, a_lc, a_lc2, a_aug, a_disp, a_op2, a_tsub, a_tin, a_tnin, a_itemsL, v_add, v_sub, v_band, v_neg, v_trB, v_trI, v_trN, v_lt, v_le, v_gt, v_ge, v_eqI, v_neI, v_eqS, v_neS, v_isn, v_isnn, v_int, v_abs, v_lenT, v_lenL, v_tupL, v_lstL, List.set_cons_zero, List.set_cons_succ, List.map_cons, List.map_nil, List.cons_append, List.nil_append, List.replicate_succ, List.replicate_zero, dataOf, Option.map_some, Option.some.injEq, exists_eq_left', List.length_cons, List.length_nil, asOI]
  have c255 : decide ((255 : Int) < (m : Nat)) = false := decide_eq_false (by omega)
  rw [c255]
  try simp (implicitDefEqProofs := false) only [↓reduceIte, Bool.false_eq_true, post_bnd, post_ret, a_k, a_v, getV_cons0, getV_cons, a_bin, a_cmp, a_ch, a_neg, a_not, a_and, a_or, a_ite, a_sub, a_slc, a_no, a_so, a_nil', a_cons', a_tup, a_lst, a_nl, a_ndk, a_call, a_call0, a_bi, a_isi, a_app, a_sd, a_tst, a_sk, a_brk, a_cnt, a_bad, a_ex, a_ret, a_retN, a_if, a_asg, a_par2, a_par3, a_set, a_for, a_seq, a_enum, a_rng1, a_rng2, a_lc, a_lc2, a_aug, a_disp, a_op2, a_tsub, a_tin, a_tnin, a_itemsL, v_add, v_sub, v_band, v_neg, v_trB, v_trI, v_trN, v_lt, v_le, v_gt, v_ge, v_eqI, v_neI, v_eqS, v_neS, v_isn, v_isnn, v_int, v_abs, v_lenT, v_lenL, v_tupL, v_lstL, List.set_cons_zero, List.set_cons_succ, List.map_cons, List.map_nil, List.cons_append, List.nil_append, List.replicate_succ, List.replicate_zero, dataOf, Option.map_some, Option.some.injEq, exists_eq_left', List.length_cons, List.length_nil, asOI]
  refine roll_ok (R := []) h2 ⟨by decide, by decide⟩ fun v a b hv1 hv2 h3 => ?_
  try simp (implicitDefEqProofs := false) only [↓reduceIte, post_bnd, post_ret, a_k, a_v, getV_cons0, getV_cons, a_bin, a_cmp, a_ch, a_neg, a_not, a_and, a_or, a_ite, a_sub, a_slc, a_no, a_so, a_nil', a_cons', a_tup, a_lst, a_nl, a_ndk, a_call, a_call0, a_bi, a_isi, a_app, a_sd, a_tst, a_sk, a_brk, a_cnt, a_bad, a_ex, a_ret, a_retN, a_if, a_asg, a_par2, a_par3, a_set, a_for, a_seq, a_enum, a_rng1, a_rng2, a_lc, a_lc2, a_aug, a_disp, a_op2, a_tsub, a_tin, a_tnin, a_itemsL, v_add, v_sub, v_band, v_neg, v_trB, v_trI, v_trN, v_lt, v_le, v_gt, v_ge, v_eqI, v_neI, v_eqS, v_neS, v_isn, v_isnn, v_int, v_abs, v_lenT, v_lenL, v_tupL, v_lstL, List.set_cons_zero, List.set_cons_succ, List.map_cons, List.map_nil, List.cons_append, List.nil_append, List.replicate_succ, List.replicate_zero, dataOf, Option.map_some, Option.some.injEq, exists_eq_left', List.length_cons, List.length_nil, asOI]
  by_cases c : v = 0
  · subst c
    try simp (implicitDefEqProofs := false) only [↓reduceIte, beq_self_eq_true, post_bnd, post_ret, a_k, a_v, getV_cons0, getV_cons, a_bin, a_cmp, a_ch, a_neg, a_not, a_and, a_or, a_ite, a_sub, a_slc, a_no, a_so, a_nil', a_cons', a_tup, a_lst, a_nl, a_ndk, a_call, a_call0, a_bi, a_isi, a_app, a_sd, a_tst, a_sk, a_brk, a_cnt, a_bad, a_ex, a_ret, a_retN, a_if, a_asg, a_par2, a_par3, a_set, a_for, a_seq, a_enum, a_rng1, a_rng2, a_lc, a_lc2, a_aug, a_disp, a_op2, a_tsub, a_tin, a_tnin, a_itemsL, v_add, v_sub, v_band, v_neg, v_trB, v_trI, v_trN, v_lt, v_le, v_gt, v_ge, v_eqI, v_neI, v_eqS, v_neS, v_isn, v_isnn, v_int, v_abs, v_lenT, v_lenL, v_tupL, v_lstL, List.set_cons_zero, List.set_cons_succ, List.map_cons, List.map_nil, List.cons_append, List.nil_append, List.replicate_succ, List.replicate_zero, dataOf, Option.map_some, Option.some.injEq, exists_eq_left', List.length_cons, List.length_nil, asOI]
    refine ⟨by decide, ?_⟩
    refine roll_ok (R := []) h3 ⟨by decide, by decide⟩ fun v a b hu1 hu2 h4 => ?_
    try simp (implicitDefEqProofs := false) only [post_bnd, post_ret, a_k, a_v, getV_cons0, getV_cons, a_bin, a_cmp, a_ch, a_neg, a_not, a_and, a_or, a_ite, a_sub, a_slc, a_no, a_so, a_nil', a_cons', a_tup, a_lst, a_nl, a_ndk, a_call, a_call0, a_bi, a_isi, a_app, a_sd, a_tst, a_sk, a_brk, a_cnt, a_bad, a_ex, a_ret, a_retN, a_if, a_asg, a_par2, a_par3, a_set, a_for, a_seq, a_enum, a_rng1, a_rng2, a_lc, a_lc2, a_aug, a_disp, a_op2, a_tsub, a_tin, a_tnin, a_itemsL, v_add, v_sub, v_band, v_neg, v_trB, v_trI, v_trN, v_lt, v_le, v_gt, v_ge, v_eqI, v_neI, v_eqS, v_neS, v_isn, v_isnn, v_int, v_abs, v_lenT, v_lenL, v_tupL, v_lstL, List.set_cons_zero, List.set_cons_succ, List.map_cons, List.map_nil, List.cons_append, List.nil_append, List.replicate_succ, List.replicate_zero, dataOf, Option.map_some, Option.some.injEq, exists_eq_left', List.length_cons, List.length_nil, asOI]
    rw [mul48 ⟨hu1, by omega⟩]
    rw [v_catT (by rw [List.length_replicate]; show _ + 3 ≤ _; omega)]
    exact fin _ _ _ h4 (oct_app (oct_rep _) on) (by rw [List.length_append, List.length_replicate]; show _ + 3 ≤ 4; omega)
  · have e : (v == 0) = false := beq_eq_false_iff_ne.mpr c
    try simp (implicitDefEqProofs := false) only [↓reduceIte, e, Bool.false_eq_true, post_bnd, post_ret, a_k, a_v, getV_cons0, getV_cons, a_bin, a_cmp, a_ch, a_neg, a_not, a_and, a_or, a_ite, a_sub, a_slc, a_no, a_so, a_nil', a_cons', a_tup, a_lst, a_nl, a_ndk, a_call, a_call0, a_bi, a_isi, a_app, a_sd, a_tst, a_sk, a_brk, a_cnt, a_bad, a_ex, a_ret, a_retN, a_if, a_asg, a_par2, a_par3, a_set, a_for, a_seq, a_enum, a_rng1, a_rng2, a_lc, a_lc2, a_aug, a_disp, a_op2, a_tsub, a_tin, a_tnin, a_itemsL, v_add, v_sub, v_band, v_neg, v_trB, v_trI, v_trN, v_lt, v_le, v_gt, v_ge, v_eqI, v_neI, v_eqS, v_neS, v_isn, v_isnn, v_int, v_abs, v_lenT, v_lenL, v_tupL, v_lstL, List.set_cons_zero, List.set_cons_succ, List.map_cons, List.map_nil, List.cons_append, List.nil_append, List.replicate_succ, List.replicate_zero, dataOf, Option.map_some, Option.some.injEq, exists_eq_left', List.length_cons, List.length_nil, asOI]
    have cut2 : cut [o1, o2, o3] (some 2) none = [o3] := cutFrom (n := 2)
    have o2' : oct [o3] := fun o m => on o (by rw [List.mem_singleton.mp m]; simp)
    have o1' : oct [o2, o3] := fun o m => on o (by
      simp only [List.mem_cons, List.mem_nil_iff, or_false] at m ⊢
      rcases m with e | e <;> simp [e])
    by_cases c15 : 15 < m
    · rw [decide_eq_true (by omega)]
      try simp (implicitDefEqProofs := false) only [↓reduceIte, post_bnd, post_ret, a_k, a_v, getV_cons0, getV_cons, a_bin, a_cmp, a_ch, a_neg, a_not, a_and, a_or, a_ite, a_sub, a_slc, a_no, a_so, a_nil', a_cons', a_tup, a_lst, a_nl, a_ndk, a_call, a_call0, a_bi, a_isi, a_app, a_sd, a_tst, a_sk, a_brk, a_cnt, a_bad, a_ex, a_ret, a_retN, a_if, a_asg, a_par2, a_par3, a_set, a_for, a_seq, a_enum, a_rng1, a_rng2, a_lc, a_lc2, a_aug, a_disp, a_op2, a_tsub, a_tin, a_tnin, a_itemsL, v_add, v_sub, v_band, v_neg, v_trB, v_trI, v_trN, v_lt, v_le, v_gt, v_ge, v_eqI, v_neI, v_eqS, v_neS, v_isn, v_isnn, v_int, v_abs, v_lenT, v_lenL, v_tupL, v_lstL, List.set_cons_zero, List.set_cons_succ, List.map_cons, List.map_nil, List.cons_append, List.nil_append, List.replicate_succ, List.replicate_zero, dataOf, Option.map_some, Option.some.injEq, exists_eq_left', List.length_cons, List.length_nil, asOI]
      rw [v_slT, cut1]
      exact fin _ _ _ h3 o1' (by show 2 ≤ 4; decide)
    · rw [decide_eq_false (by omega)]
      try simp (implicitDefEqProofs := false) only [↓reduceIte, Bool.false_eq_true, post_bnd, post_ret, a_k, a_v, getV_cons0, getV_cons, a_bin, a_cmp, a_ch, a_neg, a_not, a_and, a_or, a_ite, a_sub, a_slc, a_no, a_so, a_nil', a_cons', a_tup, a_lst, a_nl, a_ndk, a_call, a_call0, a_bi, a_isi, a_app, a_sd, a_tst, a_sk, a_brk, a_cnt, a_bad, a_ex, a_ret, a_retN, a_if, a_asg, a_par2, a_par3, a_set, a_for, a_seq, a_enum, a_rng1, a_rng2, a_lc, a_lc2, a_aug, a_disp, a_op2, a_tsub, a_tin, a_tnin, a_itemsL, v_add, v_sub, v_band, v_neg, v_trB, v_trI, v_trN, v_lt, v_le, v_gt, v_ge, v_eqI, v_neI, v_eqS, v_neS, v_isn, v_isnn, v_int, v_abs, v_lenT, v_lenL, v_tupL, v_lstL, List.set_cons_zero, List.set_cons_succ, List.map_cons, List.map_nil, List.cons_append, List.nil_append, List.replicate_succ, List.replicate_zero, dataOf, Option.map_some, Option.some.injEq, exists_eq_left', List.length_cons, List.length_nil, asOI]
      refine roll_ok (R := []) h3 ⟨by decide, by decide⟩ fun v a b hu1 hu2 h4 => ?_
      try simp (implicitDefEqProofs := false) only [↓reduceIte, post_bnd, post_ret, a_k, a_v, getV_cons0, getV_cons, a_bin, a_cmp, a_ch, a_neg, a_not, a_and, a_or, a_ite, a_sub, a_slc, a_no, a_so, a_nil', a_cons', a_tup, a_lst, a_nl, a_ndk, a_call, a_call0, a_bi, a_isi, a_app, a_sd, a_tst, a_sk, a_brk, a_cnt, a_bad, a_ex, a_ret, a_retN, a_if, a_asg, a_par2, a_par3, a_set, a_for, a_seq, a_enum, a_rng1, a_rng2, a_lc, a_lc2, a_aug, a_disp, a_op2, a_tsub, a_tin, a_tnin, a_itemsL, v_add, v_sub, v_band, v_neg, v_trB, v_trI, v_trN, v_lt, v_le, v_gt, v_ge, v_eqI, v_neI, v_eqS, v_neS, v_isn, v_isnn, v_int, v_abs, v_lenT, v_lenL, v_tupL, v_lstL, List.set_cons_zero, List.set_cons_succ, List.map_cons, List.map_nil, List.cons_append, List.nil_append, List.replicate_succ, List.replicate_zero, dataOf, Option.map_some, Option.some.injEq, exists_eq_left', List.length_cons, List.length_nil, asOI]
      by_cases c : v = 0
      · subst c
        try simp (implicitDefEqProofs := false) only [↓reduceIte, beq_self_eq_true, post_bnd, post_ret, a_k, a_v, getV_cons0, getV_cons, a_bin, a_cmp, a_ch, a_neg, a_not, a_and, a_or, a_ite, a_sub, a_slc, a_no, a_so, a_nil', a_cons', a_tup, a_lst, a_nl, a_ndk, a_call, a_call0, a_bi, a_isi, a_app, a_sd, a_tst, a_sk, a_brk, a_cnt, a_bad, a_ex, a_ret, a_retN, a_if, a_asg, a_par2, a_par3, a_set, a_for, a_seq, a_enum, a_rng1, a_rng2, a_lc, a_lc2, a_aug, a_disp, a_op2, a_tsub, a_tin, a_tnin, a_itemsL, v_add, v_sub, v_band, v_neg, v_trB, v_trI, v_trN, v_lt, v_le, v_gt, v_ge, v_eqI, v_neI, v_eqS, v_neS, v_isn, v_isnn, v_int, v_abs, v_lenT, v_lenL, v_tupL, v_lstL, List.set_cons_zero, List.set_cons_succ, List.map_cons, List.map_nil, List.cons_append, List.nil_append, List.replicate_succ, List.replicate_zero, dataOf, Option.map_some, Option.some.injEq, exists_eq_left', List.length_cons, List.length_nil, asOI]
        rw [v_slT, cut1]
        exact fin _ _ _ h4 o1' (by show 2 ≤ 4; decide)
      · have e : (v == 0) = false := beq_eq_false_iff_ne.mpr c
        try simp (implicitDefEqProofs := false) only [↓reduceIte, e, Bool.false_eq_true, post_bnd, post_ret, a_k, a_v, getV_cons0, getV_cons, a_bin, a_cmp, a_ch, a_neg, a_not, a_and, a_or, a_ite, a_sub, a_slc, a_no, a_so, a_nil', a_cons', a_tup, a_lst, a_nl, a_ndk, a_call, a_call0, a_bi, a_isi, a_app, a_sd, a_tst, a_sk, a_brk, a_cnt, a_bad, a_ex, a_ret, a_retN, a_if, a_asg, a_par2, a_par3, a_set, a_for, a_seq, a_enum, a_rng1, a_rng2, a_lc, a_lc2, a_aug, a_disp, a_op2, a_tsub, a_tin, a_tnin, a_itemsL, v_add, v_sub, v_band, v_neg, v_trB, v_trI, v_trN, v_lt, v_le, v_gt, v_ge, v_eqI, v_neI, v_eqS, v_neS, v_isn, v_isnn, v_int, v_abs, v_lenT, v_lenL, v_tupL, v_lstL, List.set_cons_zero, List.set_cons_succ, List.map_cons, List.map_nil, List.cons_append, List.nil_append, List.replicate_succ, List.replicate_zero, dataOf, Option.map_some, Option.some.injEq, exists_eq_left', List.length_cons, List.length_nil, asOI]
        rw [v_slT, cut2]
        exact fin _ _ _ h4 o2' (by show 1 ≤ 4; decide)
theorem luW_ok {w1 : Option W} {most : Int} (hm : 1 ≤ most ∧ most ≤ 300) (K : Int → Int → List Int → Prop) : ∀ (N : Nat) (found left : List Int) (x5 x6 x7 : Option W) (c0 c1 : Int), left.length < N → left.length ≤ 120 → 0 ≤ c0 → found.length + 10 * left.length ≤ 1300 → oct found → oct left →
    (∀ f' x5 x6 x7 c0' c1', 0 ≤ c0' → oct f' → f'.length ≤ 1300 → Q (.nx [some (.r 0), w1, some (.d (T f')), some (.d (T [])), some (.d (.int most)), x5, x6, x7]) (CS c0' c1')) →
    post (whileM (tst luC) luB N [some (.r 0), w1, some (.d (T found)), some (.d (T left)), some (.d (.int most)), x5, x6, x7] (CS c0 c1)) Q
  | 0, _, _, _, _, _, _, _, h, _, _, _, _, _, _ => by omega
  | N + 1, found, left, x5, x6, x7, c0, c1, hN, hl, h0, hf, of', ol, k => by
    rw [wh_step]
    unfold luC
    try simp (implicitDefEqProofs := false) only [↓reduceIte, post_bnd, post_ret, a_k, a_v, getV_cons0, getV_cons, a_bin, a_cmp, a_ch, a_neg, a_not, a_and, a_or, a_ite, a_sub, a_slc, a_no, a_so, a_nil', a_cons', a_tup, a_lst, a_nl, a_ndk, a_call, a_call0, a_bi, a_isi, a_app, a_sd, a_tst, a_sk, a_brk, a_cnt, a_bad, a_ex, a_ret, a_retN, a_if, a_asg, a_par2, a_par3, a_set, a_for, a_seq, a_enum, a_rng1, a_rng2, a_lc, a_lc2, a_aug, a_disp, a_op2, a_tsub, a_tin, a_tnin, a_itemsL, v_add, v_sub, v_band, v_neg, v_trB, v_trI, v_trN, v_lt, v_le, v_gt, v_ge, v_eqI, v_neI, v_eqS, v_neS, v_isn, v_isnn, v_int, v_abs, v_lenT, v_lenL, v_tupL, v_lstL, List.set_cons_zero, List.set_cons_succ, List.map_cons, List.map_nil, List.cons_append, List.nil_append, List.replicate_succ, List.replicate_zero, dataOf, Option.map_some, Option.some.injEq, exists_eq_left', List.length_cons, List.length_nil, asOI, v_neT0]
    refine ⟨by decide, ?_⟩
    by_cases c : left = []
    · subst c
      rw [decide_eq_true rfl]
      try simp (implicitDefEqProofs := false) only [↓reduceIte, Bool.not_true, Bool.false_eq_true]
      exact k _ _ _ _ _ _ h0 of' (by simpa using hf)
    · rw [decide_eq_false c]
      try simp (implicitDefEqProofs := false) only [↓reduceIte, Bool.not_false]
      have hp : 1 ≤ left.length := by cases left with
        | nil => exact absurd rfl c
        | cons _ _ => rw [List.length_cons]; omega
      refine luB_ok h0 hm ⟨hp, hl⟩ (by omega) of' ol fun c0' c1' m num x5 x6 x7 h1 hm1 hm2 hn hnl => ?_
      have hd : (left.drop m).length = left.length - m := List.length_drop
      have ht : (left.take m).length = m := by rw [List.length_take]; omega
      refine luW_ok hm K N _ _ _ _ _ _ _ (by omega) (by omega) h1 ?_ ?_ (oct_drop ol _) k
      · simp only [List.length_append, List.length_cons, List.length_nil]
        omega
      · exact oct_app (oct_app (oct_app (oct_app of' hn) (oct_lit rfl)) (oct_take ol _)) (oct_lit rfl)
theorem cut_ok {xs : List Int} (ho : oct xs) (hl : xs.length ≤ 120) (h0 : 0 ≤ c0) (k : ∀ ys c0' c1', oct ys → ys.length ≤ 1400 → 0 ≤ c0' → q (.d (T ys)) (CS c0' c1')) : post (m__law_cut [.r 0, .d (T xs)] (CS c0 c1)) q := by
  refine post_fn rfl ?_
  rw [lu_eq]
  unfold lu
  rw [sq_ap]
  unfold lu0
  try simp (implicitDefEqProofs := false) only [post_bnd, post_ret, a_k, a_v, getV_cons0, getV_cons, a_bin, a_cmp, a_ch, a_neg, a_not, a_and, a_or, a_ite, a_sub, a_slc, a_no, a_so, a_nil', a_cons', a_tup, a_lst, a_nl, a_ndk, a_call, a_call0, a_bi, a_isi, a_app, a_sd, a_tst, a_sk, a_brk, a_cnt, a_bad, a_ex, a_ret, a_retN, a_if, a_asg, a_par2, a_par3, a_set, a_for, a_seq, a_enum, a_rng1, a_rng2, a_lc, a_lc2, a_aug, a_disp, a_op2, a_tsub, a_tin, a_tnin, a_itemsL, v_add, v_sub, v_band, v_neg, v_trB, v_trI, v_trN, v_lt, v_le, v_gt, v_ge, v_eqI, v_neI, v_eqS, v_neS, v_isn, v_isnn, v_int, v_abs, v_lenT, v_lenL, v_tupL, v_lstL, List.set_cons_zero, List.set_cons_succ, List.map_cons, List.map_nil, List.cons_append, List.nil_append, List.replicate_succ, List.replicate_zero, dataOf, Option.map_some, Option.some.injEq, exists_eq_left', List.length_cons, List.length_nil, asOI]
  refine ⟨by decide, by decide, ?_⟩
  refine some_ok (R := []) (.inl rfl) h0 (by simp) (by simp) fun x a b hx h1 => ?_
  obtain ⟨most, rfl, hm1, hm2⟩ := mem_int (xs := [1, 3, 40, 300]) (lo := 1) (hi := 300) hx (by decide)
  try simp (implicitDefEqProofs := false) only [post_bnd, post_ret, a_k, a_v, getV_cons0, getV_cons, a_bin, a_cmp, a_ch, a_neg, a_not, a_and, a_or, a_ite, a_sub, a_slc, a_no, a_so, a_nil', a_cons', a_tup, a_lst, a_nl, a_ndk, a_call, a_call0, a_bi, a_isi, a_app, a_sd, a_tst, a_sk, a_brk, a_cnt, a_bad, a_ex, a_ret, a_retN, a_if, a_asg, a_par2, a_par3, a_set, a_for, a_seq, a_enum, a_rng1, a_rng2, a_lc, a_lc2, a_aug, a_disp, a_op2, a_tsub, a_tin, a_tnin, a_itemsL, v_add, v_sub, v_band, v_neg, v_trB, v_trI, v_trN, v_lt, v_le, v_gt, v_ge, v_eqI, v_neI, v_eqS, v_neS, v_isn, v_isnn, v_int, v_abs, v_lenT, v_lenL, v_tupL, v_lstL, List.set_cons_zero, List.set_cons_succ, List.map_cons, List.map_nil, List.cons_append, List.nil_append, List.replicate_succ, List.replicate_zero, dataOf, Option.map_some, Option.some.injEq, exists_eq_left', List.length_cons, List.length_nil, asOI]
  rw [sq_ap]
  unfold lu1
  rw [a_wh]
  refine luW_ok ⟨hm1, hm2⟩ (fun _ _ _ => True) WF [] xs _ _ _ _ _ (by show _ < 1000000; omega) hl h1 (by show 0 + _ ≤ _; omega) (fun _ m => by cases m) ho fun f' x5 x6 x7 c d h2 of' hf => ?_
  dsimp only
  unfold lu2
  try simp (implicitDefEqProofs := false) only [post_bnd, post_ret, a_k, a_v, getV_cons0, getV_cons, a_bin, a_cmp, a_ch, a_neg, a_not, a_and, a_or, a_ite, a_sub, a_slc, a_no, a_so, a_nil', a_cons', a_tup, a_lst, a_nl, a_ndk, a_call, a_call0, a_bi, a_isi, a_app, a_sd, a_tst, a_sk, a_brk, a_cnt, a_bad, a_ex, a_ret, a_retN, a_if, a_asg, a_par2, a_par3, a_set, a_for, a_seq, a_enum, a_rng1, a_rng2, a_lc, a_lc2, a_aug, a_disp, a_op2, a_tsub, a_tin, a_tnin, a_itemsL, v_add, v_sub, v_band, v_neg, v_trB, v_trI, v_trN, v_lt, v_le, v_gt, v_ge, v_eqI, v_neI, v_eqS, v_neS, v_isn, v_isnn, v_int, v_abs, v_lenT, v_lenL, v_tupL, v_lstL, List.set_cons_zero, List.set_cons_succ, List.map_cons, List.map_nil, List.cons_append, List.nil_append, List.replicate_succ, List.replicate_zero, dataOf, Option.map_some, Option.some.injEq, exists_eq_left', List.length_cons, List.length_nil, asOI]
  refine ⟨by decide, ?_⟩
  refine roll_ok (R := []) h2 ⟨by decide, by decide⟩ fun v a b hu1 hu2 h4 => ?_
  try simp (implicitDefEqProofs := false) only [post_bnd, post_ret, a_k, a_v, getV_cons0, getV_cons, a_bin, a_cmp, a_ch, a_neg, a_not, a_and, a_or, a_ite, a_sub, a_slc, a_no, a_so, a_nil', a_cons', a_tup, a_lst, a_nl, a_ndk, a_call, a_call0, a_bi, a_isi, a_app, a_sd, a_tst, a_sk, a_brk, a_cnt, a_bad, a_ex, a_ret, a_retN, a_if, a_asg, a_par2, a_par3, a_set, a_for, a_seq, a_enum, a_rng1, a_rng2, a_lc, a_lc2, a_aug, a_disp, a_op2, a_tsub, a_tin, a_tnin, a_itemsL, v_add, v_sub, v_band, v_neg, v_trB, v_trI, v_trN, v_lt, v_le, v_gt, v_ge, v_eqI, v_neI, v_eqS, v_neS, v_isn, v_isnn, v_int, v_abs, v_lenT, v_lenL, v_tupL, v_lstL, List.set_cons_zero, List.set_cons_succ, List.map_cons, List.map_nil, List.cons_append, List.nil_append, List.replicate_succ, List.replicate_zero, dataOf, Option.map_some, Option.some.injEq, exists_eq_left', List.length_cons, List.length_nil, asOI]
  rw [mul48 ⟨by omega, by omega⟩, v_catT (by rw [List.length_replicate]; omega)]
  refine ⟨by decide, ?_⟩
  rw [e_4, v_catT (by rw [List.length_append, List.length_replicate]; show _ + _ + 4 ≤ _; omega), lvc]
  refine k _ _ _ (oct_app (oct_app of' (oct_rep _)) (oct_lit rfl)) ?_ h4
  rw [List.length_append, List.length_append, List.length_replicate]
  show _ + _ + 4 ≤ _
  omega
end
/-! a reading has a text -/
theorem tup3_len (x y z : Str) : (tupleText [x, y, z]).length ≤ x.length + y.length + z.length + 20 := by
  unfold tupleText
  rw [Str.length_append, Str.length_append]
  have j := StrLaws.join_length_le ((", " : String) : Str) [x, y, z]
  have l1 : (("(" : String) : Str).length = 1 := rfl
  have l2 : ((", " : String) : Str).length = 2 := rfl
  have l4 : ((if ([x, y, z] : List Str).length == 1 then ",)" else ")" : String) : Str).length ≤ 2 := by
    split <;> decide
  rw [l2] at j
  simp only [List.map_cons, List.map_nil, List.sum_cons, List.sum_nil, List.length_cons, List.length_nil] at j
  omega
theorem repr_oc {z : Option Oc} (h : Oc.ok 5000 z) : ∃ s, reprD (Oc.D z) = some s := by
  match z, h with
  | none, _ => exact ⟨_, if_pos (by decide +kernel)⟩
  | some (.wrong c n), h =>
    obtain ⟨hc, hn⟩ := h
    have l1 : c.natAbs.log2 < 1920 := log_nat (by omega) (by omega)
    have l2 : ((n : Nat) : Int).natAbs.log2 < 1920 := log_nat (by omega) (by omega)
    refine ⟨_, if_pos ⟨?_, rfl, by show max 0 (max 0 (max 0 0)) + 1 ≤ 60; decide, ?_⟩⟩
    · show (true && (decide (c.natAbs.log2 < 1920) && (decide (((n : Nat) : Int).natAbs.log2 < 1920) && true))) = true
      rw [decide_eq_true l1, decide_eq_true l2]; rfl
    · show (tupleText [reprText ("wrong" : String), (toString c : Str), (toString ((n : Nat) : Int) : Str)]).length ≤ SZ
      have := tup3_len (reprText ("wrong" : String)) (toString c : Str) (toString ((n : Nat) : Int) : Str)
      have la := int_text_len_1921 l1
      have lb := int_text_len_1921 l2
      have l3 : (reprText ("wrong" : String)).length ≤ 10 := by decide +kernel
      show _ ≤ 16777216
      omega
  | some (.whole b n), h =>
    obtain ⟨hb, hbl, hn⟩ := h
    obtain ⟨z, hz⟩ := repr_octs hb (by omega)
    obtain ⟨s1, s2, s3, s4⟩ := reprD_of hz
    have hd : (T b).depth = 1 := by
      show PyData.depthAll _ + 1 = 1
      rw [depth_ints]
    have l2 : ((n : Nat) : Int).natAbs.log2 < 1920 := log_nat (by omega) (by omega)
    refine ⟨_, if_pos ⟨?_, ?_, ?_, ?_⟩⟩
    · show (true && (PyData.showable (T b) && (decide (((n : Nat) : Int).natAbs.log2 < 1920) && true))) = true
      rw [s1, decide_eq_true l2]; rfl
    · show (false || (PyData.hasDict (T b) || (false || false))) = false
      rw [s2]; rfl
    · show max 0 (max (T b).depth (max 0 0)) + 1 ≤ 60
      rw [hd]; decide
    · show (tupleText [reprText ("whole" : String), (T b).shown, (toString ((n : Nat) : Int) : Str)]).length ≤ SZ
      have := tup3_len (reprText ("whole" : String)) (T b).shown (toString ((n : Nat) : Int) : Str)
      have hs := shown_len hb
      have lb := int_text_len_1921 l2
      have l3 : (reprText ("whole" : String)).length ≤ 10 := by decide +kernel
      show _ ≤ 16777216
      omega
end MP.Q0

namespace MP.Q0
open PySem L2 PySem.Spec PyProof.Rows
def lw0 : SM := asgM (.nm 1) (callM m__law_cup (consM (vM 0) (nilM)))
def lw1b0 : SM := asgM (.nm 3) (callM m__law_body (consM (vM 1) (nilM)))
def lw1b1 : SM := asgM (.nm 4) (biM .tuple (consM (lcE (rng1I (consM (callM m__law_roll (consM (vM 1) (consM (kM (.int 6)) (nilM)))) (nilM))) (.nm 16) [16] (yesM) (callM m__law_some (consM (vM 1) (consM (lstM (consM (kM (.int 1)) (consM (kM (.int 2)) (consM (kM (.int 16)) (consM (kM (.int 300)) (consM (binM .add (kM (.int 1)) (callM m__law_roll (consM (vM 1) (consM (kM (.int 300)) (nilM))))) (nilM))))))) (nilM))))) (nilM)))
def lw1b2 : SM := asgM (.nm 5) (callM m_chunks_of (consM (vM 3) (consM (vM 4) (nilM))))
def lw1b3 : SM := ifM (orM (cmpM .ne (biM .repr (consM (vM 5) (nilM))) (biM .repr (consM (callM m__law_due (consM (vM 3) (consM (vM 4) (nilM)))) (nilM)))) (cmpM .ne (biM .repr (consM (callM m_chunks_in (consM (binM .add (vM 5) (tupM (consM (kM (.int 48)) (consM (kM (.int 13)) (nilM))))) (nilM))) (nilM))) (biM .repr (consM (tupM (consM (kM (.str "whole")) (consM (vM 3) (consM (biM .len (consM (vM 5) (nilM))) (nilM))))) (nilM))))) (retM (kM (.bool false))) (skM)
def lw1b4 : SM := asgM (.nm 6) (callM m__law_cut (consM (vM 1) (consM (slcM (vM 3) (noM) (soM (callM m__law_some (consM (vM 1) (consM (lstM (consM (kM (.int 120)) (consM (kM (.int 20)) (consM (kM (.int 3)) (nilM))))) (nilM)))))) (nilM))))
def lw1b5b0 : SM := asgM (.nm 8) (callM m__law_chunks (consM (vM 7) (nilM)))
def lw1b5b1 : SM := ifM (cmpM .ne (biM .repr (consM (callM m_chunks_in (consM (vM 7) (nilM))) (nilM))) (biM .repr (consM (vM 8) (nilM)))) (retM (kM (.bool false))) (skM)
def lw1b5b2 : SM := ifM (andM (cmpM .isnn (vM 8) (kM .none)) (cmpM .isnn (callM m_chunks_in (consM (iteM (cmpM .eq (subM (vM 8) (kM (.int 0))) (kM (.str "whole"))) (slcM (vM 7) (noM) (soM (binM .sub (subM (vM 8) (kM (.int 2))) (kM (.int 1))))) (slcM (vM 7) (noM) (soM (subM (vM 8) (kM (.int 2)))))) (nilM))) (kM .none))) (retM (kM (.bool false))) (skM)
def lw1b5b : SM := sq lw1b5b0 (sq lw1b5b1 (lw1b5b2))
def lw1b5 : SM := foM (.nm 7) (seqI (tupM (consM (vM 6) (consM (callM m__law_spoilt (consM (vM 1) (consM (vM 6) (nilM)))) (consM (callM m__law_spoilt (consM (vM 1) (consM (callM m__law_spoilt (consM (vM 1) (consM (vM 6) (nilM)))) (nilM)))) (consM (callM m__law_spoilt (consM (vM 1) (consM (vM 5) (nilM)))) (nilM))))))) lw1b5b
def lw1b : SM := sq lw1b0 (sq lw1b1 (sq lw1b2 (sq lw1b3 (sq lw1b4 (lw1b5)))))
def lw1 : SM := foM (.nm 2) (rng1I (consM (kM (.int 6)) (nilM))) lw1b
def lw2 : SM := asgM (.nm 9) (binM .add (callM m__law_roll (consM (vM 1) (consM (kM (.int 300)) (nilM)))) (kM (.int 1)))
def lw3 : SM := asgM (.nm 10) (slcM (callM m_chunks_of (consM (op2M mulT (tupM (consM (kM (.int 1)) (nilM))) (vM 9)) (consM (tupM (nilM)) (nilM)))) (noM) (soM (negM (kM (.int 5)))))
def lw4 : SM := asgM (.nm 11) (lstM (consM (tupM (consM (binM .sub (kM (.int 301)) (vM 9)) (consM (kM (.int 413)) (nilM)))) (consM (tupM (consM (binM .sub (kM (.int 300)) (vM 9)) (consM (kM (.int 0)) (nilM)))) (nilM))))
def lw5b0 : SM := asgM (.nm 14) (iteM (cmpM .gt (vM 12) (kM (.int 0))) (callM m__law_hex (consM (vM 12) (nilM))) (tupM (consM (kM (.int 48)) (nilM))))
def lw5b1 : SM := asgM (.nm 15) (callM m_chunks_in (consM (binM .add (binM .add (vM 10) (vM 14)) (tupM (consM (kM (.int 13)) (nilM)))) (nilM)))
def lw5b2 : SM := ifM (cmpM .ne (biM .repr (consM (vM 15) (nilM))) (biM .repr (consM (iteM (cmpM .gt (vM 13) (kM (.int 0))) (tupM (consM (kM (.str "wrong")) (consM (vM 13) (consM (binM .add (biM .len (consM (vM 10) (nilM))) (biM .len (consM (vM 14) (nilM)))) (nilM))))) (kM .none)) (nilM)))) (retM (kM (.bool false))) (skM)
def lw5b : SM := sq lw5b0 (sq lw5b1 (lw5b2))
def lw5 : SM := foM (.tup [12, 13]) (seqI (vM 11)) lw5b
def lw6 : SM := asgM (.nm 11) (lstM (consM (tupM (consM (tupM (nilM)) (consM (kM .none) (nilM)))) (consM (tupM (consM (tupM (consM (kM (.int 48)) (nilM))) (consM (kM .none) (nilM)))) (consM (tupM (consM (tupM (consM (kM (.int 48)) (consM (kM (.int 13)) (consM (kM (.int 10)) (consM (kM (.int 13)) (nilM)))))) (consM (kM .none) (nilM)))) (consM (tupM (consM (tupM (consM (kM (.int 48)) (consM (kM (.int 13)) (consM (kM (.int 10)) (consM (kM (.int 13)) (consM (kM (.int 10)) (nilM))))))) (consM (tupM (consM (kM (.str "whole")) (consM (tupM (nilM)) (consM (kM (.int 5)) (nilM))))) (nilM)))) (nilM))))))
def lw7 : SM := asgM (.nm 11) (binM .add (vM 11) (lstM (consM (tupM (consM (tupM (consM (kM (.int 48)) (consM (kM (.int 48)) (consM (kM (.int 48)) (consM (kM (.int 48)) (consM (kM (.int 13)) (consM (kM (.int 10)) (consM (kM (.int 13)) (consM (kM (.int 10)) (consM (kM (.int 7)) (nilM))))))))))) (consM (tupM (consM (kM (.str "whole")) (consM (tupM (nilM)) (consM (kM (.int 8)) (nilM))))) (nilM)))) (nilM))))
def lw8 : SM := asgM (.nm 11) (binM .add (vM 11) (lstM (consM (tupM (consM (tupM (consM (kM (.int 48)) (consM (kM (.int 48)) (consM (kM (.int 48)) (consM (kM (.int 48)) (consM (kM (.int 48)) (nilM))))))) (consM (tupM (consM (kM (.str "wrong")) (consM (kM (.int 400)) (consM (kM (.int 4)) (nilM))))) (nilM)))) (consM (tupM (consM (tupM (consM (kM (.int 13)) (nilM))) (consM (tupM (consM (kM (.str "wrong")) (consM (kM (.int 400)) (consM (kM (.int 0)) (nilM))))) (nilM)))) (consM (tupM (consM (tupM (consM (kM (.int 49)) (consM (kM (.int 10)) (nilM)))) (consM (tupM (consM (kM (.str "wrong")) (consM (kM (.int 400)) (consM (kM (.int 1)) (nilM))))) (nilM)))) (nilM))))))
def lw9 : SM := asgM (.nm 11) (binM .add (vM 11) (lstM (consM (tupM (consM (tupM (consM (kM (.int 49)) (consM (kM (.int 13)) (consM (kM (.int 13)) (nilM))))) (consM (tupM (consM (kM (.str "wrong")) (consM (kM (.int 400)) (consM (kM (.int 2)) (nilM))))) (nilM)))) (nilM))))
def lw10 : SM := asgM (.nm 11) (binM .add (vM 11) (lstM (consM (tupM (consM (tupM (consM (kM (.int 49)) (consM (kM (.int 13)) (consM (kM (.int 10)) (consM (kM (.int 7)) (consM (kM (.int 10)) (nilM))))))) (consM (tupM (consM (kM (.str "wrong")) (consM (kM (.int 400)) (consM (kM (.int 4)) (nilM))))) (nilM)))) (consM (tupM (consM (tupM (consM (kM (.int 49)) (consM (kM (.int 13)) (consM (kM (.int 10)) (consM (kM (.int 7)) (consM (kM (.int 13)) (consM (kM (.int 13)) (nilM)))))))) (consM (tupM (consM (kM (.str "wrong")) (consM (kM (.int 400)) (consM (kM (.int 5)) (nilM))))) (nilM)))) (consM (tupM (consM (tupM (consM (kM (.int 48)) (consM (kM (.int 13)) (consM (kM (.int 10)) (consM (kM (.int 10)) (nilM)))))) (consM (tupM (consM (kM (.str "wrong")) (consM (kM (.int 400)) (consM (kM (.int 3)) (nilM))))) (nilM)))) (nilM))))))
def lw11 : SM := asgM (.nm 11) (binM .add (vM 11) (lstM (consM (tupM (consM (tupM (consM (kM (.int 49)) (consM (kM (.int 50)) (consM (kM (.int 67)) (consM (kM (.int 13)) (nilM)))))) (consM (kM .none) (nilM)))) (nilM))))
def lw12 : SM := asgM (.nm 11) (binM .add (vM 11) (lstM (consM (tupM (consM (tupM (consM (kM (.int 49)) (consM (kM (.int 50)) (consM (kM (.int 68)) (consM (kM (.int 13)) (nilM)))))) (consM (tupM (consM (kM (.str "wrong")) (consM (kM (.int 413)) (consM (kM (.int 3)) (nilM))))) (nilM)))) (consM (tupM (consM (tupM (consM (kM (.int 102)) (consM (kM (.int 102)) (consM (kM (.int 102)) (consM (kM (.int 102)) (consM (kM (.int 13)) (nilM))))))) (consM (tupM (consM (kM (.str "wrong")) (consM (kM (.int 413)) (consM (kM (.int 4)) (nilM))))) (nilM)))) (consM (tupM (consM (tupM (consM (kM (.int 71)) (nilM))) (consM (tupM (consM (kM (.str "wrong")) (consM (kM (.int 400)) (consM (kM (.int 0)) (nilM))))) (nilM)))) (nilM))))))
def lw13 : SM := asgM (.nm 11) (binM .add (vM 11) (lstM (consM (tupM (consM (tupM (consM (kM (.int 49)) (consM (kM (.int 59)) (nilM)))) (consM (tupM (consM (kM (.str "wrong")) (consM (kM (.int 400)) (consM (kM (.int 1)) (nilM))))) (nilM)))) (nilM))))
def lw14b0 : SM := ifM (cmpM .ne (biM .repr (consM (callM m_chunks_in (consM (vM 5) (nilM))) (nilM))) (biM .repr (consM (vM 8) (nilM)))) (retM (kM (.bool false))) (skM)
def lw14b : SM := lw14b0
def lw14 : SM := foM (.tup [5, 8]) (seqI (vM 11)) lw14b
def lw15 : SM := retM (kM (.bool true))
def lw : SM := sq lw0 (sq lw1 (sq lw2 (sq lw3 (sq lw4 (sq lw5 (sq lw6 (sq lw7 (sq lw8 (sq lw9 (sq lw10 (sq lw11 (sq lw12 (sq lw13 (sq lw14 (lw15)))))))))))))))
theorem lw_eq : b_law = lw := rfl
abbrev fw (sc t x3 x4 x5 x6 x7 x8 x9 x10 x11 x12 x13 x14 x15 x16 : Option W) : Sl := [sc, some (.r 0), t, x3, x4, x5, x6, x7, x8, x9, x10, x11, x12, x13, x14, x15, x16]
section
variable {q : W → Sto → Prop} {Q : Fl → Sto → Prop} {c0 c1 : Int} {sc t x3 x4 x5 x6 x7 x8 x9 x10 x11 x12 x13 x14 x15 x16 : Option W}
theorem i0 (x : D) (l : List D) : L2.atI (x :: l) 0 = some x := L2.atI_nat (j := 0) rfl
theorem i2 (x y z : D) : L2.atI [x, y, z] 2 = some z := L2.atI_nat (j := 2) rfl
theorem whole_pos : ∀ (c : Ch) (r : List Int) (n : Nat) {b : List Int} {m : Nat}, runC c r n = some (.whole b m) → n < m
  | _, [], _, _, _, h => by cases h
  | c, o :: r, n, b, m, h => by
    rw [run_cons] at h
    cases hf : flt c o with
    | some k => rw [hf] at h; cases h
    | none =>
      rw [hf] at h
      by_cases hl : c.pl.isLast = true
      · simp only [if_pos hl] at h
        cases h
        omega
      · simp only [if_neg hl] at h
        have := whole_pos _ r (n + 1) h
        omega
theorem fits0 {xs : List Int} (ho : oct xs) (hl : xs.length ≤ 2000) : Oc.ok 5000 (runC ch0 xs 0) := run_fits xs ch0 0 (fun _ m => by cases m) ho (by omega) (by show 0 + _ ≤ _; omega)
theorem one_ok {xs : List Int} (ho : oct xs) (hl : xs.length ≤ 1600) (k : ∀ x8, Q (.nx (fw sc t x3 x4 x5 x6 (some (.d (T xs))) x8 x9 x10 x11 x12 x13 x14 x15 x16)) (CS c0 c1)) :
    post (lw1b5b (fw sc t x3 x4 x5 x6 (some (.d (T xs))) x8 x9 x10 x11 x12 x13 x14 x15 x16) (CS c0 c1)) Q := by
  unfold lw1b5b
  rw [sq_ap]
  unfold lw1b5b0
  simp (implicitDefEqProofs := false) only [post_bnd, post_ret, a_k, a_v, getV_cons0, getV_cons, a_bin, a_cmp, a_ch, a_neg, a_not, a_and, a_or, a_ite, a_sub, a_slc, a_no, a_so, a_nil', a_cons', a_tup, a_lst, a_nl, a_ndk, a_call, a_call0, a_bi, a_isi, a_app, a_sd, a_tst, a_sk, a_brk, a_cnt, a_bad, a_ex, a_ret, a_retN, a_if, a_asg, a_par2, a_par3, a_set, a_for, a_seq, a_enum, a_rng1, a_rng2, a_lc, a_lc2, a_aug, a_disp, a_op2, a_tsub, a_tin, a_tnin, a_itemsL, v_add, v_sub, v_band, v_neg, v_trB, v_trI, v_trN, v_lt, v_le, v_gt, v_ge, v_eqI, v_neI, v_eqS, v_neS, v_isn, v_isnn, v_int, v_abs, v_lenT, v_lenL, v_tupL, v_lstL, List.set_cons_zero, List.set_cons_succ, List.map_cons, List.map_nil, List.cons_append, List.nil_append, List.replicate_succ, List.replicate_zero, dataOf, Option.map_some, Option.some.injEq, exists_eq_left', List.length_cons, List.length_nil, asOI]
  refine lchunks_ok (by omega) ?_
  try dsimp only
  rw [sq_ap]
  unfold lw1b5b1
  simp (implicitDefEqProofs := false) only [↓reduceIte, post_bnd, post_ret, a_k, a_v, getV_cons0, getV_cons, a_bin, a_cmp, a_ch, a_neg, a_not, a_and, a_or, a_ite, a_sub, a_slc, a_no, a_so, a_nil', a_cons', a_tup, a_lst, a_nl, a_ndk, a_call, a_call0, a_bi, a_isi, a_app, a_sd, a_tst, a_sk, a_brk, a_cnt, a_bad, a_ex, a_ret, a_retN, a_if, a_asg, a_par2, a_par3, a_set, a_for, a_seq, a_enum, a_rng1, a_rng2, a_lc, a_lc2, a_aug, a_disp, a_op2, a_tsub, a_tin, a_tnin, a_itemsL, v_add, v_sub, v_band, v_neg, v_trB, v_trI, v_trN, v_lt, v_le, v_gt, v_ge, v_eqI, v_neI, v_eqS, v_neS, v_isn, v_isnn, v_int, v_abs, v_lenT, v_lenL, v_tupL, v_lstL, List.set_cons_zero, List.set_cons_succ, List.map_cons, List.map_nil, List.cons_append, List.nil_append, List.replicate_succ, List.replicate_zero, dataOf, Option.map_some, Option.some.injEq, exists_eq_left', List.length_cons, List.length_nil, asOI]
  refine in_ok ho (by omega) (cs_below _ _) ?_
  obtain ⟨s, hs⟩ := repr_oc (fits0 ho (by omega))
  rw [v_repr hs, v_repr hs]
  simp (implicitDefEqProofs := false) only [↓reduceIte, post_bnd, post_ret, a_k, a_v, getV_cons0, getV_cons, a_bin, a_cmp, a_ch, a_neg, a_not, a_and, a_or, a_ite, a_sub, a_slc, a_no, a_so, a_nil', a_cons', a_tup, a_lst, a_nl, a_ndk, a_call, a_call0, a_bi, a_isi, a_app, a_sd, a_tst, a_sk, a_brk, a_cnt, a_bad, a_ex, a_ret, a_retN, a_if, a_asg, a_par2, a_par3, a_set, a_for, a_seq, a_enum, a_rng1, a_rng2, a_lc, a_lc2, a_aug, a_disp, a_op2, a_tsub, a_tin, a_tnin, a_itemsL, v_add, v_sub, v_band, v_neg, v_trB, v_trI, v_trN, v_lt, v_le, v_gt, v_ge, v_eqI, v_neI, v_eqS, v_neS, v_isn, v_isnn, v_int, v_abs, v_lenT, v_lenL, v_tupL, v_lstL, List.set_cons_zero, List.set_cons_succ, List.map_cons, List.map_nil, List.cons_append, List.nil_append, List.replicate_succ, List.replicate_zero, dataOf, Option.map_some, Option.some.injEq, exists_eq_left', List.length_cons, List.length_nil, asOI, beq_self_eq_true, Bool.not_true, Bool.false_eq_true]
  unfold lw1b5b2
  simp (implicitDefEqProofs := false) only [↓reduceIte, post_bnd, post_ret, a_k, a_v, getV_cons0, getV_cons, a_bin, a_cmp, a_ch, a_neg, a_not, a_and, a_or, a_ite, a_sub, a_slc, a_no, a_so, a_nil', a_cons', a_tup, a_lst, a_nl, a_ndk, a_call, a_call0, a_bi, a_isi, a_app, a_sd, a_tst, a_sk, a_brk, a_cnt, a_bad, a_ex, a_ret, a_retN, a_if, a_asg, a_par2, a_par3, a_set, a_for, a_seq, a_enum, a_rng1, a_rng2, a_lc, a_lc2, a_aug, a_disp, a_op2, a_tsub, a_tin, a_tnin, a_itemsL, v_add, v_sub, v_band, v_neg, v_trB, v_trI, v_trN, v_lt, v_le, v_gt, v_ge, v_eqI, v_neI, v_eqS, v_neS, v_isn, v_isnn, v_int, v_abs, v_lenT, v_lenL, v_tupL, v_lstL, List.set_cons_zero, List.set_cons_succ, List.map_cons, List.map_nil, List.cons_append, List.nil_append, List.replicate_succ, List.replicate_zero, dataOf, Option.map_some, Option.some.injEq, exists_eq_left', List.length_cons, List.length_nil, asOI]
  cases hz : runC ch0 xs 0 with
  | none =>
    simp (implicitDefEqProofs := false) only [↓reduceIte, post_bnd, post_ret, a_k, a_v, getV_cons0, getV_cons, a_bin, a_cmp, a_ch, a_neg, a_not, a_and, a_or, a_ite, a_sub, a_slc, a_no, a_so, a_nil', a_cons', a_tup, a_lst, a_nl, a_ndk, a_call, a_call0, a_bi, a_isi, a_app, a_sd, a_tst, a_sk, a_brk, a_cnt, a_bad, a_ex, a_ret, a_retN, a_if, a_asg, a_par2, a_par3, a_set, a_for, a_seq, a_enum, a_rng1, a_rng2, a_lc, a_lc2, a_aug, a_disp, a_op2, a_tsub, a_tin, a_tnin, a_itemsL, v_add, v_sub, v_band, v_neg, v_trB, v_trI, v_trN, v_lt, v_le, v_gt, v_ge, v_eqI, v_neI, v_eqS, v_neS, v_isn, v_isnn, v_int, v_abs, v_lenT, v_lenL, v_tupL, v_lstL, List.set_cons_zero, List.set_cons_succ, List.map_cons, List.map_nil, List.cons_append, List.nil_append, List.replicate_succ, List.replicate_zero, dataOf, Option.map_some, Option.some.injEq, exists_eq_left', List.length_cons, List.length_nil, asOI, Oc.D, isNone, Bool.not_true, Bool.false_eq_true]
    exact k _
  | some z =>
    obtain ⟨h1, h2, h3⟩ := run_less ch0 xs 0 z hz
    rw [Nat.sub_zero] at h3
    cases z with
    | wrong c n =>
      have h3 : runC ch0 (xs.take n) 0 = none := h3
      simp (implicitDefEqProofs := false) only [↓reduceIte, post_bnd, post_ret, a_k, a_v, getV_cons0, getV_cons, a_bin, a_cmp, a_ch, a_neg, a_not, a_and, a_or, a_ite, a_sub, a_slc, a_no, a_so, a_nil', a_cons', a_tup, a_lst, a_nl, a_ndk, a_call, a_call0, a_bi, a_isi, a_app, a_sd, a_tst, a_sk, a_brk, a_cnt, a_bad, a_ex, a_ret, a_retN, a_if, a_asg, a_par2, a_par3, a_set, a_for, a_seq, a_enum, a_rng1, a_rng2, a_lc, a_lc2, a_aug, a_disp, a_op2, a_tsub, a_tin, a_tnin, a_itemsL, v_add, v_sub, v_band, v_neg, v_trB, v_trI, v_trN, v_lt, v_le, v_gt, v_ge, v_eqI, v_neI, v_eqS, v_neS, v_isn, v_isnn, v_int, v_abs, v_lenT, v_lenL, v_tupL, v_lstL, List.set_cons_zero, List.set_cons_succ, List.map_cons, List.map_nil, List.cons_append, List.nil_append, List.replicate_succ, List.replicate_zero, dataOf, Option.map_some, Option.some.injEq, exists_eq_left', List.length_cons, List.length_nil, asOI, Oc.D, isNone, Bool.not_false]
      rw [v_ixT (i0 _ _)]
      simp (implicitDefEqProofs := false) only [↓reduceIte, post_bnd, post_ret, a_k, a_v, getV_cons0, getV_cons, a_bin, a_cmp, a_ch, a_neg, a_not, a_and, a_or, a_ite, a_sub, a_slc, a_no, a_so, a_nil', a_cons', a_tup, a_lst, a_nl, a_ndk, a_call, a_call0, a_bi, a_isi, a_app, a_sd, a_tst, a_sk, a_brk, a_cnt, a_bad, a_ex, a_ret, a_retN, a_if, a_asg, a_par2, a_par3, a_set, a_for, a_seq, a_enum, a_rng1, a_rng2, a_lc, a_lc2, a_aug, a_disp, a_op2, a_tsub, a_tin, a_tnin, a_itemsL, v_add, v_sub, v_band, v_neg, v_trB, v_trI, v_trN, v_lt, v_le, v_gt, v_ge, v_eqI, v_neI, v_eqS, v_neS, v_isn, v_isnn, v_int, v_abs, v_lenT, v_lenL, v_tupL, v_lstL, List.set_cons_zero, List.set_cons_succ, List.map_cons, List.map_nil, List.cons_append, List.nil_append, List.replicate_succ, List.replicate_zero, dataOf, Option.map_some, Option.some.injEq, exists_eq_left', List.length_cons, List.length_nil, asOI]
      rw [show ((("wrong" : String) : Str) == (("whole" : String) : Str)) = false from by decide]
      simp (implicitDefEqProofs := false) only [↓reduceIte, post_bnd, post_ret, a_k, a_v, getV_cons0, getV_cons, a_bin, a_cmp, a_ch, a_neg, a_not, a_and, a_or, a_ite, a_sub, a_slc, a_no, a_so, a_nil', a_cons', a_tup, a_lst, a_nl, a_ndk, a_call, a_call0, a_bi, a_isi, a_app, a_sd, a_tst, a_sk, a_brk, a_cnt, a_bad, a_ex, a_ret, a_retN, a_if, a_asg, a_par2, a_par3, a_set, a_for, a_seq, a_enum, a_rng1, a_rng2, a_lc, a_lc2, a_aug, a_disp, a_op2, a_tsub, a_tin, a_tnin, a_itemsL, v_add, v_sub, v_band, v_neg, v_trB, v_trI, v_trN, v_lt, v_le, v_gt, v_ge, v_eqI, v_neI, v_eqS, v_neS, v_isn, v_isnn, v_int, v_abs, v_lenT, v_lenL, v_tupL, v_lstL, List.set_cons_zero, List.set_cons_succ, List.map_cons, List.map_nil, List.cons_append, List.nil_append, List.replicate_succ, List.replicate_zero, dataOf, Option.map_some, Option.some.injEq, exists_eq_left', List.length_cons, List.length_nil, asOI, Bool.false_eq_true]
      rw [v_ixT (i2 _ _ _)]
      simp (implicitDefEqProofs := false) only [↓reduceIte, post_bnd, post_ret, a_k, a_v, getV_cons0, getV_cons, a_bin, a_cmp, a_ch, a_neg, a_not, a_and, a_or, a_ite, a_sub, a_slc, a_no, a_so, a_nil', a_cons', a_tup, a_lst, a_nl, a_ndk, a_call, a_call0, a_bi, a_isi, a_app, a_sd, a_tst, a_sk, a_brk, a_cnt, a_bad, a_ex, a_ret, a_retN, a_if, a_asg, a_par2, a_par3, a_set, a_for, a_seq, a_enum, a_rng1, a_rng2, a_lc, a_lc2, a_aug, a_disp, a_op2, a_tsub, a_tin, a_tnin, a_itemsL, v_add, v_sub, v_band, v_neg, v_trB, v_trI, v_trN, v_lt, v_le, v_gt, v_ge, v_eqI, v_neI, v_eqS, v_neS, v_isn, v_isnn, v_int, v_abs, v_lenT, v_lenL, v_tupL, v_lstL, List.set_cons_zero, List.set_cons_succ, List.map_cons, List.map_nil, List.cons_append, List.nil_append, List.replicate_succ, List.replicate_zero, dataOf, Option.map_some, Option.some.injEq, exists_eq_left', List.length_cons, List.length_nil, asOI]
      rw [v_slT, cutTo]
      refine in_ok (oct_take ho _) (by rw [List.length_take]; omega) (cs_below _ _) ?_
      rw [h3]
      simp (implicitDefEqProofs := false) only [↓reduceIte, post_bnd, post_ret, a_k, a_v, getV_cons0, getV_cons, a_bin, a_cmp, a_ch, a_neg, a_not, a_and, a_or, a_ite, a_sub, a_slc, a_no, a_so, a_nil', a_cons', a_tup, a_lst, a_nl, a_ndk, a_call, a_call0, a_bi, a_isi, a_app, a_sd, a_tst, a_sk, a_brk, a_cnt, a_bad, a_ex, a_ret, a_retN, a_if, a_asg, a_par2, a_par3, a_set, a_for, a_seq, a_enum, a_rng1, a_rng2, a_lc, a_lc2, a_aug, a_disp, a_op2, a_tsub, a_tin, a_tnin, a_itemsL, v_add, v_sub, v_band, v_neg, v_trB, v_trI, v_trN, v_lt, v_le, v_gt, v_ge, v_eqI, v_neI, v_eqS, v_neS, v_isn, v_isnn, v_int, v_abs, v_lenT, v_lenL, v_tupL, v_lstL, List.set_cons_zero, List.set_cons_succ, List.map_cons, List.map_nil, List.cons_append, List.nil_append, List.replicate_succ, List.replicate_zero, dataOf, Option.map_some, Option.some.injEq, exists_eq_left', List.length_cons, List.length_nil, asOI, Oc.D, isNone, Bool.not_true, Bool.false_eq_true]
      exact k _
    | whole b n =>
      have h3 : runC ch0 (xs.take (n - 1)) 0 = none := h3
      simp (implicitDefEqProofs := false) only [↓reduceIte, post_bnd, post_ret, a_k, a_v, getV_cons0, getV_cons, a_bin, a_cmp, a_ch, a_neg, a_not, a_and, a_or, a_ite, a_sub, a_slc, a_no, a_so, a_nil', a_cons', a_tup, a_lst, a_nl, a_ndk, a_call, a_call0, a_bi, a_isi, a_app, a_sd, a_tst, a_sk, a_brk, a_cnt, a_bad, a_ex, a_ret, a_retN, a_if, a_asg, a_par2, a_par3, a_set, a_for, a_seq, a_enum, a_rng1, a_rng2, a_lc, a_lc2, a_aug, a_disp, a_op2, a_tsub, a_tin, a_tnin, a_itemsL, v_add, v_sub, v_band, v_neg, v_trB, v_trI, v_trN, v_lt, v_le, v_gt, v_ge, v_eqI, v_neI, v_eqS, v_neS, v_isn, v_isnn, v_int, v_abs, v_lenT, v_lenL, v_tupL, v_lstL, List.set_cons_zero, List.set_cons_succ, List.map_cons, List.map_nil, List.cons_append, List.nil_append, List.replicate_succ, List.replicate_zero, dataOf, Option.map_some, Option.some.injEq, exists_eq_left', List.length_cons, List.length_nil, asOI, Oc.D, isNone, Bool.not_false]
      rw [v_ixT (i0 _ _)]
      simp (implicitDefEqProofs := false) only [↓reduceIte, post_bnd, post_ret, a_k, a_v, getV_cons0, getV_cons, a_bin, a_cmp, a_ch, a_neg, a_not, a_and, a_or, a_ite, a_sub, a_slc, a_no, a_so, a_nil', a_cons', a_tup, a_lst, a_nl, a_ndk, a_call, a_call0, a_bi, a_isi, a_app, a_sd, a_tst, a_sk, a_brk, a_cnt, a_bad, a_ex, a_ret, a_retN, a_if, a_asg, a_par2, a_par3, a_set, a_for, a_seq, a_enum, a_rng1, a_rng2, a_lc, a_lc2, a_aug, a_disp, a_op2, a_tsub, a_tin, a_tnin, a_itemsL, v_add, v_sub, v_band, v_neg, v_trB, v_trI, v_trN, v_lt, v_le, v_gt, v_ge, v_eqI, v_neI, v_eqS, v_neS, v_isn, v_isnn, v_int, v_abs, v_lenT, v_lenL, v_tupL, v_lstL, List.set_cons_zero, List.set_cons_succ, List.map_cons, List.map_nil, List.cons_append, List.nil_append, List.replicate_succ, List.replicate_zero, dataOf, Option.map_some, Option.some.injEq, exists_eq_left', List.length_cons, List.length_nil, asOI, beq_self_eq_true]
      rw [v_ixT (i2 _ _ _)]
      simp (implicitDefEqProofs := false) only [↓reduceIte, post_bnd, post_ret, a_k, a_v, getV_cons0, getV_cons, a_bin, a_cmp, a_ch, a_neg, a_not, a_and, a_or, a_ite, a_sub, a_slc, a_no, a_so, a_nil', a_cons', a_tup, a_lst, a_nl, a_ndk, a_call, a_call0, a_bi, a_isi, a_app, a_sd, a_tst, a_sk, a_brk, a_cnt, a_bad, a_ex, a_ret, a_retN, a_if, a_asg, a_par2, a_par3, a_set, a_for, a_seq, a_enum, a_rng1, a_rng2, a_lc, a_lc2, a_aug, a_disp, a_op2, a_tsub, a_tin, a_tnin, a_itemsL, v_add, v_sub, v_band, v_neg, v_trB, v_trI, v_trN, v_lt, v_le, v_gt, v_ge, v_eqI, v_neI, v_eqS, v_neS, v_isn, v_isnn, v_int, v_abs, v_lenT, v_lenL, v_tupL, v_lstL, List.set_cons_zero, List.set_cons_succ, List.map_cons, List.map_nil, List.cons_append, List.nil_append, List.replicate_succ, List.replicate_zero, dataOf, Option.map_some, Option.some.injEq, exists_eq_left', List.length_cons, List.length_nil, asOI]
      by_cases hn : n = 0
      · subst hn
        exact absurd (whole_pos ch0 xs 0 hz) (by decide)
      · rw [show ((n : Nat) : Int) - 1 = ((n - 1 : Nat) : Int) by omega, v_slT, cutTo]
        refine in_ok (oct_take ho _) (by rw [List.length_take]; omega) (cs_below _ _) ?_
        rw [h3]
        simp (implicitDefEqProofs := false) only [↓reduceIte, post_bnd, post_ret, a_k, a_v, getV_cons0, getV_cons, a_bin, a_cmp, a_ch, a_neg, a_not, a_and, a_or, a_ite, a_sub, a_slc, a_no, a_so, a_nil', a_cons', a_tup, a_lst, a_nl, a_ndk, a_call, a_call0, a_bi, a_isi, a_app, a_sd, a_tst, a_sk, a_brk, a_cnt, a_bad, a_ex, a_ret, a_retN, a_if, a_asg, a_par2, a_par3, a_set, a_for, a_seq, a_enum, a_rng1, a_rng2, a_lc, a_lc2, a_aug, a_disp, a_op2, a_tsub, a_tin, a_tnin, a_itemsL, v_add, v_sub, v_band, v_neg, v_trB, v_trI, v_trN, v_lt, v_le, v_gt, v_ge, v_eqI, v_neI, v_eqS, v_neS, v_isn, v_isnn, v_int, v_abs, v_lenT, v_lenL, v_tupL, v_lstL, List.set_cons_zero, List.set_cons_succ, List.map_cons, List.map_nil, List.cons_append, List.nil_append, List.replicate_succ, List.replicate_zero, dataOf, Option.map_some, Option.some.injEq, exists_eq_left', List.length_cons, List.length_nil, asOI, Oc.D, isNone, Bool.not_true, Bool.false_eq_true]
        exact k _
theorem ones_ok : ∀ (items : List (List Int)) (x7 x8 : Option W), (∀ xs ∈ items, oct xs ∧ xs.length ≤ 1600) → (∀ x7 x8, Q (.nx (fw sc t x3 x4 x5 x6 x7 x8 x9 x10 x11 x12 x13 x14 x15 x16)) (CS c0 c1)) →
    post (forM (.nm 7) lw1b5b (items.map fun xs => T xs) (fw sc t x3 x4 x5 x6 x7 x8 x9 x10 x11 x12 x13 x14 x15 x16) (CS c0 c1)) Q
  | [], x7, x8, _, k => by rw [List.map_nil, for_nil]; exact k _ _
  | xs :: r, x7, x8, h, k => by
    rw [List.map_cons, for_cons]
    refine ⟨fw sc t x3 x4 x5 x6 (some (.d (T xs))) x8 x9 x10 x11 x12 x13 x14 x15 x16, rfl, ?_⟩
    refine one_ok (h xs List.mem_cons_self).1 (h xs List.mem_cons_self).2 fun x8 => ?_
    exact ones_ok r _ _ (fun y m => h y (List.mem_cons_of_mem _ m)) k
def Ps (y : D) : Prop := ∃ s : Nat, y = .int ((s : Nat) : Int) ∧ 1 ≤ s ∧ s ≤ 300
theorem ps_list : ∀ ys : List D, (∀ y ∈ ys, Ps y) → ∃ ss : List Nat, ys = ss.map (fun s => .int ((s : Nat) : Int)) ∧ ∀ s ∈ ss, 1 ≤ s ∧ s ≤ 300
  | [], _ => ⟨[], rfl, fun _ m => by cases m⟩
  | y :: r, h => by
    obtain ⟨o, e, h1⟩ := h y List.mem_cons_self
    obtain ⟨os, e2, h2⟩ := ps_list r fun x m => h x (List.mem_cons_of_mem _ m)
    refine ⟨o :: os, by rw [e, e2]; rfl, fun x m => ?_⟩
    rcases List.mem_cons.mp m with z | m
    · rw [z]; exact h1
    · exact h2 x m
theorem oct_hex {n : Nat} (h : n < 4096) : oct (hexI n) := by
  intro o m
  obtain ⟨k, hk, rfl⟩ := List.mem_map.mp m
  have := hexK_lt h k hk
  show 0 ≤ ((cN k : Nat) : Int) ∧ ((cN k : Nat) : Int) < 256
  unfold cN
  split <;> omega
theorem oct_ch {l : List Int} (h : oct l) (hl : l.length ≤ 300) : oct (chI l) := oct_app (oct_app (oct_app (oct_hex (by omega)) (oct_lit rfl)) h) (oct_lit rfl)
theorem oct_by : ∀ (ss : List Nat) (left : List Int), oct left → left.length ≤ 300 → oct (byI left ss)
  | [], left, h, hl => by
    unfold byI
    split
    · exact fun _ m => by cases m
    · exact oct_ch h hl
  | s :: ss, left, h, hl => by
    unfold byI
    split
    · exact oct_app (oct_ch (oct_take h _) (by rw [List.length_take]; omega)) (oct_by ss _ (oct_drop h _) (by rw [List.length_drop]; omega))
    · split
      · exact fun _ m => by cases m
      · exact oct_ch h hl
theorem by_len : ∀ (ss : List Nat) (left : List Int), (byI left ss).length ≤ left.length + 7 * (ss.length + 1)
  | [], left => by
    unfold byI
    split
    · show 0 ≤ _; omega
    · have := chI_len left; show _ ≤ _ + 7 * (0 + 1); omega
  | s :: ss, left => by
    unfold byI
    rw [List.length_cons]
    split
    · have h1 := chI_len (left.take s)
      have h2 := by_len ss (left.drop s)
      have h3 : (left.take s).length + (left.drop s).length = left.length := by rw [← List.length_append, List.take_append_drop]
      rw [List.length_append]; omega
    · split
      · show 0 ≤ _; omega
      · have := chI_len left; omega
end
end MP.Q0

namespace MP.Q0
open PySem L2 PySem.Spec PyProof.Rows
section
variable {q : W → Sto → Prop} {Q : Fl → Sto → Prop} {c0 c1 : Int} {sc t x3 x4 x5 x6 x7 x8 x9 x10 x11 x12 x13 x14 x15 x16 : Option W}
theorem e48 : (PyData.tuple [.int 48, .int 13] : D) = T [48, 13] := rfl
theorem turn1_ok (h0 : 0 ≤ c0) (k : ∀ c0' c1' x3 x4 x5 x6 x7 x8, 0 ≤ c0' → Q (.nx (fw sc t x3 x4 x5 x6 x7 x8 x9 x10 x11 x12 x13 x14 x15 x16)) (CS c0' c1')) :
    post (lw1b (fw sc t x3 x4 x5 x6 x7 x8 x9 x10 x11 x12 x13 x14 x15 x16) (CS c0 c1)) Q := by
  unfold lw1b
  rw [sq_ap]
  unfold lw1b0
  simp (implicitDefEqProofs := false) only [post_bnd, post_ret, a_k, a_v, getV_cons0, getV_cons, a_bin, a_cmp, a_ch, a_neg, a_not, a_and, a_or, a_ite, a_sub, a_slc, a_no, a_so, a_nil', a_cons', a_tup, a_lst, a_nl, a_ndk, a_call, a_call0, a_bi, a_isi, a_app, a_sd, a_tst, a_sk, a_brk, a_cnt, a_bad, a_ex, a_ret, a_retN, a_if, a_asg, a_par2, a_par3, a_set, a_for, a_seq, a_enum, a_rng1, a_rng2, a_lc, a_lc2, a_aug, a_disp, a_op2, a_tsub, a_tin, a_tnin, a_itemsL, v_add, v_sub, v_band, v_neg, v_trB, v_trI, v_trN, v_lt, v_le, v_gt, v_ge, v_eqI, v_neI, v_eqS, v_neS, v_isn, v_isnn, v_int, v_abs, v_lenT, v_lenL, v_tupL, v_lstL, List.set_cons_zero, List.set_cons_succ, List.map_cons, List.map_nil, List.cons_append, List.nil_append, List.replicate_succ, List.replicate_zero, dataOf, Option.map_some, Option.some.injEq, exists_eq_left', List.length_cons, List.length_nil, asOI]
  refine body_ok h0 fun body a b ho hl h1 => ?_
  try simp (implicitDefEqProofs := false) only [post_bnd, post_ret, a_k, a_v, getV_cons0, getV_cons, a_bin, a_cmp, a_ch, a_neg, a_not, a_and, a_or, a_ite, a_sub, a_slc, a_no, a_so, a_nil', a_cons', a_tup, a_lst, a_nl, a_ndk, a_call, a_call0, a_bi, a_isi, a_app, a_sd, a_tst, a_sk, a_brk, a_cnt, a_bad, a_ex, a_ret, a_retN, a_if, a_asg, a_par2, a_par3, a_set, a_for, a_seq, a_enum, a_rng1, a_rng2, a_lc, a_lc2, a_aug, a_disp, a_op2, a_tsub, a_tin, a_tnin, a_itemsL, v_add, v_sub, v_band, v_neg, v_trB, v_trI, v_trN, v_lt, v_le, v_gt, v_ge, v_eqI, v_neI, v_eqS, v_neS, v_isn, v_isnn, v_int, v_abs, v_lenT, v_lenL, v_tupL, v_lstL, List.set_cons_zero, List.set_cons_succ, List.map_cons, List.map_nil, List.cons_append, List.nil_append, List.replicate_succ, List.replicate_zero, dataOf, Option.map_some, Option.some.injEq, exists_eq_left', List.length_cons, List.length_nil, asOI]
  rw [sq_ap]
  unfold lw1b1
  simp (implicitDefEqProofs := false) only [post_bnd, post_ret, a_k, a_v, getV_cons0, getV_cons, a_bin, a_cmp, a_ch, a_neg, a_not, a_and, a_or, a_ite, a_sub, a_slc, a_no, a_so, a_nil', a_cons', a_tup, a_lst, a_nl, a_ndk, a_call, a_call0, a_bi, a_isi, a_app, a_sd, a_tst, a_sk, a_brk, a_cnt, a_bad, a_ex, a_ret, a_retN, a_if, a_asg, a_par2, a_par3, a_set, a_for, a_seq, a_enum, a_rng1, a_rng2, a_lc, a_lc2, a_aug, a_disp, a_op2, a_tsub, a_tin, a_tnin, a_itemsL, v_add, v_sub, v_band, v_neg, v_trB, v_trI, v_trN, v_lt, v_le, v_gt, v_ge, v_eqI, v_neI, v_eqS, v_neS, v_isn, v_isnn, v_int, v_abs, v_lenT, v_lenL, v_tupL, v_lstL, List.set_cons_zero, List.set_cons_succ, List.map_cons, List.map_nil, List.cons_append, List.nil_append, List.replicate_succ, List.replicate_zero, dataOf, Option.map_some, Option.some.injEq, exists_eq_left', List.length_cons, List.length_nil, asOI]
  refine roll_ok (R := []) h1 ⟨by decide, by decide⟩ fun v a b hv1 hv2 h2 => ?_
  try simp (implicitDefEqProofs := false) only [post_bnd, post_ret, a_k, a_v, getV_cons0, getV_cons, a_bin, a_cmp, a_ch, a_neg, a_not, a_and, a_or, a_ite, a_sub, a_slc, a_no, a_so, a_nil', a_cons', a_tup, a_lst, a_nl, a_ndk, a_call, a_call0, a_bi, a_isi, a_app, a_sd, a_tst, a_sk, a_brk, a_cnt, a_bad, a_ex, a_ret, a_retN, a_if, a_asg, a_par2, a_par3, a_set, a_for, a_seq, a_enum, a_rng1, a_rng2, a_lc, a_lc2, a_aug, a_disp, a_op2, a_tsub, a_tin, a_tnin, a_itemsL, v_add, v_sub, v_band, v_neg, v_trB, v_trI, v_trN, v_lt, v_le, v_gt, v_ge, v_eqI, v_neI, v_eqS, v_neS, v_isn, v_isnn, v_int, v_abs, v_lenT, v_lenL, v_tupL, v_lstL, List.set_cons_zero, List.set_cons_succ, List.map_cons, List.map_nil, List.cons_append, List.nil_append, List.replicate_succ, List.replicate_zero, dataOf, Option.map_some, Option.some.injEq, exists_eq_left', List.length_cons, List.length_nil, asOI]
  refine ⟨_, items_rng ⟨by omega, by omega⟩, ?_⟩
  refine lc_cup Ps _ _ _ _ h2 ?_ ?_
  · intro x hx c0 c1 q h0 k
    unfold lcT
    have eb : ∀ w0 w1 w2 w3 w4 w5 w6 w7 w8 w9 w10 w11 w12 w13 w14 w15 w16 : Option W, bindP (.nm 16) (.d x) (wipeW [w0, w1, w2, w3, w4, w5, w6, w7, w8, w9, w10, w11, w12, w13, w14, w15, w16] [16]) = some [w0, w1, w2, w3, w4, w5, w6, w7, w8, w9, w10, w11, w12, w13, w14, w15, some (.d x)] := fun _ _ _ _ _ _ _ _ _ _ _ _ _ _ _ _ _ => rfl
    rw [eb]
    simp (implicitDefEqProofs := false) only [opt_some, bnd_ret, yesM, if_true, post_bnd, post_ret, a_k, a_v, getV_cons0, getV_cons, a_bin, a_cmp, a_ch, a_neg, a_not, a_and, a_or, a_ite, a_sub, a_slc, a_no, a_so, a_nil', a_cons', a_tup, a_lst, a_nl, a_ndk, a_call, a_call0, a_bi, a_isi, a_app, a_sd, a_tst, a_sk, a_brk, a_cnt, a_bad, a_ex, a_ret, a_retN, a_if, a_asg, a_par2, a_par3, a_set, a_for, a_seq, a_enum, a_rng1, a_rng2, a_lc, a_lc2, a_aug, a_disp, a_op2, a_tsub, a_tin, a_tnin, a_itemsL, v_add, v_sub, v_band, v_neg, v_trB, v_trI, v_trN, v_lt, v_le, v_gt, v_ge, v_eqI, v_neI, v_eqS, v_neS, v_isn, v_isnn, v_int, v_abs, v_lenT, v_lenL, v_tupL, v_lstL, List.set_cons_zero, List.set_cons_succ, List.map_cons, List.map_nil, List.cons_append, List.nil_append, List.replicate_succ, List.replicate_zero, dataOf, Option.map_some, Option.some.injEq, exists_eq_left', List.length_cons, List.length_nil, asOI]
    refine roll_ok (R := []) h0 ⟨by decide, by decide⟩ fun v a b hv1 hv2 h1 => ?_
    try simp (implicitDefEqProofs := false) only [post_bnd, post_ret, a_k, a_v, getV_cons0, getV_cons, a_bin, a_cmp, a_ch, a_neg, a_not, a_and, a_or, a_ite, a_sub, a_slc, a_no, a_so, a_nil', a_cons', a_tup, a_lst, a_nl, a_ndk, a_call, a_call0, a_bi, a_isi, a_app, a_sd, a_tst, a_sk, a_brk, a_cnt, a_bad, a_ex, a_ret, a_retN, a_if, a_asg, a_par2, a_par3, a_set, a_for, a_seq, a_enum, a_rng1, a_rng2, a_lc, a_lc2, a_aug, a_disp, a_op2, a_tsub, a_tin, a_tnin, a_itemsL, v_add, v_sub, v_band, v_neg, v_trB, v_trI, v_trN, v_lt, v_le, v_gt, v_ge, v_eqI, v_neI, v_eqS, v_neS, v_isn, v_isnn, v_int, v_abs, v_lenT, v_lenL, v_tupL, v_lstL, List.set_cons_zero, List.set_cons_succ, List.map_cons, List.map_nil, List.cons_append, List.nil_append, List.replicate_succ, List.replicate_zero, dataOf, Option.map_some, Option.some.injEq, exists_eq_left', List.length_cons, List.length_nil, asOI]
    refine ⟨by decide, ?_⟩
    refine some_ok (R := []) (.inl rfl) h1 (by simp) (by simp) fun x a b hx h2 => ?_
    obtain ⟨w, rfl, hw1, hw2⟩ := mem_int (xs := [1, 2, 16, 300, 1 + v]) (lo := 1) (hi := 300) hx (by
      intro w m
      simp only [List.mem_cons, List.mem_nil_iff, or_false] at m
      omega)
    try simp (implicitDefEqProofs := false) only [post_bnd, post_ret, a_k, a_v, getV_cons0, getV_cons, a_bin, a_cmp, a_ch, a_neg, a_not, a_and, a_or, a_ite, a_sub, a_slc, a_no, a_so, a_nil', a_cons', a_tup, a_lst, a_nl, a_ndk, a_call, a_call0, a_bi, a_isi, a_app, a_sd, a_tst, a_sk, a_brk, a_cnt, a_bad, a_ex, a_ret, a_retN, a_if, a_asg, a_par2, a_par3, a_set, a_for, a_seq, a_enum, a_rng1, a_rng2, a_lc, a_lc2, a_aug, a_disp, a_op2, a_tsub, a_tin, a_tnin, a_itemsL, v_add, v_sub, v_band, v_neg, v_trB, v_trI, v_trN, v_lt, v_le, v_gt, v_ge, v_eqI, v_neI, v_eqS, v_neS, v_isn, v_isnn, v_int, v_abs, v_lenT, v_lenL, v_tupL, v_lstL, List.set_cons_zero, List.set_cons_succ, List.map_cons, List.map_nil, List.cons_append, List.nil_append, List.replicate_succ, List.replicate_zero, dataOf, Option.map_some, Option.some.injEq, exists_eq_left', List.length_cons, List.length_nil, asOI, asD]
    refine k _ _ _ ⟨w.toNat, ?_, by omega, by omega⟩ h2
    rw [Int.toNat_of_nonneg (by omega)]
  intro ys a b hys hyl h3
  obtain ⟨ss, rfl, hss⟩ := ps_list ys hys
  rw [List.length_map, List.length_map, List.length_range] at hyl
  refine ⟨by rw [List.length_map]; show _ ≤ 16777216; omega, ?_⟩
  try simp (implicitDefEqProofs := false) only [post_bnd, post_ret, a_k, a_v, getV_cons0, getV_cons, a_bin, a_cmp, a_ch, a_neg, a_not, a_and, a_or, a_ite, a_sub, a_slc, a_no, a_so, a_nil', a_cons', a_tup, a_lst, a_nl, a_ndk, a_call, a_call0, a_bi, a_isi, a_app, a_sd, a_tst, a_sk, a_brk, a_cnt, a_bad, a_ex, a_ret, a_retN, a_if, a_asg, a_par2, a_par3, a_set, a_for, a_seq, a_enum, a_rng1, a_rng2, a_lc, a_lc2, a_aug, a_disp, a_op2, a_tsub, a_tin, a_tnin, a_itemsL, v_add, v_sub, v_band, v_neg, v_trB, v_trI, v_trN, v_lt, v_le, v_gt, v_ge, v_eqI, v_neI, v_eqS, v_neS, v_isn, v_isnn, v_int, v_abs, v_lenT, v_lenL, v_tupL, v_lstL, List.set_cons_zero, List.set_cons_succ, List.map_cons, List.map_nil, List.cons_append, List.nil_append, List.replicate_succ, List.replicate_zero, dataOf, Option.map_some, Option.some.injEq, exists_eq_left', List.length_cons, List.length_nil, asOI]
  rw [sq_ap]
  unfold lw1b2
  simp (implicitDefEqProofs := false) only [post_bnd, post_ret, a_k, a_v, getV_cons0, getV_cons, a_bin, a_cmp, a_ch, a_neg, a_not, a_and, a_or, a_ite, a_sub, a_slc, a_no, a_so, a_nil', a_cons', a_tup, a_lst, a_nl, a_ndk, a_call, a_call0, a_bi, a_isi, a_app, a_sd, a_tst, a_sk, a_brk, a_cnt, a_bad, a_ex, a_ret, a_retN, a_if, a_asg, a_par2, a_par3, a_set, a_for, a_seq, a_enum, a_rng1, a_rng2, a_lc, a_lc2, a_aug, a_disp, a_op2, a_tsub, a_tin, a_tnin, a_itemsL, v_add, v_sub, v_band, v_neg, v_trB, v_trI, v_trN, v_lt, v_le, v_gt, v_ge, v_eqI, v_neI, v_eqS, v_neS, v_isn, v_isnn, v_int, v_abs, v_lenT, v_lenL, v_tupL, v_lstL, List.set_cons_zero, List.set_cons_succ, List.map_cons, List.map_nil, List.cons_append, List.nil_append, List.replicate_succ, List.replicate_zero, dataOf, Option.map_some, Option.some.injEq, exists_eq_left', List.length_cons, List.length_nil, asOI]
  refine of_ok rfl ho hl hss (by omega) ?_
  try simp (implicitDefEqProofs := false) only [post_bnd, post_ret, a_k, a_v, getV_cons0, getV_cons, a_bin, a_cmp, a_ch, a_neg, a_not, a_and, a_or, a_ite, a_sub, a_slc, a_no, a_so, a_nil', a_cons', a_tup, a_lst, a_nl, a_ndk, a_call, a_call0, a_bi, a_isi, a_app, a_sd, a_tst, a_sk, a_brk, a_cnt, a_bad, a_ex, a_ret, a_retN, a_if, a_asg, a_par2, a_par3, a_set, a_for, a_seq, a_enum, a_rng1, a_rng2, a_lc, a_lc2, a_aug, a_disp, a_op2, a_tsub, a_tin, a_tnin, a_itemsL, v_add, v_sub, v_band, v_neg, v_trB, v_trI, v_trN, v_lt, v_le, v_gt, v_ge, v_eqI, v_neI, v_eqS, v_neS, v_isn, v_isnn, v_int, v_abs, v_lenT, v_lenL, v_tupL, v_lstL, List.set_cons_zero, List.set_cons_succ, List.map_cons, List.map_nil, List.cons_append, List.nil_append, List.replicate_succ, List.replicate_zero, dataOf, Option.map_some, Option.some.injEq, exists_eq_left', List.length_cons, List.length_nil, asOI]
  have ob : oct (byI body ss ++ endI) := oct_app (oct_by ss body ho hl) (oct_lit rfl)
  have lb := by_len ss body
  have l5 : endI.length = 5 := rfl
  have hll : (byI body ss ++ endI).length ≤ 400 := by rw [List.length_append, l5]; omega
  rw [sq_ap]
  unfold lw1b3
  simp (implicitDefEqProofs := false) only [↓reduceIte, post_bnd, post_ret, a_k, a_v, getV_cons0, getV_cons, a_bin, a_cmp, a_ch, a_neg, a_not, a_and, a_or, a_ite, a_sub, a_slc, a_no, a_so, a_nil', a_cons', a_tup, a_lst, a_nl, a_ndk, a_call, a_call0, a_bi, a_isi, a_app, a_sd, a_tst, a_sk, a_brk, a_cnt, a_bad, a_ex, a_ret, a_retN, a_if, a_asg, a_par2, a_par3, a_set, a_for, a_seq, a_enum, a_rng1, a_rng2, a_lc, a_lc2, a_aug, a_disp, a_op2, a_tsub, a_tin, a_tnin, a_itemsL, v_add, v_sub, v_band, v_neg, v_trB, v_trI, v_trN, v_lt, v_le, v_gt, v_ge, v_eqI, v_neI, v_eqS, v_neS, v_isn, v_isnn, v_int, v_abs, v_lenT, v_lenL, v_tupL, v_lstL, List.set_cons_zero, List.set_cons_succ, List.map_cons, List.map_nil, List.cons_append, List.nil_append, List.replicate_succ, List.replicate_zero, dataOf, Option.map_some, Option.some.injEq, exists_eq_left', List.length_cons, List.length_nil, asOI]
  obtain ⟨s, hs⟩ := repr_octs ob (by omega)
  rw [v_repr hs]
  refine due_is rfl hl hss (by omega) ?_
  rw [v_repr hs]
  try simp (implicitDefEqProofs := false) only [↓reduceIte, post_bnd, post_ret, a_k, a_v, getV_cons0, getV_cons, a_bin, a_cmp, a_ch, a_neg, a_not, a_and, a_or, a_ite, a_sub, a_slc, a_no, a_so, a_nil', a_cons', a_tup, a_lst, a_nl, a_ndk, a_call, a_call0, a_bi, a_isi, a_app, a_sd, a_tst, a_sk, a_brk, a_cnt, a_bad, a_ex, a_ret, a_retN, a_if, a_asg, a_par2, a_par3, a_set, a_for, a_seq, a_enum, a_rng1, a_rng2, a_lc, a_lc2, a_aug, a_disp, a_op2, a_tsub, a_tin, a_tnin, a_itemsL, v_add, v_sub, v_band, v_neg, v_trB, v_trI, v_trN, v_lt, v_le, v_gt, v_ge, v_eqI, v_neI, v_eqS, v_neS, v_isn, v_isnn, v_int, v_abs, v_lenT, v_lenL, v_tupL, v_lstL, List.set_cons_zero, List.set_cons_succ, List.map_cons, List.map_nil, List.cons_append, List.nil_append, List.replicate_succ, List.replicate_zero, dataOf, Option.map_some, Option.some.injEq, exists_eq_left', List.length_cons, List.length_nil, asOI, beq_self_eq_true, Bool.not_true, Bool.false_eq_true]
  refine ⟨by decide, ?_⟩
  rw [e48, v_catT (by show _ + 2 ≤ _; omega)]
  refine in_ok (oct_app ob (oct_lit rfl)) (by rw [List.length_append]; show _ + 2 ≤ _; omega) (cs_below _ _) ?_
  have hrun : runC ch0 (byI body ss ++ endI ++ [48, 13]) 0 = some (.whole body (byI body ss ++ endI).length) := by
    have r := run_by ss body [] [48, 13] 0 0 (fun s m => (hss s m).1) (by show 0 + _ ≤ _; omega)
    rw [List.append_assoc, show ch0 = ⟨.size, 0, 0, 0, []⟩ from rfl, r, List.nil_append, List.length_append, l5, Nat.zero_add]
  rw [hrun]
  obtain ⟨s2, hs2⟩ := repr_oc (z := some (.whole body (byI body ss ++ endI).length)) ⟨ho, by omega, by omega⟩
  rw [v_repr hs2]
  try simp (implicitDefEqProofs := false) only [↓reduceIte, post_bnd, post_ret, a_k, a_v, getV_cons0, getV_cons, a_bin, a_cmp, a_ch, a_neg, a_not, a_and, a_or, a_ite, a_sub, a_slc, a_no, a_so, a_nil', a_cons', a_tup, a_lst, a_nl, a_ndk, a_call, a_call0, a_bi, a_isi, a_app, a_sd, a_tst, a_sk, a_brk, a_cnt, a_bad, a_ex, a_ret, a_retN, a_if, a_asg, a_par2, a_par3, a_set, a_for, a_seq, a_enum, a_rng1, a_rng2, a_lc, a_lc2, a_aug, a_disp, a_op2, a_tsub, a_tin, a_tnin, a_itemsL, v_add, v_sub, v_band, v_neg, v_trB, v_trI, v_trN, v_lt, v_le, v_gt, v_ge, v_eqI, v_neI, v_eqS, v_neS, v_isn, v_isnn, v_int, v_abs, v_lenT, v_lenL, v_tupL, v_lstL, List.set_cons_zero, List.set_cons_succ, List.map_cons, List.map_nil, List.cons_append, List.nil_append, List.replicate_succ, List.replicate_zero, dataOf, Option.map_some, Option.some.injEq, exists_eq_left', List.length_cons, List.length_nil, asOI, List.length_map]
  refine ⟨by decide, ?_⟩
  have e3 : (PyData.tuple [.str "whole", T body, .int ((byI body ss ++ endI).length : Nat)] : D) = Oc.D (some (.whole body (byI body ss ++ endI).length)) := rfl
  rw [e3, v_repr hs2]
  try simp (implicitDefEqProofs := false) only [↓reduceIte, post_bnd, post_ret, a_k, a_v, getV_cons0, getV_cons, a_bin, a_cmp, a_ch, a_neg, a_not, a_and, a_or, a_ite, a_sub, a_slc, a_no, a_so, a_nil', a_cons', a_tup, a_lst, a_nl, a_ndk, a_call, a_call0, a_bi, a_isi, a_app, a_sd, a_tst, a_sk, a_brk, a_cnt, a_bad, a_ex, a_ret, a_retN, a_if, a_asg, a_par2, a_par3, a_set, a_for, a_seq, a_enum, a_rng1, a_rng2, a_lc, a_lc2, a_aug, a_disp, a_op2, a_tsub, a_tin, a_tnin, a_itemsL, v_add, v_sub, v_band, v_neg, v_trB, v_trI, v_trN, v_lt, v_le, v_gt, v_ge, v_eqI, v_neI, v_eqS, v_neS, v_isn, v_isnn, v_int, v_abs, v_lenT, v_lenL, v_tupL, v_lstL, List.set_cons_zero, List.set_cons_succ, List.map_cons, List.map_nil, List.cons_append, List.nil_append, List.replicate_succ, List.replicate_zero, dataOf, Option.map_some, Option.some.injEq, exists_eq_left', List.length_cons, List.length_nil, asOI, beq_self_eq_true, Bool.not_true, Bool.false_eq_true]
  rw [sq_ap]
  unfold lw1b4
  simp (implicitDefEqProofs := false) only [post_bnd, post_ret, a_k, a_v, getV_cons0, getV_cons, a_bin, a_cmp, a_ch, a_neg, a_not, a_and, a_or, a_ite, a_sub, a_slc, a_no, a_so, a_nil', a_cons', a_tup, a_lst, a_nl, a_ndk, a_call, a_call0, a_bi, a_isi, a_app, a_sd, a_tst, a_sk, a_brk, a_cnt, a_bad, a_ex, a_ret, a_retN, a_if, a_asg, a_par2, a_par3, a_set, a_for, a_seq, a_enum, a_rng1, a_rng2, a_lc, a_lc2, a_aug, a_disp, a_op2, a_tsub, a_tin, a_tnin, a_itemsL, v_add, v_sub, v_band, v_neg, v_trB, v_trI, v_trN, v_lt, v_le, v_gt, v_ge, v_eqI, v_neI, v_eqS, v_neS, v_isn, v_isnn, v_int, v_abs, v_lenT, v_lenL, v_tupL, v_lstL, List.set_cons_zero, List.set_cons_succ, List.map_cons, List.map_nil, List.cons_append, List.nil_append, List.replicate_succ, List.replicate_zero, dataOf, Option.map_some, Option.some.injEq, exists_eq_left', List.length_cons, List.length_nil, asOI]
  refine ⟨by decide, ?_⟩
  refine some_ok (R := []) (.inl rfl) h3 (by simp) (by simp) fun x a b hx h4 => ?_
  obtain ⟨w, rfl, hw1, hw2⟩ := mem_int (xs := [120, 20, 3]) (lo := 3) (hi := 120) hx (by decide)
  try simp (implicitDefEqProofs := false) only [post_bnd, post_ret, a_k, a_v, getV_cons0, getV_cons, a_bin, a_cmp, a_ch, a_neg, a_not, a_and, a_or, a_ite, a_sub, a_slc, a_no, a_so, a_nil', a_cons', a_tup, a_lst, a_nl, a_ndk, a_call, a_call0, a_bi, a_isi, a_app, a_sd, a_tst, a_sk, a_brk, a_cnt, a_bad, a_ex, a_ret, a_retN, a_if, a_asg, a_par2, a_par3, a_set, a_for, a_seq, a_enum, a_rng1, a_rng2, a_lc, a_lc2, a_aug, a_disp, a_op2, a_tsub, a_tin, a_tnin, a_itemsL, v_add, v_sub, v_band, v_neg, v_trB, v_trI, v_trN, v_lt, v_le, v_gt, v_ge, v_eqI, v_neI, v_eqS, v_neS, v_isn, v_isnn, v_int, v_abs, v_lenT, v_lenL, v_tupL, v_lstL, List.set_cons_zero, List.set_cons_succ, List.map_cons, List.map_nil, List.cons_append, List.nil_append, List.replicate_succ, List.replicate_zero, dataOf, Option.map_some, Option.some.injEq, exists_eq_left', List.length_cons, List.length_nil, asOI]
  rw [show w = ((w.toNat : Nat) : Int) by omega, v_slT, cutTo]
  refine cut_ok (oct_take ho _) (by rw [List.length_take]; omega) h4 fun other a b oo lo h5 => ?_
  try simp (implicitDefEqProofs := false) only [post_bnd, post_ret, a_k, a_v, getV_cons0, getV_cons, a_bin, a_cmp, a_ch, a_neg, a_not, a_and, a_or, a_ite, a_sub, a_slc, a_no, a_so, a_nil', a_cons', a_tup, a_lst, a_nl, a_ndk, a_call, a_call0, a_bi, a_isi, a_app, a_sd, a_tst, a_sk, a_brk, a_cnt, a_bad, a_ex, a_ret, a_retN, a_if, a_asg, a_par2, a_par3, a_set, a_for, a_seq, a_enum, a_rng1, a_rng2, a_lc, a_lc2, a_aug, a_disp, a_op2, a_tsub, a_tin, a_tnin, a_itemsL, v_add, v_sub, v_band, v_neg, v_trB, v_trI, v_trN, v_lt, v_le, v_gt, v_ge, v_eqI, v_neI, v_eqS, v_neS, v_isn, v_isnn, v_int, v_abs, v_lenT, v_lenL, v_tupL, v_lstL, List.set_cons_zero, List.set_cons_succ, List.map_cons, List.map_nil, List.cons_append, List.nil_append, List.replicate_succ, List.replicate_zero, dataOf, Option.map_some, Option.some.injEq, exists_eq_left', List.length_cons, List.length_nil, asOI]
  unfold lw1b5
  simp (implicitDefEqProofs := false) only [post_bnd, post_ret, a_k, a_v, getV_cons0, getV_cons, a_bin, a_cmp, a_ch, a_neg, a_not, a_and, a_or, a_ite, a_sub, a_slc, a_no, a_so, a_nil', a_cons', a_tup, a_lst, a_nl, a_ndk, a_call, a_call0, a_bi, a_isi, a_app, a_sd, a_tst, a_sk, a_brk, a_cnt, a_bad, a_ex, a_ret, a_retN, a_if, a_asg, a_par2, a_par3, a_set, a_for, a_seq, a_enum, a_rng1, a_rng2, a_lc, a_lc2, a_aug, a_disp, a_op2, a_tsub, a_tin, a_tnin, a_itemsL, v_add, v_sub, v_band, v_neg, v_trB, v_trI, v_trN, v_lt, v_le, v_gt, v_ge, v_eqI, v_neI, v_eqS, v_neS, v_isn, v_isnn, v_int, v_abs, v_lenT, v_lenL, v_tupL, v_lstL, List.set_cons_zero, List.set_cons_succ, List.map_cons, List.map_nil, List.cons_append, List.nil_append, List.replicate_succ, List.replicate_zero, dataOf, Option.map_some, Option.some.injEq, exists_eq_left', List.length_cons, List.length_nil, asOI]
  refine spoilt_ok oo (by omega) h5 fun y1 a b o1 l1 h6 => ?_
  try simp (implicitDefEqProofs := false) only [post_bnd, post_ret, a_k, a_v, getV_cons0, getV_cons, a_bin, a_cmp, a_ch, a_neg, a_not, a_and, a_or, a_ite, a_sub, a_slc, a_no, a_so, a_nil', a_cons', a_tup, a_lst, a_nl, a_ndk, a_call, a_call0, a_bi, a_isi, a_app, a_sd, a_tst, a_sk, a_brk, a_cnt, a_bad, a_ex, a_ret, a_retN, a_if, a_asg, a_par2, a_par3, a_set, a_for, a_seq, a_enum, a_rng1, a_rng2, a_lc, a_lc2, a_aug, a_disp, a_op2, a_tsub, a_tin, a_tnin, a_itemsL, v_add, v_sub, v_band, v_neg, v_trB, v_trI, v_trN, v_lt, v_le, v_gt, v_ge, v_eqI, v_neI, v_eqS, v_neS, v_isn, v_isnn, v_int, v_abs, v_lenT, v_lenL, v_tupL, v_lstL, List.set_cons_zero, List.set_cons_succ, List.map_cons, List.map_nil, List.cons_append, List.nil_append, List.replicate_succ, List.replicate_zero, dataOf, Option.map_some, Option.some.injEq, exists_eq_left', List.length_cons, List.length_nil, asOI]
  refine spoilt_ok oo (by omega) h6 fun y2 a b o2 l2 h7 => ?_
  try simp (implicitDefEqProofs := false) only [post_bnd, post_ret, a_k, a_v, getV_cons0, getV_cons, a_bin, a_cmp, a_ch, a_neg, a_not, a_and, a_or, a_ite, a_sub, a_slc, a_no, a_so, a_nil', a_cons', a_tup, a_lst, a_nl, a_ndk, a_call, a_call0, a_bi, a_isi, a_app, a_sd, a_tst, a_sk, a_brk, a_cnt, a_bad, a_ex, a_ret, a_retN, a_if, a_asg, a_par2, a_par3, a_set, a_for, a_seq, a_enum, a_rng1, a_rng2, a_lc, a_lc2, a_aug, a_disp, a_op2, a_tsub, a_tin, a_tnin, a_itemsL, v_add, v_sub, v_band, v_neg, v_trB, v_trI, v_trN, v_lt, v_le, v_gt, v_ge, v_eqI, v_neI, v_eqS, v_neS, v_isn, v_isnn, v_int, v_abs, v_lenT, v_lenL, v_tupL, v_lstL, List.set_cons_zero, List.set_cons_succ, List.map_cons, List.map_nil, List.cons_append, List.nil_append, List.replicate_succ, List.replicate_zero, dataOf, Option.map_some, Option.some.injEq, exists_eq_left', List.length_cons, List.length_nil, asOI]
  refine spoilt_ok o2 (by omega) h7 fun y3 a b o3 l3 h8 => ?_
  try simp (implicitDefEqProofs := false) only [post_bnd, post_ret, a_k, a_v, getV_cons0, getV_cons, a_bin, a_cmp, a_ch, a_neg, a_not, a_and, a_or, a_ite, a_sub, a_slc, a_no, a_so, a_nil', a_cons', a_tup, a_lst, a_nl, a_ndk, a_call, a_call0, a_bi, a_isi, a_app, a_sd, a_tst, a_sk, a_brk, a_cnt, a_bad, a_ex, a_ret, a_retN, a_if, a_asg, a_par2, a_par3, a_set, a_for, a_seq, a_enum, a_rng1, a_rng2, a_lc, a_lc2, a_aug, a_disp, a_op2, a_tsub, a_tin, a_tnin, a_itemsL, v_add, v_sub, v_band, v_neg, v_trB, v_trI, v_trN, v_lt, v_le, v_gt, v_ge, v_eqI, v_neI, v_eqS, v_neS, v_isn, v_isnn, v_int, v_abs, v_lenT, v_lenL, v_tupL, v_lstL, List.set_cons_zero, List.set_cons_succ, List.map_cons, List.map_nil, List.cons_append, List.nil_append, List.replicate_succ, List.replicate_zero, dataOf, Option.map_some, Option.some.injEq, exists_eq_left', List.length_cons, List.length_nil, asOI]
  refine spoilt_ok ob (by omega) h8 fun y4 a b o4 l4 h9 => ?_
  try simp (implicitDefEqProofs := false) only [post_bnd, post_ret, a_k, a_v, getV_cons0, getV_cons, a_bin, a_cmp, a_ch, a_neg, a_not, a_and, a_or, a_ite, a_sub, a_slc, a_no, a_so, a_nil', a_cons', a_tup, a_lst, a_nl, a_ndk, a_call, a_call0, a_bi, a_isi, a_app, a_sd, a_tst, a_sk, a_brk, a_cnt, a_bad, a_ex, a_ret, a_retN, a_if, a_asg, a_par2, a_par3, a_set, a_for, a_seq, a_enum, a_rng1, a_rng2, a_lc, a_lc2, a_aug, a_disp, a_op2, a_tsub, a_tin, a_tnin, a_itemsL, v_add, v_sub, v_band, v_neg, v_trB, v_trI, v_trN, v_lt, v_le, v_gt, v_ge, v_eqI, v_neI, v_eqS, v_neS, v_isn, v_isnn, v_int, v_abs, v_lenT, v_lenL, v_tupL, v_lstL, List.set_cons_zero, List.set_cons_succ, List.map_cons, List.map_nil, List.cons_append, List.nil_append, List.replicate_succ, List.replicate_zero, dataOf, Option.map_some, Option.some.injEq, exists_eq_left', List.length_cons, List.length_nil, asOI]
  refine ⟨by decide, ?_⟩
  refine ⟨_, rfl, ?_⟩
  refine ones_ok [other, y1, y3, y4] _ _ ?_ fun x7 x8 => k _ _ _ _ _ _ _ _ h9
  intro xs m
  simp only [List.mem_cons, List.mem_nil_iff, or_false] at m
  rcases m with e | e | e | e <;> subst e
  · exact ⟨oo, by omega⟩
  · exact ⟨o1, by omega⟩
  · exact ⟨o3, by omega⟩
  · exact ⟨o4, by omega⟩
theorem turns6_ok : ∀ (items : List D) (t x3 x4 x5 x6 x7 x8 : Option W) (c0 c1 : Int), 0 ≤ c0 → (∀ c0' c1' t x3 x4 x5 x6 x7 x8, 0 ≤ c0' → Q (.nx (fw sc t x3 x4 x5 x6 x7 x8 x9 x10 x11 x12 x13 x14 x15 x16)) (CS c0' c1')) →
    post (forM (.nm 2) lw1b items (fw sc t x3 x4 x5 x6 x7 x8 x9 x10 x11 x12 x13 x14 x15 x16) (CS c0 c1)) Q
  | [], t, x3, x4, x5, x6, x7, x8, c0, c1, h0, k => by rw [for_nil]; exact k _ _ _ _ _ _ _ _ _ h0
  | x :: r, t, x3, x4, x5, x6, x7, x8, c0, c1, h0, k => by
    rw [for_cons]
    refine ⟨fw sc (some (.d x)) x3 x4 x5 x6 x7 x8 x9 x10 x11 x12 x13 x14 x15 x16, rfl, ?_⟩
    refine turn1_ok h0 fun c0' c1' x3 x4 x5 x6 x7 x8 h1 => ?_
    exact turns6_ok r _ _ _ _ _ _ _ _ _ h1 k
theorem rows_ok : ∀ (l : List (List Int × Option Oc)) (x5 x8 : Option W), (∀ z ∈ l, oct z.1 ∧ z.1.length ≤ 100 ∧ runC ch0 z.1 0 = z.2) → (∀ x5 x8, Q (.nx (fw sc t x3 x4 x5 x6 x7 x8 x9 x10 x11 x12 x13 x14 x15 x16)) (CS c0 c1)) →
    post (forM (.tup [5, 8]) lw14b (l.map fun z => .tuple [T z.1, Oc.D z.2]) (fw sc t x3 x4 x5 x6 x7 x8 x9 x10 x11 x12 x13 x14 x15 x16) (CS c0 c1)) Q
  | [], x5, x8, _, k => by rw [List.map_nil, for_nil]; exact k _ _
  | z :: r, x5, x8, h, k => by
    rw [List.map_cons, for_cons]
    obtain ⟨g1, g2, g3⟩ := h z List.mem_cons_self
    refine ⟨fw sc t x3 x4 (some (.d (T z.1))) x6 x7 (some (.d (Oc.D z.2))) x9 x10 x11 x12 x13 x14 x15 x16, rfl, ?_⟩
    unfold lw14b lw14b0
    simp (implicitDefEqProofs := false) only [↓reduceIte, post_bnd, post_ret, a_k, a_v, getV_cons0, getV_cons, a_bin, a_cmp, a_ch, a_neg, a_not, a_and, a_or, a_ite, a_sub, a_slc, a_no, a_so, a_nil', a_cons', a_tup, a_lst, a_nl, a_ndk, a_call, a_call0, a_bi, a_isi, a_app, a_sd, a_tst, a_sk, a_brk, a_cnt, a_bad, a_ex, a_ret, a_retN, a_if, a_asg, a_par2, a_par3, a_set, a_for, a_seq, a_enum, a_rng1, a_rng2, a_lc, a_lc2, a_aug, a_disp, a_op2, a_tsub, a_tin, a_tnin, a_itemsL, v_add, v_sub, v_band, v_neg, v_trB, v_trI, v_trN, v_lt, v_le, v_gt, v_ge, v_eqI, v_neI, v_eqS, v_neS, v_isn, v_isnn, v_int, v_abs, v_lenT, v_lenL, v_tupL, v_lstL, List.set_cons_zero, List.set_cons_succ, List.map_cons, List.map_nil, List.cons_append, List.nil_append, List.replicate_succ, List.replicate_zero, dataOf, Option.map_some, Option.some.injEq, exists_eq_left', List.length_cons, List.length_nil, asOI]
    refine in_ok g1 (by omega) (cs_below _ _) ?_
    obtain ⟨s, hs⟩ := repr_oc (fits0 g1 (by omega))
    rw [v_repr hs, ← g3, v_repr hs]
    try simp (implicitDefEqProofs := false) only [↓reduceIte, post_bnd, post_ret, a_k, a_v, getV_cons0, getV_cons, a_bin, a_cmp, a_ch, a_neg, a_not, a_and, a_or, a_ite, a_sub, a_slc, a_no, a_so, a_nil', a_cons', a_tup, a_lst, a_nl, a_ndk, a_call, a_call0, a_bi, a_isi, a_app, a_sd, a_tst, a_sk, a_brk, a_cnt, a_bad, a_ex, a_ret, a_retN, a_if, a_asg, a_par2, a_par3, a_set, a_for, a_seq, a_enum, a_rng1, a_rng2, a_lc, a_lc2, a_aug, a_disp, a_op2, a_tsub, a_tin, a_tnin, a_itemsL, v_add, v_sub, v_band, v_neg, v_trB, v_trI, v_trN, v_lt, v_le, v_gt, v_ge, v_eqI, v_neI, v_eqS, v_neS, v_isn, v_isnn, v_int, v_abs, v_lenT, v_lenL, v_tupL, v_lstL, List.set_cons_zero, List.set_cons_succ, List.map_cons, List.map_nil, List.cons_append, List.nil_append, List.replicate_succ, List.replicate_zero, dataOf, Option.map_some, Option.some.injEq, exists_eq_left', List.length_cons, List.length_nil, asOI, beq_self_eq_true, Bool.not_true, Bool.false_eq_true]
    rw [g3]
    exact rows_ok r _ _ (fun y m => h y (List.mem_cons_of_mem _ m)) k
/-- one of the two rows behind a full body -/
theorem edge_ok {m mo : Nat} (hm : 1 ≤ m ∧ m ≤ 300) (hmo : mo ≤ 300) {code : Int} (hc : code = if 300 < m + mo then 413 else 0) (k : ∀ x14 x15, Q (.nx (fw sc t x3 x4 x5 x6 x7 x8 x9 (some (.d (T (chI (List.replicate m 1))))) x11 (some (.d (.int (mo : Nat)))) (some (.d (.int code))) x14 x15 x16)) (CS c0 c1)) :
    post (lw5b (fw sc t x3 x4 x5 x6 x7 x8 x9 (some (.d (T (chI (List.replicate m 1))))) x11 (some (.d (.int (mo : Nat)))) (some (.d (.int code))) x14 x15 x16) (CS c0 c1)) Q := by
  have o1 : oct (List.replicate m (1 : Int)) := fun o h => by rw [(List.mem_replicate.mp h).2]; omega
  have ll : (List.replicate m (1 : Int)).length = m := List.length_replicate
  have of' := oct_ch o1 (by omega)
  have lf := chI_len (List.replicate m (1 : Int))
  rw [ll] at lf
  -- behind the line
  have fin : ∀ ds : List Int, ds.all isD = true → numN 0 ds = mo → 1 ≤ ds.length → ds.length ≤ 4 → oct ds → post (sq lw5b1 lw5b2 (fw sc t x3 x4 x5 x6 x7 x8 x9 (some (.d (T (chI (List.replicate m 1))))) x11 (some (.d (.int (mo : Nat)))) (some (.d (.int code))) (some (.d (T ds))) x15 x16) (CS c0 c1)) Q := by
    intro ds g1 g2 g3 g4 g5
    rw [sq_ap]
    unfold lw5b1
    simp (implicitDefEqProofs := false) only [post_bnd, post_ret, a_k, a_v, getV_cons0, getV_cons, a_bin, a_cmp, a_ch, a_neg, a_not, a_and, a_or, a_ite, a_sub, a_slc, a_no, a_so, a_nil', a_cons', a_tup, a_lst, a_nl, a_ndk, a_call, a_call0, a_bi, a_isi, a_app, a_sd, a_tst, a_sk, a_brk, a_cnt, a_bad, a_ex, a_ret, a_retN, a_if, a_asg, a_par2, a_par3, a_set, a_for, a_seq, a_enum, a_rng1, a_rng2, a_lc, a_lc2, a_aug, a_disp, a_op2, a_tsub, a_tin, a_tnin, a_itemsL, v_add, v_sub, v_band, v_neg, v_trB, v_trI, v_trN, v_lt, v_le, v_gt, v_ge, v_eqI, v_neI, v_eqS, v_neS, v_isn, v_isnn, v_int, v_abs, v_lenT, v_lenL, v_tupL, v_lstL, List.set_cons_zero, List.set_cons_succ, List.map_cons, List.map_nil, List.cons_append, List.nil_append, List.replicate_succ, List.replicate_zero, dataOf, Option.map_some, Option.some.injEq, exists_eq_left', List.length_cons, List.length_nil, asOI]
    rw [v_catT (by omega)]
    refine ⟨by decide, ?_⟩
    rw [show (PyData.tuple [.int 13] : D) = T [13] from rfl, v_catT (by rw [List.length_append]; show _ + 1 ≤ _; omega)]
    have oa : oct (chI (List.replicate m 1) ++ ds ++ [13]) := oct_app (oct_app of' g5) (oct_lit rfl)
    have la : (chI (List.replicate m 1) ++ ds ++ [13]).length ≤ 2000 := by rw [List.length_append, List.length_append]; show _ + _ + 1 ≤ _; omega
    refine in_ok oa la (cs_below _ _) ?_
    have hr : runC ch0 (chI (List.replicate m 1) ++ ds ++ [13]) 0 = if 300 < m + mo then some (.wrong 413 ((chI (List.replicate m 1)).length + ds.length)) else none := by
      have ne : List.replicate m (1 : Int) ≠ [] := fun z => by
        have := congrArg List.length z
        rw [ll, List.length_nil] at this
        omega
      rw [List.append_assoc, show ch0 = ⟨.size, 0, 0, 0, []⟩ from rfl, run_chunk ne (by rw [ll]; show 0 + _ ≤ _; omega), List.nil_append, run_line g1 g2 g3 g4, ll, Nat.zero_add]
    have hfit := fits0 oa la
    rw [hr] at hfit ⊢
    obtain ⟨s, hs⟩ := repr_oc hfit
    unfold lw5b2
    simp (implicitDefEqProofs := false) only [↓reduceIte, post_bnd, post_ret, a_k, a_v, getV_cons0, getV_cons, a_bin, a_cmp, a_ch, a_neg, a_not, a_and, a_or, a_ite, a_sub, a_slc, a_no, a_so, a_nil', a_cons', a_tup, a_lst, a_nl, a_ndk, a_call, a_call0, a_bi, a_isi, a_app, a_sd, a_tst, a_sk, a_brk, a_cnt, a_bad, a_ex, a_ret, a_retN, a_if, a_asg, a_par2, a_par3, a_set, a_for, a_seq, a_enum, a_rng1, a_rng2, a_lc, a_lc2, a_aug, a_disp, a_op2, a_tsub, a_tin, a_tnin, a_itemsL, v_add, v_sub, v_band, v_neg, v_trB, v_trI, v_trN, v_lt, v_le, v_gt, v_ge, v_eqI, v_neI, v_eqS, v_neS, v_isn, v_isnn, v_int, v_abs, v_lenT, v_lenL, v_tupL, v_lstL, List.set_cons_zero, List.set_cons_succ, List.map_cons, List.map_nil, List.cons_append, List.nil_append, List.replicate_succ, List.replicate_zero, dataOf, Option.map_some, Option.some.injEq, exists_eq_left', List.length_cons, List.length_nil, asOI, List.length_map]
    rw [v_repr hs]
    by_cases c : 300 < m + mo
    · rw [if_pos c] at hc hs ⊢
      subst hc
      rw [show decide ((0 : Int) < 413) = true from rfl]
      simp (implicitDefEqProofs := false) only [↓reduceIte, post_bnd, post_ret, a_k, a_v, getV_cons0, getV_cons, a_bin, a_cmp, a_ch, a_neg, a_not, a_and, a_or, a_ite, a_sub, a_slc, a_no, a_so, a_nil', a_cons', a_tup, a_lst, a_nl, a_ndk, a_call, a_call0, a_bi, a_isi, a_app, a_sd, a_tst, a_sk, a_brk, a_cnt, a_bad, a_ex, a_ret, a_retN, a_if, a_asg, a_par2, a_par3, a_set, a_for, a_seq, a_enum, a_rng1, a_rng2, a_lc, a_lc2, a_aug, a_disp, a_op2, a_tsub, a_tin, a_tnin, a_itemsL, v_add, v_sub, v_band, v_neg, v_trB, v_trI, v_trN, v_lt, v_le, v_gt, v_ge, v_eqI, v_neI, v_eqS, v_neS, v_isn, v_isnn, v_int, v_abs, v_lenT, v_lenL, v_tupL, v_lstL, List.set_cons_zero, List.set_cons_succ, List.map_cons, List.map_nil, List.cons_append, List.nil_append, List.replicate_succ, List.replicate_zero, dataOf, Option.map_some, Option.some.injEq, exists_eq_left', List.length_cons, List.length_nil, asOI]
      refine ⟨by decide, ?_⟩
      have e3 : (PyData.tuple [.str "wrong", .int 413, .int (((chI (List.replicate m 1)).length : Nat) + (ds.length : Nat))] : D) = Oc.D (some (.wrong 413 ((chI (List.replicate m 1)).length + ds.length))) := by
        show _ = PyData.tuple [.str "wrong", .int 413, .int (((chI (List.replicate m 1)).length + ds.length : Nat) : Int)]
        rw [Int.natCast_add]
      rw [e3, v_repr hs]
      try simp (implicitDefEqProofs := false) only [↓reduceIte, post_bnd, post_ret, a_k, a_v, getV_cons0, getV_cons, a_bin, a_cmp, a_ch, a_neg, a_not, a_and, a_or, a_ite, a_sub, a_slc, a_no, a_so, a_nil', a_cons', a_tup, a_lst, a_nl, a_ndk, a_call, a_call0, a_bi, a_isi, a_app, a_sd, a_tst, a_sk, a_brk, a_cnt, a_bad, a_ex, a_ret, a_retN, a_if, a_asg, a_par2, a_par3, a_set, a_for, a_seq, a_enum, a_rng1, a_rng2, a_lc, a_lc2, a_aug, a_disp, a_op2, a_tsub, a_tin, a_tnin, a_itemsL, v_add, v_sub, v_band, v_neg, v_trB, v_trI, v_trN, v_lt, v_le, v_gt, v_ge, v_eqI, v_neI, v_eqS, v_neS, v_isn, v_isnn, v_int, v_abs, v_lenT, v_lenL, v_tupL, v_lstL, List.set_cons_zero, List.set_cons_succ, List.map_cons, List.map_nil, List.cons_append, List.nil_append, List.replicate_succ, List.replicate_zero, dataOf, Option.map_some, Option.some.injEq, exists_eq_left', List.length_cons, List.length_nil, asOI, beq_self_eq_true, Bool.not_true, Bool.false_eq_true]
      exact k _ _
    · rw [if_neg c] at hc hs ⊢
      subst hc
      rw [show decide ((0 : Int) < 0) = false from rfl]
      simp (implicitDefEqProofs := false) only [↓reduceIte, Bool.false_eq_true, post_bnd, post_ret, a_k, a_v, getV_cons0, getV_cons, a_bin, a_cmp, a_ch, a_neg, a_not, a_and, a_or, a_ite, a_sub, a_slc, a_no, a_so, a_nil', a_cons', a_tup, a_lst, a_nl, a_ndk, a_call, a_call0, a_bi, a_isi, a_app, a_sd, a_tst, a_sk, a_brk, a_cnt, a_bad, a_ex, a_ret, a_retN, a_if, a_asg, a_par2, a_par3, a_set, a_for, a_seq, a_enum, a_rng1, a_rng2, a_lc, a_lc2, a_aug, a_disp, a_op2, a_tsub, a_tin, a_tnin, a_itemsL, v_add, v_sub, v_band, v_neg, v_trB, v_trI, v_trN, v_lt, v_le, v_gt, v_ge, v_eqI, v_neI, v_eqS, v_neS, v_isn, v_isnn, v_int, v_abs, v_lenT, v_lenL, v_tupL, v_lstL, List.set_cons_zero, List.set_cons_succ, List.map_cons, List.map_nil, List.cons_append, List.nil_append, List.replicate_succ, List.replicate_zero, dataOf, Option.map_some, Option.some.injEq, exists_eq_left', List.length_cons, List.length_nil, asOI]
      have e3 : (PyData.none : D) = Oc.D none := rfl
      rw [e3, v_repr hs]
      try simp (implicitDefEqProofs := false) only [↓reduceIte, post_bnd, post_ret, a_k, a_v, getV_cons0, getV_cons, a_bin, a_cmp, a_ch, a_neg, a_not, a_and, a_or, a_ite, a_sub, a_slc, a_no, a_so, a_nil', a_cons', a_tup, a_lst, a_nl, a_ndk, a_call, a_call0, a_bi, a_isi, a_app, a_sd, a_tst, a_sk, a_brk, a_cnt, a_bad, a_ex, a_ret, a_retN, a_if, a_asg, a_par2, a_par3, a_set, a_for, a_seq, a_enum, a_rng1, a_rng2, a_lc, a_lc2, a_aug, a_disp, a_op2, a_tsub, a_tin, a_tnin, a_itemsL, v_add, v_sub, v_band, v_neg, v_trB, v_trI, v_trN, v_lt, v_le, v_gt, v_ge, v_eqI, v_neI, v_eqS, v_neS, v_isn, v_isnn, v_int, v_abs, v_lenT, v_lenL, v_tupL, v_lstL, List.set_cons_zero, List.set_cons_succ, List.map_cons, List.map_nil, List.cons_append, List.nil_append, List.replicate_succ, List.replicate_zero, dataOf, Option.map_some, Option.some.injEq, exists_eq_left', List.length_cons, List.length_nil, asOI, beq_self_eq_true, Bool.not_true, Bool.false_eq_true]
      exact k _ _
  unfold lw5b
  rw [sq_ap]
  unfold lw5b0
  simp (implicitDefEqProofs := false) only [↓reduceIte, post_bnd, post_ret, a_k, a_v, getV_cons0, getV_cons, a_bin, a_cmp, a_ch, a_neg, a_not, a_and, a_or, a_ite, a_sub, a_slc, a_no, a_so, a_nil', a_cons', a_tup, a_lst, a_nl, a_ndk, a_call, a_call0, a_bi, a_isi, a_app, a_sd, a_tst, a_sk, a_brk, a_cnt, a_bad, a_ex, a_ret, a_retN, a_if, a_asg, a_par2, a_par3, a_set, a_for, a_seq, a_enum, a_rng1, a_rng2, a_lc, a_lc2, a_aug, a_disp, a_op2, a_tsub, a_tin, a_tnin, a_itemsL, v_add, v_sub, v_band, v_neg, v_trB, v_trI, v_trN, v_lt, v_le, v_gt, v_ge, v_eqI, v_neI, v_eqS, v_neS, v_isn, v_isnn, v_int, v_abs, v_lenT, v_lenL, v_tupL, v_lstL, List.set_cons_zero, List.set_cons_succ, List.map_cons, List.map_nil, List.cons_append, List.nil_append, List.replicate_succ, List.replicate_zero, dataOf, Option.map_some, Option.some.injEq, exists_eq_left', List.length_cons, List.length_nil, asOI]
  by_cases c : 0 < mo
  · rw [decide_eq_true (by omega)]
    simp (implicitDefEqProofs := false) only [↓reduceIte, post_bnd, post_ret, a_k, a_v, getV_cons0, getV_cons, a_bin, a_cmp, a_ch, a_neg, a_not, a_and, a_or, a_ite, a_sub, a_slc, a_no, a_so, a_nil', a_cons', a_tup, a_lst, a_nl, a_ndk, a_call, a_call0, a_bi, a_isi, a_app, a_sd, a_tst, a_sk, a_brk, a_cnt, a_bad, a_ex, a_ret, a_retN, a_if, a_asg, a_par2, a_par3, a_set, a_for, a_seq, a_enum, a_rng1, a_rng2, a_lc, a_lc2, a_aug, a_disp, a_op2, a_tsub, a_tin, a_tnin, a_itemsL, v_add, v_sub, v_band, v_neg, v_trB, v_trI, v_trN, v_lt, v_le, v_gt, v_ge, v_eqI, v_neI, v_eqS, v_neS, v_isn, v_isnn, v_int, v_abs, v_lenT, v_lenL, v_tupL, v_lstL, List.set_cons_zero, List.set_cons_succ, List.map_cons, List.map_nil, List.cons_append, List.nil_append, List.replicate_succ, List.replicate_zero, dataOf, Option.map_some, Option.some.injEq, exists_eq_left', List.length_cons, List.length_nil, asOI]
    refine lhex_ok (by omega) (by omega) ?_
    try simp (implicitDefEqProofs := false) only [post_bnd, post_ret, a_k, a_v, getV_cons0, getV_cons, a_bin, a_cmp, a_ch, a_neg, a_not, a_and, a_or, a_ite, a_sub, a_slc, a_no, a_so, a_nil', a_cons', a_tup, a_lst, a_nl, a_ndk, a_call, a_call0, a_bi, a_isi, a_app, a_sd, a_tst, a_sk, a_brk, a_cnt, a_bad, a_ex, a_ret, a_retN, a_if, a_asg, a_par2, a_par3, a_set, a_for, a_seq, a_enum, a_rng1, a_rng2, a_lc, a_lc2, a_aug, a_disp, a_op2, a_tsub, a_tin, a_tnin, a_itemsL, v_add, v_sub, v_band, v_neg, v_trB, v_trI, v_trN, v_lt, v_le, v_gt, v_ge, v_eqI, v_neI, v_eqS, v_neS, v_isn, v_isnn, v_int, v_abs, v_lenT, v_lenL, v_tupL, v_lstL, List.set_cons_zero, List.set_cons_succ, List.map_cons, List.map_nil, List.cons_append, List.nil_append, List.replicate_succ, List.replicate_zero, dataOf, Option.map_some, Option.some.injEq, exists_eq_left', List.length_cons, List.length_nil, asOI]
    obtain ⟨g1, g2, g3⟩ := hex_all mo (by omega)
    exact fin _ g1 g2 g3 (by have := hexI_len mo; omega) (oct_hex (by omega))
  · rw [decide_eq_false (by omega)]
    simp (implicitDefEqProofs := false) only [↓reduceIte, Bool.false_eq_true, post_bnd, post_ret, a_k, a_v, getV_cons0, getV_cons, a_bin, a_cmp, a_ch, a_neg, a_not, a_and, a_or, a_ite, a_sub, a_slc, a_no, a_so, a_nil', a_cons', a_tup, a_lst, a_nl, a_ndk, a_call, a_call0, a_bi, a_isi, a_app, a_sd, a_tst, a_sk, a_brk, a_cnt, a_bad, a_ex, a_ret, a_retN, a_if, a_asg, a_par2, a_par3, a_set, a_for, a_seq, a_enum, a_rng1, a_rng2, a_lc, a_lc2, a_aug, a_disp, a_op2, a_tsub, a_tin, a_tnin, a_itemsL, v_add, v_sub, v_band, v_neg, v_trB, v_trI, v_trN, v_lt, v_le, v_gt, v_ge, v_eqI, v_neI, v_eqS, v_neS, v_isn, v_isnn, v_int, v_abs, v_lenT, v_lenL, v_tupL, v_lstL, List.set_cons_zero, List.set_cons_succ, List.map_cons, List.map_nil, List.cons_append, List.nil_append, List.replicate_succ, List.replicate_zero, dataOf, Option.map_some, Option.some.injEq, exists_eq_left', List.length_cons, List.length_nil, asOI]
    refine ⟨by decide, ?_⟩
    have e0 : mo = 0 := by omega
    exact fin [48] rfl (by rw [e0]; rfl) (by decide) (by decide) (oct_lit rfl)
theorem cut5 (xs : List Int) : cut (xs ++ endI) none (some (-5)) = xs := by
  unfold cut
  rw [HT.sIx_none, List.drop_zero, Nat.sub_zero]
  have e : HT.sIx (xs ++ endI).length (xs ++ endI).length (some (-5)) = xs.length := by
    unfold HT.sIx
    dsimp only
    rw [if_pos (by decide), List.length_append, show endI.length = 5 from rfl]
    omega
  rw [e, List.take_left' rfl]
end
end MP.Q0

namespace MP.Q0
open PySem L2 PySem.Spec PyProof.Rows
def rowsL : List (List Int × Option Oc) := [([], none), ([48], none), ([48, 13, 10, 13], none), ([48, 13, 10, 13, 10], some (.whole [] 5)),
  ([48, 48, 48, 48, 13, 10, 13, 10, 7], some (.whole [] 8)), ([48, 48, 48, 48, 48], some (.wrong 400 4)), ([13], some (.wrong 400 0)), ([49, 10], some (.wrong 400 1)),
  ([49, 13, 13], some (.wrong 400 2)), ([49, 13, 10, 7, 10], some (.wrong 400 4)), ([49, 13, 10, 7, 13, 13], some (.wrong 400 5)), ([48, 13, 10, 10], some (.wrong 400 3)),
  ([49, 50, 67, 13], none), ([49, 50, 68, 13], some (.wrong 413 3)), ([102, 102, 102, 102, 13], some (.wrong 413 4)), ([71], some (.wrong 400 0)), ([49, 59], some (.wrong 400 1))]
theorem rows_all : ∀ z ∈ rowsL, oct z.1 ∧ z.1.length ≤ 100 ∧ runC ch0 z.1 0 = z.2 := by
  unfold rowsL
  intro z m
  simp only [List.mem_cons, List.mem_nil_iff, or_false] at m
  rcases m with e | e | e | e | e | e | e | e | e | e | e | e | e | e | e | e | e <;> subst e <;> exact ⟨oct_lit rfl, by show _ ≤ 100; decide, rfl⟩
section
variable {Q : Fl → Sto → Prop}
theorem law_gen {ns : List Int} (hl : ns.length ≤ 63) {q : W → Sto → Prop} (k : ∀ S, q (.d (.bool true)) S) : post (fnB 1 17 lw [.d (.list (ns.map .int))] []) q := by
  refine post_fn rfl ?_
  unfold lw
  rw [sq_ap]
  unfold lw0
  try simp (implicitDefEqProofs := false) only [post_bnd, post_ret, a_k, a_v, getV_cons0, getV_cons, a_bin, a_cmp, a_ch, a_neg, a_not, a_and, a_or, a_ite, a_sub, a_slc, a_no, a_so, a_nil', a_cons', a_tup, a_lst, a_nl, a_ndk, a_call, a_call0, a_bi, a_isi, a_app, a_sd, a_tst, a_sk, a_brk, a_cnt, a_bad, a_ex, a_ret, a_retN, a_if, a_asg, a_par2, a_par3, a_set, a_for, a_seq, a_enum, a_rng1, a_rng2, a_lc, a_lc2, a_aug, a_disp, a_op2, a_tsub, a_tin, a_tnin, a_itemsL, v_add, v_sub, v_band, v_neg, v_trB, v_trI, v_trN, v_lt, v_le, v_gt, v_ge, v_eqI, v_neI, v_eqS, v_neS, v_isn, v_isnn, v_int, v_abs, v_lenT, v_lenL, v_tupL, v_lstL, List.set_cons_zero, List.set_cons_succ, List.map_cons, List.map_nil, List.cons_append, List.nil_append, List.replicate_succ, List.replicate_zero, dataOf, Option.map_some, Option.some.injEq, exists_eq_left', List.length_cons, List.length_nil, asOI]
  refine cup_ok hl fun c0 c1 h0 => ?_
  try simp (implicitDefEqProofs := false) only [post_bnd, post_ret, a_k, a_v, getV_cons0, getV_cons, a_bin, a_cmp, a_ch, a_neg, a_not, a_and, a_or, a_ite, a_sub, a_slc, a_no, a_so, a_nil', a_cons', a_tup, a_lst, a_nl, a_ndk, a_call, a_call0, a_bi, a_isi, a_app, a_sd, a_tst, a_sk, a_brk, a_cnt, a_bad, a_ex, a_ret, a_retN, a_if, a_asg, a_par2, a_par3, a_set, a_for, a_seq, a_enum, a_rng1, a_rng2, a_lc, a_lc2, a_aug, a_disp, a_op2, a_tsub, a_tin, a_tnin, a_itemsL, v_add, v_sub, v_band, v_neg, v_trB, v_trI, v_trN, v_lt, v_le, v_gt, v_ge, v_eqI, v_neI, v_eqS, v_neS, v_isn, v_isnn, v_int, v_abs, v_lenT, v_lenL, v_tupL, v_lstL, List.set_cons_zero, List.set_cons_succ, List.map_cons, List.map_nil, List.cons_append, List.nil_append, List.replicate_succ, List.replicate_zero, dataOf, Option.map_some, Option.some.injEq, exists_eq_left', List.length_cons, List.length_nil, asOI]
  rw [sq_ap]
  unfold lw1
  try simp (implicitDefEqProofs := false) only [post_bnd, post_ret, a_k, a_v, getV_cons0, getV_cons, a_bin, a_cmp, a_ch, a_neg, a_not, a_and, a_or, a_ite, a_sub, a_slc, a_no, a_so, a_nil', a_cons', a_tup, a_lst, a_nl, a_ndk, a_call, a_call0, a_bi, a_isi, a_app, a_sd, a_tst, a_sk, a_brk, a_cnt, a_bad, a_ex, a_ret, a_retN, a_if, a_asg, a_par2, a_par3, a_set, a_for, a_seq, a_enum, a_rng1, a_rng2, a_lc, a_lc2, a_aug, a_disp, a_op2, a_tsub, a_tin, a_tnin, a_itemsL, v_add, v_sub, v_band, v_neg, v_trB, v_trI, v_trN, v_lt, v_le, v_gt, v_ge, v_eqI, v_neI, v_eqS, v_neS, v_isn, v_isnn, v_int, v_abs, v_lenT, v_lenL, v_tupL, v_lstL, List.set_cons_zero, List.set_cons_succ, List.map_cons, List.map_nil, List.cons_append, List.nil_append, List.replicate_succ, List.replicate_zero, dataOf, Option.map_some, Option.some.injEq, exists_eq_left', List.length_cons, List.length_nil, asOI]
  refine ⟨_, items_rng (by decide), ?_⟩
  refine turns6_ok _ _ _ _ _ _ _ _ _ _ h0 fun c0 c1 t x3 x4 x5 x6 x7 x8 h1 => ?_
  try dsimp only
  rw [sq_ap]
  unfold lw2
  try simp (implicitDefEqProofs := false) only [post_bnd, post_ret, a_k, a_v, getV_cons0, getV_cons, a_bin, a_cmp, a_ch, a_neg, a_not, a_and, a_or, a_ite, a_sub, a_slc, a_no, a_so, a_nil', a_cons', a_tup, a_lst, a_nl, a_ndk, a_call, a_call0, a_bi, a_isi, a_app, a_sd, a_tst, a_sk, a_brk, a_cnt, a_bad, a_ex, a_ret, a_retN, a_if, a_asg, a_par2, a_par3, a_set, a_for, a_seq, a_enum, a_rng1, a_rng2, a_lc, a_lc2, a_aug, a_disp, a_op2, a_tsub, a_tin, a_tnin, a_itemsL, v_add, v_sub, v_band, v_neg, v_trB, v_trI, v_trN, v_lt, v_le, v_gt, v_ge, v_eqI, v_neI, v_eqS, v_neS, v_isn, v_isnn, v_int, v_abs, v_lenT, v_lenL, v_tupL, v_lstL, List.set_cons_zero, List.set_cons_succ, List.map_cons, List.map_nil, List.cons_append, List.nil_append, List.replicate_succ, List.replicate_zero, dataOf, Option.map_some, Option.some.injEq, exists_eq_left', List.length_cons, List.length_nil, asOI]
  refine roll_ok (R := []) h1 ⟨by decide, by decide⟩ fun v c0 c1 hv1 hv2 h2 => ?_
  try simp (implicitDefEqProofs := false) only [post_bnd, post_ret, a_k, a_v, getV_cons0, getV_cons, a_bin, a_cmp, a_ch, a_neg, a_not, a_and, a_or, a_ite, a_sub, a_slc, a_no, a_so, a_nil', a_cons', a_tup, a_lst, a_nl, a_ndk, a_call, a_call0, a_bi, a_isi, a_app, a_sd, a_tst, a_sk, a_brk, a_cnt, a_bad, a_ex, a_ret, a_retN, a_if, a_asg, a_par2, a_par3, a_set, a_for, a_seq, a_enum, a_rng1, a_rng2, a_lc, a_lc2, a_aug, a_disp, a_op2, a_tsub, a_tin, a_tnin, a_itemsL, v_add, v_sub, v_band, v_neg, v_trB, v_trI, v_trN, v_lt, v_le, v_gt, v_ge, v_eqI, v_neI, v_eqS, v_neS, v_isn, v_isnn, v_int, v_abs, v_lenT, v_lenL, v_tupL, v_lstL, List.set_cons_zero, List.set_cons_succ, List.map_cons, List.map_nil, List.cons_append, List.nil_append, List.replicate_succ, List.replicate_zero, dataOf, Option.map_some, Option.some.injEq, exists_eq_left', List.length_cons, List.length_nil, asOI]
  obtain ⟨m, hm⟩ : ∃ m : Nat, v + 1 = (m : Int) := ⟨(v + 1).toNat, by omega⟩
  rw [hm]
  have hm1 : 1 ≤ m ∧ m ≤ 300 := by omega
  rw [sq_ap]
  unfold lw3
  try simp (implicitDefEqProofs := false) only [post_bnd, post_ret, a_k, a_v, getV_cons0, getV_cons, a_bin, a_cmp, a_ch, a_neg, a_not, a_and, a_or, a_ite, a_sub, a_slc, a_no, a_so, a_nil', a_cons', a_tup, a_lst, a_nl, a_ndk, a_call, a_call0, a_bi, a_isi, a_app, a_sd, a_tst, a_sk, a_brk, a_cnt, a_bad, a_ex, a_ret, a_retN, a_if, a_asg, a_par2, a_par3, a_set, a_for, a_seq, a_enum, a_rng1, a_rng2, a_lc, a_lc2, a_aug, a_disp, a_op2, a_tsub, a_tin, a_tnin, a_itemsL, v_add, v_sub, v_band, v_neg, v_trB, v_trI, v_trN, v_lt, v_le, v_gt, v_ge, v_eqI, v_neI, v_eqS, v_neS, v_isn, v_isnn, v_int, v_abs, v_lenT, v_lenL, v_tupL, v_lstL, List.set_cons_zero, List.set_cons_succ, List.map_cons, List.map_nil, List.cons_append, List.nil_append, List.replicate_succ, List.replicate_zero, dataOf, Option.map_some, Option.some.injEq, exists_eq_left', List.length_cons, List.length_nil, asOI]
  refine ⟨by decide, ?_⟩
  have em : ∀ q : W → Sto → Prop, post (mulT (.d (.tuple [.int 1])) (.d (.int (m : Nat))) (CS c0 c1)) q = q (.d (T (List.replicate m 1))) (CS c0 c1) := by
    intro q
    rw [v_mulT ⟨by omega, by omega, by show (1 : Int) * (m : Nat) ≤ _; omega⟩]
    have e : (List.replicate (((m : Nat) : Int)).toNat [(PyData.int 1 : D)]).flatten = (List.replicate m (1 : Int)).map .int := by
      rw [List.map_replicate, Int.toNat_natCast]
      clear hm hm1
      induction m with
      | zero => rfl
      | succ n ih => rw [List.replicate_succ, List.flatten_cons, ih, List.replicate_succ]; rfl
    rw [e]
  rw [em]
  refine ⟨by decide, ?_⟩
  have o1 : oct (List.replicate m (1 : Int)) := fun o h => by rw [(List.mem_replicate.mp h).2]; omega
  have ll : (List.replicate m (1 : Int)).length = m := List.length_replicate
  refine of_ok (ss := []) rfl o1 (by omega) (fun _ m => by cases m) (by decide) ?_
  try simp (implicitDefEqProofs := false) only [post_bnd, post_ret, a_k, a_v, getV_cons0, getV_cons, a_bin, a_cmp, a_ch, a_neg, a_not, a_and, a_or, a_ite, a_sub, a_slc, a_no, a_so, a_nil', a_cons', a_tup, a_lst, a_nl, a_ndk, a_call, a_call0, a_bi, a_isi, a_app, a_sd, a_tst, a_sk, a_brk, a_cnt, a_bad, a_ex, a_ret, a_retN, a_if, a_asg, a_par2, a_par3, a_set, a_for, a_seq, a_enum, a_rng1, a_rng2, a_lc, a_lc2, a_aug, a_disp, a_op2, a_tsub, a_tin, a_tnin, a_itemsL, v_add, v_sub, v_band, v_neg, v_trB, v_trI, v_trN, v_lt, v_le, v_gt, v_ge, v_eqI, v_neI, v_eqS, v_neS, v_isn, v_isnn, v_int, v_abs, v_lenT, v_lenL, v_tupL, v_lstL, List.set_cons_zero, List.set_cons_succ, List.map_cons, List.map_nil, List.cons_append, List.nil_append, List.replicate_succ, List.replicate_zero, dataOf, Option.map_some, Option.some.injEq, exists_eq_left', List.length_cons, List.length_nil, asOI]
  rw [v_slT, cut5]
  have ne : List.replicate m (1 : Int) ≠ [] := fun z => by
    have := congrArg List.length z
    rw [ll, List.length_nil] at this
    omega
  have eb : byI (List.replicate m 1) [] = chI (List.replicate m 1) := if_neg ne
  rw [eb]
  rw [sq_ap]
  unfold lw4
  try simp (implicitDefEqProofs := false) only [post_bnd, post_ret, a_k, a_v, getV_cons0, getV_cons, a_bin, a_cmp, a_ch, a_neg, a_not, a_and, a_or, a_ite, a_sub, a_slc, a_no, a_so, a_nil', a_cons', a_tup, a_lst, a_nl, a_ndk, a_call, a_call0, a_bi, a_isi, a_app, a_sd, a_tst, a_sk, a_brk, a_cnt, a_bad, a_ex, a_ret, a_retN, a_if, a_asg, a_par2, a_par3, a_set, a_for, a_seq, a_enum, a_rng1, a_rng2, a_lc, a_lc2, a_aug, a_disp, a_op2, a_tsub, a_tin, a_tnin, a_itemsL, v_add, v_sub, v_band, v_neg, v_trB, v_trI, v_trN, v_lt, v_le, v_gt, v_ge, v_eqI, v_neI, v_eqS, v_neS, v_isn, v_isnn, v_int, v_abs, v_lenT, v_lenL, v_tupL, v_lstL, List.set_cons_zero, List.set_cons_succ, List.map_cons, List.map_nil, List.cons_append, List.nil_append, List.replicate_succ, List.replicate_zero, dataOf, Option.map_some, Option.some.injEq, exists_eq_left', List.length_cons, List.length_nil, asOI]
  refine ⟨by decide, by decide, by decide, ?_⟩
  have q1 : (301 : Int) - (m : Nat) = ((301 - m : Nat) : Int) := by omega
  have q2 : (300 : Int) - (m : Nat) = ((300 - m : Nat) : Int) := by omega
  rw [q1, q2]
  rw [sq_ap]
  unfold lw5
  try simp (implicitDefEqProofs := false) only [post_bnd, post_ret, a_k, a_v, getV_cons0, getV_cons, a_bin, a_cmp, a_ch, a_neg, a_not, a_and, a_or, a_ite, a_sub, a_slc, a_no, a_so, a_nil', a_cons', a_tup, a_lst, a_nl, a_ndk, a_call, a_call0, a_bi, a_isi, a_app, a_sd, a_tst, a_sk, a_brk, a_cnt, a_bad, a_ex, a_ret, a_retN, a_if, a_asg, a_par2, a_par3, a_set, a_for, a_seq, a_enum, a_rng1, a_rng2, a_lc, a_lc2, a_aug, a_disp, a_op2, a_tsub, a_tin, a_tnin, a_itemsL, v_add, v_sub, v_band, v_neg, v_trB, v_trI, v_trN, v_lt, v_le, v_gt, v_ge, v_eqI, v_neI, v_eqS, v_neS, v_isn, v_isnn, v_int, v_abs, v_lenT, v_lenL, v_tupL, v_lstL, List.set_cons_zero, List.set_cons_succ, List.map_cons, List.map_nil, List.cons_append, List.nil_append, List.replicate_succ, List.replicate_zero, dataOf, Option.map_some, Option.some.injEq, exists_eq_left', List.length_cons, List.length_nil, asOI]
  refine ⟨_, rfl, ?_⟩
  rw [for_cons]
  refine ⟨_, rfl, ?_⟩
  refine edge_ok (code := 413) hm1 (by omega) (by rw [if_pos (by omega)]) fun x14 x15 => ?_
  try dsimp only
  rw [for_cons]
  refine ⟨_, rfl, ?_⟩
  refine edge_ok (code := 0) hm1 (by omega) (by rw [if_neg (by omega)]) fun x14 x15 => ?_
  try dsimp only
  rw [for_nil]
  try dsimp only
  rw [sq_ap]
  unfold lw6
  try simp (implicitDefEqProofs := false) only [post_bnd, post_ret, a_k, a_v, getV_cons0, getV_cons, a_bin, a_cmp, a_ch, a_neg, a_not, a_and, a_or, a_ite, a_sub, a_slc, a_no, a_so, a_nil', a_cons', a_tup, a_lst, a_nl, a_ndk, a_call, a_call0, a_bi, a_isi, a_app, a_sd, a_tst, a_sk, a_brk, a_cnt, a_bad, a_ex, a_ret, a_retN, a_if, a_asg, a_par2, a_par3, a_set, a_for, a_seq, a_enum, a_rng1, a_rng2, a_lc, a_lc2, a_aug, a_disp, a_op2, a_tsub, a_tin, a_tnin, a_itemsL, v_add, v_sub, v_band, v_neg, v_trB, v_trI, v_trN, v_lt, v_le, v_gt, v_ge, v_eqI, v_neI, v_eqS, v_neS, v_isn, v_isnn, v_int, v_abs, v_lenT, v_lenL, v_tupL, v_lstL, List.set_cons_zero, List.set_cons_succ, List.map_cons, List.map_nil, List.cons_append, List.nil_append, List.replicate_succ, List.replicate_zero, dataOf, Option.map_some, Option.some.injEq, exists_eq_left', List.length_cons, List.length_nil, asOI]
  repeat (refine ⟨by decide, ?_⟩)
  rw [sq_ap]
  unfold lw7
  try simp (implicitDefEqProofs := false) only [post_bnd, post_ret, a_k, a_v, getV_cons0, getV_cons, a_bin, a_cmp, a_ch, a_neg, a_not, a_and, a_or, a_ite, a_sub, a_slc, a_no, a_so, a_nil', a_cons', a_tup, a_lst, a_nl, a_ndk, a_call, a_call0, a_bi, a_isi, a_app, a_sd, a_tst, a_sk, a_brk, a_cnt, a_bad, a_ex, a_ret, a_retN, a_if, a_asg, a_par2, a_par3, a_set, a_for, a_seq, a_enum, a_rng1, a_rng2, a_lc, a_lc2, a_aug, a_disp, a_op2, a_tsub, a_tin, a_tnin, a_itemsL, v_add, v_sub, v_band, v_neg, v_trB, v_trI, v_trN, v_lt, v_le, v_gt, v_ge, v_eqI, v_neI, v_eqS, v_neS, v_isn, v_isnn, v_int, v_abs, v_lenT, v_lenL, v_tupL, v_lstL, List.set_cons_zero, List.set_cons_succ, List.map_cons, List.map_nil, List.cons_append, List.nil_append, List.replicate_succ, List.replicate_zero, dataOf, Option.map_some, Option.some.injEq, exists_eq_left', List.length_cons, List.length_nil, asOI]
  repeat (refine ⟨by decide, ?_⟩)
  rw [v_catL (by decide)]
  rw [sq_ap]
  unfold lw8
  try simp (implicitDefEqProofs := false) only [post_bnd, post_ret, a_k, a_v, getV_cons0, getV_cons, a_bin, a_cmp, a_ch, a_neg, a_not, a_and, a_or, a_ite, a_sub, a_slc, a_no, a_so, a_nil', a_cons', a_tup, a_lst, a_nl, a_ndk, a_call, a_call0, a_bi, a_isi, a_app, a_sd, a_tst, a_sk, a_brk, a_cnt, a_bad, a_ex, a_ret, a_retN, a_if, a_asg, a_par2, a_par3, a_set, a_for, a_seq, a_enum, a_rng1, a_rng2, a_lc, a_lc2, a_aug, a_disp, a_op2, a_tsub, a_tin, a_tnin, a_itemsL, v_add, v_sub, v_band, v_neg, v_trB, v_trI, v_trN, v_lt, v_le, v_gt, v_ge, v_eqI, v_neI, v_eqS, v_neS, v_isn, v_isnn, v_int, v_abs, v_lenT, v_lenL, v_tupL, v_lstL, List.set_cons_zero, List.set_cons_succ, List.map_cons, List.map_nil, List.cons_append, List.nil_append, List.replicate_succ, List.replicate_zero, dataOf, Option.map_some, Option.some.injEq, exists_eq_left', List.length_cons, List.length_nil, asOI]
  repeat (refine ⟨by decide, ?_⟩)
  rw [v_catL (by decide)]
  rw [sq_ap]
  unfold lw9
  try simp (implicitDefEqProofs := false) only [post_bnd, post_ret, a_k, a_v, getV_cons0, getV_cons, a_bin, a_cmp, a_ch, a_neg, a_not, a_and, a_or, a_ite, a_sub, a_slc, a_no, a_so, a_nil', a_cons', a_tup, a_lst, a_nl, a_ndk, a_call, a_call0, a_bi, a_isi, a_app, a_sd, a_tst, a_sk, a_brk, a_cnt, a_bad, a_ex, a_ret, a_retN, a_if, a_asg, a_par2, a_par3, a_set, a_for, a_seq, a_enum, a_rng1, a_rng2, a_lc, a_lc2, a_aug, a_disp, a_op2, a_tsub, a_tin, a_tnin, a_itemsL, v_add, v_sub, v_band, v_neg, v_trB, v_trI, v_trN, v_lt, v_le, v_gt, v_ge, v_eqI, v_neI, v_eqS, v_neS, v_isn, v_isnn, v_int, v_abs, v_lenT, v_lenL, v_tupL, v_lstL, List.set_cons_zero, List.set_cons_succ, List.map_cons, List.map_nil, List.cons_append, List.nil_append, List.replicate_succ, List.replicate_zero, dataOf, Option.map_some, Option.some.injEq, exists_eq_left', List.length_cons, List.length_nil, asOI]
  repeat (refine ⟨by decide, ?_⟩)
  rw [v_catL (by decide)]
  rw [sq_ap]
  unfold lw10
  try simp (implicitDefEqProofs := false) only [post_bnd, post_ret, a_k, a_v, getV_cons0, getV_cons, a_bin, a_cmp, a_ch, a_neg, a_not, a_and, a_or, a_ite, a_sub, a_slc, a_no, a_so, a_nil', a_cons', a_tup, a_lst, a_nl, a_ndk, a_call, a_call0, a_bi, a_isi, a_app, a_sd, a_tst, a_sk, a_brk, a_cnt, a_bad, a_ex, a_ret, a_retN, a_if, a_asg, a_par2, a_par3, a_set, a_for, a_seq, a_enum, a_rng1, a_rng2, a_lc, a_lc2, a_aug, a_disp, a_op2, a_tsub, a_tin, a_tnin, a_itemsL, v_add, v_sub, v_band, v_neg, v_trB, v_trI, v_trN, v_lt, v_le, v_gt, v_ge, v_eqI, v_neI, v_eqS, v_neS, v_isn, v_isnn, v_int, v_abs, v_lenT, v_lenL, v_tupL, v_lstL, List.set_cons_zero, List.set_cons_succ, List.map_cons, List.map_nil, List.cons_append, List.nil_append, List.replicate_succ, List.replicate_zero, dataOf, Option.map_some, Option.some.injEq, exists_eq_left', List.length_cons, List.length_nil, asOI]
  repeat (refine ⟨by decide, ?_⟩)
  rw [v_catL (by decide)]
  rw [sq_ap]
  unfold lw11
  try simp (implicitDefEqProofs := false) only [post_bnd, post_ret, a_k, a_v, getV_cons0, getV_cons, a_bin, a_cmp, a_ch, a_neg, a_not, a_and, a_or, a_ite, a_sub, a_slc, a_no, a_so, a_nil', a_cons', a_tup, a_lst, a_nl, a_ndk, a_call, a_call0, a_bi, a_isi, a_app, a_sd, a_tst, a_sk, a_brk, a_cnt, a_bad, a_ex, a_ret, a_retN, a_if, a_asg, a_par2, a_par3, a_set, a_for, a_seq, a_enum, a_rng1, a_rng2, a_lc, a_lc2, a_aug, a_disp, a_op2, a_tsub, a_tin, a_tnin, a_itemsL, v_add, v_sub, v_band, v_neg, v_trB, v_trI, v_trN, v_lt, v_le, v_gt, v_ge, v_eqI, v_neI, v_eqS, v_neS, v_isn, v_isnn, v_int, v_abs, v_lenT, v_lenL, v_tupL, v_lstL, List.set_cons_zero, List.set_cons_succ, List.map_cons, List.map_nil, List.cons_append, List.nil_append, List.replicate_succ, List.replicate_zero, dataOf, Option.map_some, Option.some.injEq, exists_eq_left', List.length_cons, List.length_nil, asOI]
  repeat (refine ⟨by decide, ?_⟩)
  rw [v_catL (by decide)]
  rw [sq_ap]
  unfold lw12
  try simp (implicitDefEqProofs := false) only [post_bnd, post_ret, a_k, a_v, getV_cons0, getV_cons, a_bin, a_cmp, a_ch, a_neg, a_not, a_and, a_or, a_ite, a_sub, a_slc, a_no, a_so, a_nil', a_cons', a_tup, a_lst, a_nl, a_ndk, a_call, a_call0, a_bi, a_isi, a_app, a_sd, a_tst, a_sk, a_brk, a_cnt, a_bad, a_ex, a_ret, a_retN, a_if, a_asg, a_par2, a_par3, a_set, a_for, a_seq, a_enum, a_rng1, a_rng2, a_lc, a_lc2, a_aug, a_disp, a_op2, a_tsub, a_tin, a_tnin, a_itemsL, v_add, v_sub, v_band, v_neg, v_trB, v_trI, v_trN, v_lt, v_le, v_gt, v_ge, v_eqI, v_neI, v_eqS, v_neS, v_isn, v_isnn, v_int, v_abs, v_lenT, v_lenL, v_tupL, v_lstL, List.set_cons_zero, List.set_cons_succ, List.map_cons, List.map_nil, List.cons_append, List.nil_append, List.replicate_succ, List.replicate_zero, dataOf, Option.map_some, Option.some.injEq, exists_eq_left', List.length_cons, List.length_nil, asOI]
  repeat (refine ⟨by decide, ?_⟩)
  rw [v_catL (by decide)]
  rw [sq_ap]
  unfold lw13
  try simp (implicitDefEqProofs := false) only [post_bnd, post_ret, a_k, a_v, getV_cons0, getV_cons, a_bin, a_cmp, a_ch, a_neg, a_not, a_and, a_or, a_ite, a_sub, a_slc, a_no, a_so, a_nil', a_cons', a_tup, a_lst, a_nl, a_ndk, a_call, a_call0, a_bi, a_isi, a_app, a_sd, a_tst, a_sk, a_brk, a_cnt, a_bad, a_ex, a_ret, a_retN, a_if, a_asg, a_par2, a_par3, a_set, a_for, a_seq, a_enum, a_rng1, a_rng2, a_lc, a_lc2, a_aug, a_disp, a_op2, a_tsub, a_tin, a_tnin, a_itemsL, v_add, v_sub, v_band, v_neg, v_trB, v_trI, v_trN, v_lt, v_le, v_gt, v_ge, v_eqI, v_neI, v_eqS, v_neS, v_isn, v_isnn, v_int, v_abs, v_lenT, v_lenL, v_tupL, v_lstL, List.set_cons_zero, List.set_cons_succ, List.map_cons, List.map_nil, List.cons_append, List.nil_append, List.replicate_succ, List.replicate_zero, dataOf, Option.map_some, Option.some.injEq, exists_eq_left', List.length_cons, List.length_nil, asOI]
  repeat (refine ⟨by decide, ?_⟩)
  rw [v_catL (by decide)]
  rw [sq_ap]
  unfold lw14
  try simp (implicitDefEqProofs := false) only [post_bnd, post_ret, a_k, a_v, getV_cons0, getV_cons, a_bin, a_cmp, a_ch, a_neg, a_not, a_and, a_or, a_ite, a_sub, a_slc, a_no, a_so, a_nil', a_cons', a_tup, a_lst, a_nl, a_ndk, a_call, a_call0, a_bi, a_isi, a_app, a_sd, a_tst, a_sk, a_brk, a_cnt, a_bad, a_ex, a_ret, a_retN, a_if, a_asg, a_par2, a_par3, a_set, a_for, a_seq, a_enum, a_rng1, a_rng2, a_lc, a_lc2, a_aug, a_disp, a_op2, a_tsub, a_tin, a_tnin, a_itemsL, v_add, v_sub, v_band, v_neg, v_trB, v_trI, v_trN, v_lt, v_le, v_gt, v_ge, v_eqI, v_neI, v_eqS, v_neS, v_isn, v_isnn, v_int, v_abs, v_lenT, v_lenL, v_tupL, v_lstL, List.set_cons_zero, List.set_cons_succ, List.map_cons, List.map_nil, List.cons_append, List.nil_append, List.replicate_succ, List.replicate_zero, dataOf, Option.map_some, Option.some.injEq, exists_eq_left', List.length_cons, List.length_nil, asOI]
  refine ⟨rowsL.map fun z => .tuple [T z.1, Oc.D z.2], rfl, ?_⟩
  refine rows_ok rowsL _ _ rows_all fun x5 x8 => ?_
  try dsimp only
  unfold lw15
  try simp (implicitDefEqProofs := false) only [post_bnd, post_ret, a_k, a_v, getV_cons0, getV_cons, a_bin, a_cmp, a_ch, a_neg, a_not, a_and, a_or, a_ite, a_sub, a_slc, a_no, a_so, a_nil', a_cons', a_tup, a_lst, a_nl, a_ndk, a_call, a_call0, a_bi, a_isi, a_app, a_sd, a_tst, a_sk, a_brk, a_cnt, a_bad, a_ex, a_ret, a_retN, a_if, a_asg, a_par2, a_par3, a_set, a_for, a_seq, a_enum, a_rng1, a_rng2, a_lc, a_lc2, a_aug, a_disp, a_op2, a_tsub, a_tin, a_tnin, a_itemsL, v_add, v_sub, v_band, v_neg, v_trB, v_trI, v_trN, v_lt, v_le, v_gt, v_ge, v_eqI, v_neI, v_eqS, v_neS, v_isn, v_isnn, v_int, v_abs, v_lenT, v_lenL, v_tupL, v_lstL, List.set_cons_zero, List.set_cons_succ, List.map_cons, List.map_nil, List.cons_append, List.nil_append, List.replicate_succ, List.replicate_zero, dataOf, Option.map_some, Option.some.injEq, exists_eq_left', List.length_cons, List.length_nil, asOI]
  exact k _
theorem law_true (ns : List Int) (hl : ns.length ≤ 63) : ∃ S, m_law [.d (.list (ns.map .int))] [] = some (.ok (.d (.bool true)) S) := by
  have e : m_law = fnB 1 17 lw := rfl
  rw [e]
  have h := law_gen hl (q := fun w _ => w = .d (.bool true)) fun _ => rfl
  obtain ⟨w, S, e, hw⟩ := post_ok h
  exact ⟨S, by rw [e, hw]⟩
end
end MP.Q0

open PySem PySem.W PyProof.Rows
set_option maxHeartbeats 0 in
theorem PySem.Challenge.cw_lanternserver_k57_whole_chunks_holds : PySem.Challenge.rw_lanternserver_k57_whole_chunks.Holds := by
  w_on; o_law; k_head; (case hw => w_witness2)
  k_fill
  refine MP.end_of2 (l := PySem.Challenge.rw_lanternserver_k57_whole_chunks) (n := 63) (k := 6) (x := "script") (m := MP.m_law) rfl (by decide) rfl ⟨rfl, by decide, by decide⟩ (fun w h Y => PySem.W.kIn_of Y) ?F MP.Q0.law_true
  case F =>
    intro w mg fa h KX G hmg
    refine' MP.all_mk KX G hmg ?aC_Chunks ?pg_Chunks ?hd_Chunks ?po_Chunks ?sa_Chunks ?mk_Chunks ?kc_Chunks ?a_is_whole ?l_is_whole ?e_is_whole ?k_is_whole ?a_is_tuple_of ?l_is_tuple_of ?e_is_tuple_of ?k_is_tuple_of ?a_text_octets ?l_text_octets ?e_text_octets ?k_text_octets ?a_worth_of ?l_worth_of ?e_worth_of ?k_worth_of ?a_Chunks___init__ ?i_Chunks___init__ ?l_Chunks___init__ ?e_Chunks___init__ ?k_Chunks___init__ ?a_hex_text ?l_hex_text ?e_hex_text ?k_hex_text ?a__law_cup ?l__law_cup ?e__law_cup ?k__law_cup ?a__law_roll ?l__law_roll ?e__law_roll ?k__law_roll ?a__law_text ?l__law_text ?e__law_text ?k__law_text ?a__law_chunks ?l__law_chunks ?e__law_chunks ?k__law_chunks ?a_are_octets ?l_are_octets ?e_are_octets ?k_are_octets ?a_lines_octets ?l_lines_octets ?e_lines_octets ?k_lines_octets ?a_Chunks_can_stand ?i_Chunks_can_stand ?l_Chunks_can_stand ?e_Chunks_can_stand ?k_Chunks_can_stand ?a_Chunks_size ?i_Chunks_size ?l_Chunks_size ?e_Chunks_size ?k_Chunks_size ?a_need_sizes ?l_need_sizes ?e_need_sizes ?k_need_sizes ?a__law_some ?l__law_some ?e__law_some ?k__law_some ?a__law_hex ?l__law_hex ?e__law_hex ?k__law_hex ?a_need_octets ?l_need_octets ?e_need_octets ?k_need_octets ?a_Chunks_fault ?i_Chunks_fault ?l_Chunks_fault ?e_Chunks_fault ?k_Chunks_fault ?a_Chunks_go_on ?i_Chunks_go_on ?l_Chunks_go_on ?e_Chunks_go_on ?k_Chunks_go_on ?a_chunk_of ?l_chunk_of ?e_chunk_of ?k_chunk_of ?a__law_cut ?l__law_cut ?e__law_cut ?k__law_cut ?a__law_body ?l__law_body ?e__law_body ?k__law_body ?a__law_due ?l__law_due ?e__law_due ?k__law_due ?a__law_spoilt ?l__law_spoilt ?e__law_spoilt ?k__law_spoilt ?a_chunks_by ?l_chunks_by ?e_chunks_by ?k_chunks_by ?a_chunks_in ?l_chunks_in ?e_chunks_in ?k_chunks_in ?a_chunks_of ?l_chunks_of ?e_chunks_of ?k_chunks_of ?a_law ?l_law ?e_law ?k_law ?n_Chunks_body ?n_Chunks_digits ?n_Chunks_left ?n_Chunks_number ?n_Chunks_place ?z_abs ?z_all ?z_bool ?z_enumerate ?z_int ?z_isinstance ?z_len ?z_list ?z_min ?z_ord ?z_range ?z_repr ?z_tuple ?c_BODY ?c_DIGITS ?c_HEX ?c_NEXT ?u_NEXT ?w_NEXT ?v_NEXT ?c_ROW ?c_SIZES
    (case aC_Chunks => k_is)
    (case pg_Chunks => k_is)
    (case hd_Chunks => k_is)
    (case po_Chunks => k_is)
    (case sa_Chunks => k_is)
    (case mk_Chunks => k_is)
    (case kc_Chunks => k_is)
    (case a_is_whole => k_is)
    (case l_is_whole => k_is)
    (case e_is_whole => k_is)
    (case k_is_whole => k_is)
    (case a_is_tuple_of => k_is)
    (case l_is_tuple_of => k_is)
    (case e_is_tuple_of => k_is)
    (case k_is_tuple_of => k_is)
    (case a_text_octets => k_is)
    (case l_text_octets => k_is)
    (case e_text_octets => k_is)
    (case k_text_octets => k_is)
    (case a_worth_of => k_is)
    (case l_worth_of => k_is)
    (case e_worth_of => k_is)
    (case k_worth_of => k_is)
    (case a_Chunks___init__ => k_is)
    (case i_Chunks___init__ => k_is)
    (case l_Chunks___init__ => k_is)
    (case e_Chunks___init__ => k_is)
    (case k_Chunks___init__ => k_is)
    (case a_hex_text => k_is)
    (case l_hex_text => k_is)
    (case e_hex_text => k_is)
    (case k_hex_text => k_is)
    (case a__law_cup => k_is)
    (case l__law_cup => k_is)
    (case e__law_cup => k_is)
    (case k__law_cup => k_is)
    (case a__law_roll => k_is)
    (case l__law_roll => k_is)
    (case e__law_roll => k_is)
    (case k__law_roll => k_is)
    (case a__law_text => k_is)
    (case l__law_text => k_is)
    (case e__law_text => k_is)
    (case k__law_text => k_is)
    (case a__law_chunks => k_is)
    (case l__law_chunks => k_is)
    (case e__law_chunks => k_is)
    (case k__law_chunks => k_is)
    (case a_are_octets => k_is)
    (case l_are_octets => k_is)
    (case e_are_octets => k_is)
    (case k_are_octets => k_is)
    (case a_lines_octets => k_is)
    (case l_lines_octets => k_is)
    (case e_lines_octets => k_is)
    (case k_lines_octets => k_is)
    (case a_Chunks_can_stand => k_is)
    (case i_Chunks_can_stand => k_is)
    (case l_Chunks_can_stand => k_is)
    (case e_Chunks_can_stand => k_is)
    (case k_Chunks_can_stand => k_is)
    (case a_Chunks_size => k_is)
    (case i_Chunks_size => k_is)
    (case l_Chunks_size => k_is)
    (case e_Chunks_size => k_is)
    (case k_Chunks_size => k_is)
    (case a_need_sizes => k_is)
    (case l_need_sizes => k_is)
    (case e_need_sizes => k_is)
    (case k_need_sizes => k_is)
    (case a__law_some => k_is)
    (case l__law_some => k_is)
    (case e__law_some => k_is)
    (case k__law_some => k_is)
    (case a__law_hex => k_is)
    (case l__law_hex => k_is)
    (case e__law_hex => k_is)
    (case k__law_hex => k_is)
    (case a_need_octets => k_is)
    (case l_need_octets => k_is)
    (case e_need_octets => k_is)
    (case k_need_octets => k_is)
    (case a_Chunks_fault => k_is)
    (case i_Chunks_fault => k_is)
    (case l_Chunks_fault => k_is)
    (case e_Chunks_fault => k_is)
    (case k_Chunks_fault => k_is)
    (case a_Chunks_go_on => k_is)
    (case i_Chunks_go_on => k_is)
    (case l_Chunks_go_on => k_is)
    (case e_Chunks_go_on => k_is)
    (case k_Chunks_go_on => k_is)
    (case a_chunk_of => k_is)
    (case l_chunk_of => k_is)
    (case e_chunk_of => k_is)
    (case k_chunk_of => k_is)
    (case a__law_cut => k_is)
    (case l__law_cut => k_is)
    (case e__law_cut => k_is)
    (case k__law_cut => k_is)
    (case a__law_body => k_is)
    (case l__law_body => k_is)
    (case e__law_body => k_is)
    (case k__law_body => k_is)
    (case a__law_due => k_is)
    (case l__law_due => k_is)
    (case e__law_due => k_is)
    (case k__law_due => k_is)
    (case a__law_spoilt => k_is)
    (case l__law_spoilt => k_is)
    (case e__law_spoilt => k_is)
    (case k__law_spoilt => k_is)
    (case a_chunks_by => k_is)
    (case l_chunks_by => k_is)
    (case e_chunks_by => k_is)
    (case k_chunks_by => k_is)
    (case a_chunks_in => k_is)
    (case l_chunks_in => k_is)
    (case e_chunks_in => k_is)
    (case k_chunks_in => k_is)
    (case a_chunks_of => k_is)
    (case l_chunks_of => k_is)
    (case e_chunks_of => k_is)
    (case k_chunks_of => k_is)
    (case a_law => k_is)
    (case l_law => k_is)
    (case e_law => k_is)
    (case k_law => k_is)
    (case n_Chunks_body => k_is)
    (case n_Chunks_digits => k_is)
    (case n_Chunks_left => k_is)
    (case n_Chunks_number => k_is)
    (case n_Chunks_place => k_is)
    (case z_abs => k_is)
    (case z_all => k_is)
    (case z_bool => k_is)
    (case z_enumerate => k_is)
    (case z_int => k_is)
    (case z_isinstance => k_is)
    (case z_len => k_is)
    (case z_list => k_is)
    (case z_min => k_is)
    (case z_ord => k_is)
    (case z_range => k_is)
    (case z_repr => k_is)
    (case z_tuple => k_is)
    (case c_BODY => k_is)
    (case c_DIGITS => k_is)
    (case c_HEX => k_is)
    (case c_NEXT => k_is)
    (case u_NEXT => k_is)
    (case w_NEXT => rfl)
    (case v_NEXT => exact ⟨rfl, rfl, .str _ _, rfl, rfl, .str _ _, trivial⟩)
    (case c_ROW => k_is)
    (case c_SIZES => k_is)
