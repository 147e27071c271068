import PyProof.Rows.All
import Wide.All
import OpenK.AllK
import Wide.FinOn
import HandS.ForMost
import KE.SortData
import KE.DataMinMax
import HandS.Exc
import HandS.WordsExc
import HandS.TupLe
import HandS.DictComp
import HandS.Flow
import HandS.Style
import HandS.TupAny
import HandS.TupMul
import HandS.SortInts
import HandS.Conv
import HandS.RaiseMore
import HandS.More
import HandS.IsInst
import HandS.TupLen
import HandS.Deep
import HandS.Walk
import HandS.Zip
import HandS.ExcInit
import HandS.ExcField
import HandS.ExcIs
import KE.KExcIs
import HandS.SetFor
import HandS.Strs
import HandS.TryOnly
import HandS.Words
import HandS.Ends
import PySem.Challenge.RW_daysworn_k83_clocks_of_players
set_option autoImplicit false
set_option linter.all false
namespace PL
open PySem
abbrev D := PyData
def ref (n : Nat) : D := .dict (List.replicate n (.none, .none))
def scr (xs : List D) : D := .dict [(.bool true, .list xs)]
def refN : D → Option Nat
  | .dict [(.bool true, .list _)] => none
  | .dict kvs => some kvs.length
  | _ => none
@[simp] theorem refN_ref (n : Nat) : refN (ref n) = some n := by
  unfold ref
  match n with
  | 0 => rfl
  | 1 => rfl
  | n + 2 => simp [List.replicate_succ, refN]
inductive SO where
  | lst (xs : List D)
  | dic (kvs : List (D × D))
  | ins (c : Str) (fs : List (Str × D))
  | loc (kvs : List (D × D))
abbrev Store := List SO
structure XD where
  cls : Str
  fs : List (Str × D)
inductive R (α : Type) where
  | ok (a : α) (S : Store)
  | ex (x : XD) (S : Store)
  | no
def R.bind {α β : Type} (r : R α) (f : α → Store → R β) : R β :=
  match r with
  | .ok a S => f a S
  | .ex x S => .ex x S
  | .no => .no
@[simp] theorem bind_ok {α β : Type} (a : α) (S : Store) (f : α → Store → R β) : (R.ok a S).bind f = f a S := rfl
@[simp] theorem bind_ex {α β : Type} (x : XD) (S : Store) (f : α → Store → R β) : (R.ex x S).bind f = .ex x S := rfl
@[simp] theorem bind_no {α β : Type} (f : α → Store → R β) : (R.no : R α).bind f = .no := rfl
def ofO {α : Type} (o : Option α) (S : Store) : R α := match o with
  | some a => .ok a S
  | none => .no
@[simp] theorem ofO_some {α : Type} (a : α) (S : Store) : ofO (some a) S = .ok a S := rfl
@[simp] theorem ofO_none {α : Type} (S : Store) : ofO (none : Option α) S = .no := rfl
inductive Sl where
  | pure (d : D)
  | own (xs : List D)
abbrev Env := List (Option Sl)
def wipe (Γ : Env) : List Nat → Env
  | [] => Γ
  | v :: vs => (wipe Γ vs).set v none
inductive BOp where
  | add | sub | mul | fdiv | mod | pow
  deriving DecidableEq
inductive COp where
  | eq | ne | lt | le | gt | ge | isN | notN | isB | notB | mem | nmem
  deriving DecidableEq
def objN (S : Store) (d : D) : Option (Nat × SO) := (refN d).bind fun n => (S[n]?).map fun o => (n, o)
theorem objN_ref (S : Store) (n : Nat) : objN S (ref n) = (S[n]?).map fun o => (n, o) := by simp [objN]
def lstOf (S : Store) : D → Option (List D)
  | .list xs => some xs
  | d => match objN S d with
    | some (_, .lst xs) => some xs
    | _ => none
def seqOf (S : Store) : D → Option (List D)
  | .tuple xs => some xs
  | .dict [(.bool true, .list xs)] => some xs
  | d => lstOf S d
def dicOf (S : Store) (d : D) : Option (List (D × D)) := match objN S d with
  | some (_, .dic m) => some m
  | _ => none
def keyT : D → Bool
  | .tuple _ => true
  | _ => false
def locOf (S : Store) (d : D) : Option (List (D × D)) := match objN S d with
  | some (_, .loc m) => some m
  | _ => none
structure Its where
  xs : List D
  g : Option (Nat × SO)
def iterOf (S : Store) : D → Option Its
  | .str s => some ⟨s.cps.toList.map fun c => .str ⟨#[c]⟩, none⟩
  | .tuple xs => some ⟨xs, none⟩
  | .list xs => some ⟨xs, none⟩
  | .dict [(.bool true, .list xs)] => some ⟨xs, none⟩
  | d => match objN S d with
    | some (n, .lst xs) => some ⟨xs, some (n, .lst xs)⟩
    | some (n, .loc m) => if m.all (fun p => keyT p.1 == false) then some ⟨m.map (·.1), some (n, .loc m)⟩ else none
    | _ => none
def gOk : Option (Nat × SO) → Store → Prop
  | none, _ => True
  | some (n, o), S => S[n]? = some o
def b2i (b : Bool) : Int := if b then 1 else 0
def isInt : D → Bool
  | .int _ => true
  | _ => false
def intsD : List D → Option (List Int)
  | [] => some []
  | .int i :: r => (intsD r).map (i :: ·)
  | _ :: _ => none
def boolsD : List D → Option (List Bool)
  | [] => some []
  | .bool i :: r => (boolsD r).map (i :: ·)
  | _ :: _ => none
def strsD : List D → Option (List Str)
  | [] => some []
  | .str i :: r => (strsD r).map (i :: ·)
  | _ :: _ => none
def flatKey : D → Bool
  | .int _ => true
  | .str _ => true
  | _ => false
def isKey : D → Bool
  | .int _ => true
  | .str _ => true
  | .tuple xs => xs.all flatKey
  | _ => false
def okKey (m : List (D × D)) (k : D) : Bool := isKey k && m.all fun p => keyT p.1 == keyT k
def dfind (kvs : List (D × D)) (k : D) : Option D := (kvs.find? fun p => PyData.eqv p.1 k).map (·.2)
def dput (kvs : List (D × D)) (k v : D) : List (D × D) :=
  if kvs.any fun p => PyData.eqv p.1 k then kvs.map fun p => if PyData.eqv p.1 k then (p.1, v) else p else kvs ++ [(k, v)]
def fput (f : Str) (v : D) : List (Str × D) → List (Str × D)
  | [] => [(f, v)]
  | (g, w) :: r => if g = f then (f, v) :: r else (g, w) :: fput f v r
def ffind (fs : List (Str × D)) (f : Str) : Option D := fs.lookup f
def ixN (n : Nat) (i : Int) : Option Nat := if 0 ≤ i then (if i < n then some i.toNat else none) else if -(n : Int) ≤ i then some (i + n).toNat else none
def at_ {α : Type} (xs : List α) (i : Int) : Option α := (ixN xs.length i).bind fun j => xs[j]?
def cutIx (n d : Nat) : Option Int → Nat
  | none => d
  | some v => if v < 0 then (v + n).toNat else min v.toNat n
def cutL {α : Type} (xs : List α) (lo hi : Option Int) : List α := (xs.drop (cutIx xs.length 0 lo)).take (cutIx xs.length xs.length hi - cutIx xs.length 0 lo)
def addD (S : Store) (a b : D) : Option D :=
  match a, b with
  | .int i, .int j => some (.int (i + j))
  | .int i, .bool j => some (.int (i + b2i j))
  | .str x, .str y => if x.length + y.length ≤ 1000000 then some (.str (x ++ y)) else none
  | .tuple xs, .tuple ys => if xs.length + ys.length ≤ 1000000 then some (.tuple (xs ++ ys)) else none
  | a, b => match lstOf S a, lstOf S b with
    | some xs, some ys => if xs.length + ys.length ≤ 1000000 then some (.list (xs ++ ys)) else none
    | _, _ => none
def subD (a b : D) : Option D :=
  match a, b with
  | .int i, .int j => some (.int (i - j))
  | _, _ => none
def mulD (S : Store) (a b : D) : Option D :=
  match a, b with
  | .int i, .int j => if i.natAbs < 18446744073709551616 ∨ j.natAbs < 18446744073709551616 then some (.int (i * j)) else none
  | .tuple xs, .int k => if 2 ≤ k ∧ k ≤ 1000 ∧ xs.length ≤ 1000 ∧ !xs.isEmpty then some (.tuple (List.replicate k.toNat xs).flatten) else none
  | a, .int k => match lstOf S a with
    | some xs => if 0 ≤ k ∧ k ≤ 1000000 ∧ xs.length * k.toNat ≤ 1000000 then some (.list (List.replicate k.toNat xs).flatten) else none
    | none => none
  | _, _ => none
def divD (a b : D) : Option D :=
  match a, b with
  | .int i, .int j => if 0 < j ∧ j < 1073741824 then some (.int (i / j)) else none
  | _, _ => none
def modD (a b : D) : Option D :=
  match a, b with
  | .int i, .int j => if 0 < j then some (.int (i % j)) else none
  | _, _ => none
def powD (a b : D) : Option D :=
  match a, b with
  | .int i, .int j => if 0 ≤ j ∧ j ≤ 1000000 ∧ i.natAbs < 18446744073709551616 then some (.int (i ^ j.toNat)) else none
  | _, _ => none
def opB (S : Store) (o : BOp) (a b : D) : Option D :=
  match o with
  | .add => addD S a b
  | .sub => subD a b
  | .mul => mulD S a b
  | .fdiv => divD a b
  | .mod => modD a b
  | .pow => powD a b
def sign1 : D → Option Nat
  | .str s => if s.cps.size = 1 then s.cps[0]? else none
  | _ => none
def isNone : D → Bool
  | .none => true
  | _ => false
def eqSS : D → D → Option Bool
  | .str x, .str y => some (decide (x = y))
  | _, _ => none
def eqD (a b : D) : Option Bool := if SeqAt.shaped a && SeqAt.shaped b then some (PyData.eqv a b) else eqSS a b
def unref (S : Store) (d : D) : D := match objN S d with
  | some (_, .lst xs) => .list xs
  | _ => d
def flatD : D → Bool
  | .none => true
  | .bool _ => true
  | .int _ => true
  | .str _ => true
  | _ => false
def sameF : D → D → Bool
  | .none, .none => true
  | .bool a, .bool b => decide (a = b)
  | .int a, .int b => decide (a = b)
  | .str a, .str b => decide (a = b)
  | _, _ => false
def sameM (m m' : List (D × D)) : Bool := decide (m.length = m'.length) && m.all fun p => !keyT p.1 && (match dfind m' p.1 with
  | some d => sameF p.2 d
  | none => false)
def eqC (S : Store) (a b : D) : Option Bool := match dicOf S a, dicOf S b with
  | some m, some m' => if sameM m m' && m'.all (fun p => !keyT p.1) then some true else none
  | _, _ => eqD (unref S a) (unref S b)
def memD (S : Store) (a b : D) : Option Bool :=
  match b with
  | .str s => match sign1 a with
    | some c => some (decide (c ∈ s.cps.toList))
    | none => none
  | _ => match dicOf S b with
    | some kvs => if okKey kvs a then some (dfind kvs a).isSome else none
    | none => match seqOf S b with
      | some xs => if SeqAt.shaped a && SeqAt.shaped (.list xs) then some (xs.any fun y => PyData.eqv y a) else none
      | none => none
def ltD (a b : D) : Option Bool :=
  match a, b with
  | .int i, .int j => some (decide (i < j))
  | .str i, .str j => some (decide (i.cps.toList < j.cps.toList))
  | _, _ => none
def leD (a b : D) : Option Bool :=
  match a, b with
  | .int i, .int j => some (decide (i ≤ j))
  | _, _ => none
def lePD (a b : D) : Option Bool :=
  match a, b with
  | .tuple [.int i, .int j], .tuple [.int k, .int l] => some (decide (i < k ∨ (i = k ∧ j ≤ l)))
  | a, b => leD a b
def isND (a b : D) : Option Bool :=
  match b with
  | .none => some (isNone a)
  | _ => none
def isBD (a b : D) : Option Bool :=
  match a, b with
  | .bool i, .bool j => some (decide (i = j))
  | _, _ => none
def opC (S : Store) (o : COp) (a b : D) : Option Bool :=
  match o with
  | .eq => eqC S a b
  | .ne => (eqC S a b).map (!·)
  | .lt => ltD a b
  | .le => lePD a b
  | .gt => ltD b a
  | .ge => leD b a
  | .isN => isND a b
  | .notN => (isND a b).map (!·)
  | .isB => isBD a b
  | .notB => (isBD a b).map (!·)
  | .mem => memD S a b
  | .nmem => (memD S a b).map (!·)
def tru (S : Store) : D → Option Bool
  | .none => some false
  | .bool b => some b
  | .int i => some (i != 0)
  | .str s => if s.length ≤ 1000000 then some (s.length != 0) else none
  | .list xs => some (!xs.isEmpty)
  | .tuple xs => some (!xs.isEmpty)
  | d => (seqOf S d).map fun xs => !xs.isEmpty
inductive B1 where
  | len | abs | int | str | sum | max | min | sorted | tuple | list | all | any | repr | sset | lset
  deriving DecidableEq
inductive B2 where
  | max | min
  deriving DecidableEq
def allAlike (xs : List D) : Bool := xs.all fun a => xs.all fun b => W.alike a b
def isTup1 : D → Bool
  | .tuple (_ :: _) => true
  | _ => false
def notTup : D → Bool
  | .none => false
  | .tuple _ => false
  | .dict _ => false
  | _ => true
def sortable (xs : List D) : Bool := allAlike xs && SeqAt.shaped (.list xs) && (xs.all isTup1 || xs.all notTup)
def sortD (xs : List D) : List D := xs.mergeSort fun a b => !W.dataLt b a
def dedup : List D → List D → List D
  | seen, [] => seen.reverse
  | seen, x :: xs => if seen.any fun y => PyData.eqv y x then dedup seen xs else dedup (x :: seen) xs
def insI (k : Int) : List Int → List Int
  | [] => [k]
  | x :: xs => if k < x then k :: x :: xs else if k = x then x :: xs else x :: insI k xs
def ssetI (ns : List Int) : List Int := ns.foldr insI []
def insS (k : Int) : List Int → List Int
  | [] => [k]
  | x :: xs => if k ≤ x then k :: x :: xs else x :: insS k xs
def isortI (ns : List Int) : List Int := ns.foldr insS []
def bigI (i : Int) : Bool := decide (i.natAbs < 1000000000000000000)
mutual
def rcost : D → Nat
  | .int i => if bigI i then 20 else 100000000
  | .str s => 10 * s.length + 4
  | .list xs => rcosts xs + 4
  | .tuple xs => rcosts xs + 4
  | .dict _ => 100000000
  | _ => 5
def rcosts : List D → Nat
  | [] => 0
  | x :: xs => rcost x + 2 + rcosts xs
end
def call1 (S : Store) : B1 → D → Option D
  | .len, .str s => if s.length ≤ 1000000 then some (.int s.length) else none
  | .len, d => match seqOf S d with
    | some xs => some (.int xs.length)
    | none => (dicOf S d).map fun m => .int m.length
  | .abs, .int i => some (.int (if i < 0 then -i else i))
  | .int, .int i => some (.int i)
  | .int, .bool b => some (.int (if b then 1 else 0))
  | .int, .str s => if s.length ≤ 640 then (intText? s).map .int else none
  | .str, .int i => if bigI i then some (.str (toString i)) else none
  | .sum, d => (lstOf S d).bind fun xs => (intsD xs).map fun ns => .int ns.sum
  | .max, d => (seqOf S d).bind fun xs => if sortable xs then (match xs with
    | [] => none
    | x :: r => if (match W.maxD x r with
      | .list _ => true
      | _ => false) then none else some (W.maxD x r)) else none
  | .min, d => (seqOf S d).bind fun xs => if sortable xs then (match xs with
    | [] => none
    | x :: r => if (match W.minD x r with
      | .list _ => true
      | _ => false) then none else some (W.minD x r)) else none
  | .sorted, d => match dicOf S d with
    | some m => (intsD (m.map (·.1))).bind fun ns => if ns.length < 64 then some (.list ((isortI ns).map .int)) else none
    | none => (lstOf S d).bind fun xs => if sortable xs ∧ xs.length ≤ 1000000 then some (.list (sortD xs)) else none
  | .tuple, d => (seqOf S d).map .tuple
  | .list, d => (seqOf S d).map .list
  | .all, d => (lstOf S d).bind fun xs => (boolsD xs).map fun bs => .bool (bs.all id)
  | .any, d => (lstOf S d).bind fun xs => (boolsD xs).map fun bs => .bool (bs.any id)
  | .repr, d => if SeqAt.shaped d && d.showable && decide (d.shown.length ≤ 1000000) then some (.str d.shown) else none
  | .sset, d => (lstOf S d).bind fun xs => (intsD xs).bind fun ns => if ns.length < 64 then some (.list ((ssetI ns).map .int)) else none
  | .lset, d => (seqOf S d).bind fun xs => if xs.all isKey ∧ xs.length ≤ 4000 then some (.int (dedup [] xs).length) else none
  | _, _ => none
def call2 : B2 → D → D → Option D
  | .max, .int i, .int j => some (.int (if j > i then j else i))
  | .min, .int i, .int j => some (.int (if j < i then j else i))
  | _, _, _ => none
def inTy (y n : List String) (ty : String) : Option Bool := if ty ∈ y then some true else if ty ∈ n then some false else none
def isiD (S : Store) (d : D) (ty : String) : Option Bool :=
  match d with
  | .none => inTy [] ["int", "bool", "str", "tuple", "list", "dict"] ty
  | .bool _ => inTy ["int", "bool"] ["str", "tuple", "list", "dict"] ty
  | .int _ => inTy ["int"] ["bool", "str", "tuple", "list", "dict"] ty
  | .str _ => inTy ["str"] ["bool", "int", "tuple", "list", "dict"] ty
  | .tuple _ => inTy ["tuple"] ["bool", "int", "str", "list", "dict"] ty
  | .list _ => inTy ["list"] ["bool", "int", "str", "tuple", "dict"] ty
  | d => match objN S d with
    | some (_, .lst _) => inTy ["list"] ["bool", "int", "str", "tuple", "dict"] ty
    | some (_, .dic _) => inTy ["dict"] ["bool", "int", "str", "tuple", "list"] ty
    | _ => none
def getD (S : Store) (a i : D) : Option D :=
  match dicOf S a with
  | some m => if okKey m i then dfind m i else none
  | none => match locOf S a with
    | some m => if okKey m i then dfind m i else none
    | none => match i with
      | .int i => match a with
        | .str s => if s.length ≤ 1000000 then (at_ s.cps.toList i).map fun c => .str ⟨#[c]⟩ else none
        | a => (seqOf S a).bind fun xs => at_ xs i
      | _ => none
def cutD (S : Store) (a : D) (lo hi : Option Int) : Option D :=
  match a with
  | .tuple xs => some (.tuple (cutL xs lo hi))
  | .str s => if s.length ≤ 1000000 then some (.str ⟨(cutL s.cps.toList lo hi).toArray⟩) else none
  | d => (lstOf S d).map fun xs => .list (cutL xs lo hi)
def revD (S : Store) (a : D) : Option D := (lstOf S a).map fun xs => .list xs.reverse
inductive M1 where
  | index | count | join | split | get | extendv
  deriving DecidableEq
inductive M2 where
  | get
  deriving DecidableEq
def indexOf : List D → D → Nat → Option Nat
  | [], _, _ => none
  | x :: xs, d, k => if PyData.eqv x d then some k else indexOf xs d (k + 1)
def meth1 (S : Store) : M1 → D → D → Option D
  | .index, o, a => (lstOf S o).bind fun xs => if SeqAt.shaped a && SeqAt.shaped (.list xs) then (indexOf xs a 0).map fun k : Nat => .int (k : Int) else none
  | .join, .str s, a => (seqOf S a).bind fun xs => (strsD xs).bind fun ys => if (Txt.join s ys).length ≤ 1000000 ∧ ys.length ≤ 1000000 then some (.str (Txt.join s ys)) else none
  | .split, .str a, .str b => if b.length ≠ 0 ∧ a.length ≤ 1000000 then some (.list ((Txt.split a b).map .str)) else none
  | .get, o, k => (dicOf S o).bind fun m => if okKey m k then some ((dfind m k).getD .none) else none
  | _, _, _ => none
def okM1 (S : Store) : M1 → D → Bool
  | .index, o => (lstOf S o).isSome
  | .get, o => (dicOf S o).isSome
  | _, .str _ => true
  | _, _ => false
def okM2 (S : Store) : M2 → D → Bool
  | .get, o => (dicOf S o).isSome
def meth2 (S : Store) : M2 → D → D → D → Option D
  | .get, o, k, x => (dicOf S o).bind fun m => if okKey m k then some ((dfind m k).getD x) else none
def rngL (a b : Int) : List D := (List.range (b - a).toNat).map fun i : Nat => .int (a + (i : Int))
def smallI (i : Int) : Bool := decide (-1000000000000 ≤ i ∧ i ≤ 1000000000000)
def rng2 : D → D → Option (List D)
  | .int a, .int b => if smallI a && smallI b && decide ((b - a).toNat ≤ 1000000) then some (rngL a b) else none
  | _, _ => none
def rng3L (a c : Int) : Nat → List D
  | 0 => []
  | n + 1 => .int a :: rng3L (a + c) c n
def rng3 : D → D → Int → Option (List D)
  | .int a, .int b, c => if smallI a && smallI b && decide (c ≠ 0) && decide (c.natAbs < 1000000) then
      (let n := if 0 < c then ((b - a + c - 1) / c).toNat else ((a - b + (-c) - 1) / (-c)).toNat
       if n ≤ 1000000 then some (rng3L a c n) else none) else none
  | _, _, _ => none
def zipD (xs ys : List D) : List D := List.zipWith (fun x y => .tuple [x, y]) xs ys
inductive CT where
  | nm (i : Nat)
  | tp (ts : List CT)
mutual
inductive CE where
  | var (i : Nat)
  | bor (i : Nat)
  | lit (d : D)
  | bin (o : BOp) (a b : CE)
  | neg (a : CE)
  | cmp (o : COp) (a b : CE)
  | chain (o o' : COp) (a b c : CE)
  | and (a b : CE)
  | or (a b : CE)
  | not (a : CE)
  | ite (c a b : CE)
  | tup (es : List CE)
  | lst (es : List CE)
  | dict (kvs : List CE)
  | dictp (a : CE)
  | box (a : CE)
  | lock (i : Nat) (a : CE)
  | sub (a i : CE)
  | slice (a : CE) (lo hi : Option CE)
  | rev (a : CE)
  | lc (vs : List Nat) (tg : CT) (it : CI) (c : Option CE) (elt : CE)
  | rng (t : Bool) (it : CI)
  | c1 (b : B1) (a : CE)
  | c2 (b : B2) (a b' : CE)
  | isi (a : CE) (ty : String)
  | m1 (m : M1) (o a : CE)
  | m2 (m : M2) (o a b : CE)
  | call (f : Str) (args : List CE)
  | mcall (c : Str) (o : CE) (m : Str) (args : List CE)
  | new (c : Str) (args : List CE)
  | attr (o : CE) (f : Str)
inductive CI where
  | e (a : CE)
  | r1 (a : CE)
  | r2 (a b : CE)
  | r3 (a b : CE) (c : Int)
  | zip (a b : CE)
end
inductive CX_ where
  | e (c : CE)
  | call (f : Str) (args : List CX_)
  | mcall (c : Str) (o : CE) (m : Str) (args : List CX_)
  | ite (c : CE) (a b : CX_)
  | tup (args : List CX_)
inductive Hd where
  | lit (d : D)
  | word (i : Nat) (w : Str) (f : Str) (tys : List Str)
inductive CL where
  | nm (i : Nat)
  | tp (ts : List CL)
  | sub (a i : CE)
  | attr (a : CE) (f : Str)
inductive CS where
  | asg (t : CL) (e : CE)
  | own (i : Nat) (e : CE)
  | par (ts : List (Bool × Nat)) (es : List CE)
  | aug (i : Nat) (o : BOp) (e : CE)
  | augS (a i : CE) (o : BOp) (e : CE)
  | augA (a : CE) (f : Str) (o : BOp) (e : CE)
  | app (a e : CE)
  | ext (a e : CE)
  | upd (a e : CE)
  | pop (i : Nat) (a : CE)
  | drop (e : CE)
  | ret (e : CE)
  | retX (e : CX_)
  | asgX (t : CL) (e : CX_)
  | dropX (e : CX_)
  | raise_ (c : Str) (e : CE)
  | tryX (b : List CS) (nm : Str) (h : Hd)
  | retN
  | ite (c : CE) (a b : List CS)
  | for_ (t : CT) (it : CI) (body : List CS)
  | while_ (c : CE) (body : List CS)
  | brk
  | cont
  | pass
  | frz (i : Nat)
abbrev FnS := List D → Store → R D
structure Fns where
  fn : Str → Option FnS
  mt : Str → Str → Option FnS
  nw : Str → Option FnS
  fl : Str → Str → Bool
  xn : Str → Option (Str × Bool)
  xs : Str → Str → Option Bool
mutual
def asgT : CT → D → Env → Option Env
  | .nm i, d, Γ => some (Γ.set i (some (.pure d)))
  | .tp ts, d, Γ => match d with
    | .tuple xs => asgTs ts xs Γ
    | _ => none
def asgTs : List CT → List D → Env → Option Env
  | [], [], Γ => some Γ
  | t :: ts, x :: xs, Γ => (asgT t x Γ).bind fun Γ' => asgTs ts xs Γ'
  | _, _, _ => none
end
def noX {α : Type} : R α → R α
  | .ok a S => .ok a S
  | _ => .no
@[simp] theorem noX_ok {α : Type} (a : α) (S : Store) : noX (.ok a S) = .ok a S := rfl
noncomputable def onG {α : Type} (g : Option (Nat × SO)) (S : Store) (r : R α) : R α := open Classical in if gOk g S then r else .no
@[simp] theorem onG_none {α : Type} (S : Store) (r : R α) : onG none S r = r := by
  unfold onG
  exact if_pos trivial
noncomputable def lcLoop (g : Option (Nat × SO)) (f : D → Store → R (Option D)) : List D → Store → R (List D)
  | [], S => onG g S (.ok [] S)
  | x :: xs, S => onG g S ((noX (f x S)).bind fun o S1 => (lcLoop g f xs S1).bind fun ys S2 => .ok (match o with
    | some y => y :: ys
    | none => ys) S2)
def truR (S : Store) (d : D) : R Bool := ofO (tru S d) S
def alloc (o : SO) (S : Store) : R D := .ok (ref S.length) (S ++ [o])
def pairsD : List D → Option (List (D × D))
  | [] => some []
  | .tuple [k, v] :: r => if flatKey k then (pairsD r).map ((k, v) :: ·) else none
  | _ :: _ => none
def twos : List D → Option (List (D × D))
  | [] => some []
  | k :: v :: r => (twos r).map ((k, v) :: ·)
  | _ => none
def mergeD (m : List (D × D)) (ps : List (D × D)) : List (D × D) := ps.foldl (fun m p => dput m p.1 p.2) m
mutual
noncomputable def evE (Φ : Fns) : CE → Env → Store → R D
  | .var i, Γ, S => match Γ[i]? with
    | some (some (.pure d)) => .ok d S
    | _ => .no
  | .bor i, Γ, S => match Γ[i]? with
    | some (some (.pure d)) => .ok d S
    | some (some (.own xs)) => .ok (.list xs) S
    | _ => .no
  | .lit d, _, S => .ok d S
  | .bin o a b, Γ, S => (evE Φ a Γ S).bind fun x S1 => (evE Φ b Γ S1).bind fun y S2 => ofO (opB S2 o x y) S2
  | .neg a, Γ, S => (evE Φ a Γ S).bind fun x S1 => match x with
    | .int i => .ok (.int (-i)) S1
    | _ => .no
  | .cmp o a b, Γ, S => (evE Φ a Γ S).bind fun x S1 => (evE Φ b Γ S1).bind fun y S2 => ofO ((opC S2 o x y).map .bool) S2
  | .chain o o' a b c, Γ, S => (evE Φ a Γ S).bind fun x S1 => (evE Φ b Γ S1).bind fun y S2 => match opC S2 o x y with
    | some true => (evE Φ c Γ S2).bind fun z S3 => ofO ((opC S3 o' y z).map .bool) S3
    | some false => .ok (.bool false) S2
    | none => .no
  | .and a b, Γ, S => (evE Φ a Γ S).bind fun x S1 => (truR S1 x).bind fun t S2 => if t then evE Φ b Γ S2 else .ok x S2
  | .or a b, Γ, S => (evE Φ a Γ S).bind fun x S1 => (truR S1 x).bind fun t S2 => if t then .ok x S2 else evE Φ b Γ S2
  | .not a, Γ, S => (evE Φ a Γ S).bind fun x S1 => (truR S1 x).bind fun t S2 => .ok (.bool (!t)) S2
  | .ite c a b, Γ, S => (evE Φ c Γ S).bind fun x S1 => (truR S1 x).bind fun t S2 => if t then evE Φ a Γ S2 else evE Φ b Γ S2
  | .tup es, Γ, S => (evEs Φ es Γ S).bind fun xs S1 => .ok (.tuple xs) S1
  | .lst es, Γ, S => (evEs Φ es Γ S).bind fun xs S1 => .ok (.list xs) S1
  | .dict kvs, Γ, S => (evEs Φ kvs Γ S).bind fun xs S1 => match twos xs with
    | some ps => if ps.length ≤ 15 ∧ ps.all fun p => flatKey p.1 then alloc (.dic (mergeD [] ps)) S1 else .no
    | none => .no
  | .dictp a, Γ, S => (evE Φ a Γ S).bind fun x S1 => match (lstOf S1 x).bind pairsD with
    | some ps => alloc (.dic (mergeD [] ps)) S1
    | none => .no
  | .box a, Γ, S => (evE Φ a Γ S).bind fun x S1 => match x with
    | .list xs => alloc (.lst xs) S1
    | _ => .no
  | .lock i a, Γ, S => match Γ[i]? with
    | some (some (.pure x)) => match objN S x with
      | some (n, .dic m) => (evE Φ a Γ (S.set n (.loc m))).bind fun y S1 => match S1[n]? with
        | some (.loc m') => .ok y (S1.set n (.dic m'))
        | _ => .no
      | _ => .no
    | _ => .no
  | .sub a i, Γ, S => (evE Φ a Γ S).bind fun x S1 => (evE Φ i Γ S1).bind fun y S2 => ofO (getD S2 x y) S2
  | .slice a lo hi, Γ, S => (evE Φ a Γ S).bind fun x S1 => (evO Φ lo Γ S1).bind fun l S2 => (evO Φ hi Γ S2).bind fun h S3 => ofO (cutD S3 x l h) S3
  | .rev a, Γ, S => (evE Φ a Γ S).bind fun x S1 => ofO (revD S1 x) S1
  | .lc vs tg it c elt, Γ, S => (evI Φ it Γ S).bind fun its S1 => (lcLoop its.g (fun x S => match asgT tg x (wipe Γ vs) with
    | some Γ' => (evC Φ c Γ' S).bind fun t S2 => if t then (evE Φ elt Γ' S2).bind fun y S3 => .ok (some y) S3 else .ok none S2
    | none => .no) its.xs S1).bind fun ys S2 => if ys.length ≤ 1000000 then .ok (.list ys) S2 else .no
  | .rng t it, Γ, S => (evI Φ it Γ S).bind fun its S1 => .ok (if t then .tuple its.xs else .list its.xs) S1
  | .c1 b a, Γ, S => (evE Φ a Γ S).bind fun x S1 => ofO (call1 S1 b x) S1
  | .c2 b a b', Γ, S => (evE Φ a Γ S).bind fun x S1 => (evE Φ b' Γ S1).bind fun y S2 => ofO (call2 b x y) S2
  | .isi a ty, Γ, S => (evE Φ a Γ S).bind fun x S1 => ofO ((isiD S1 x ty).map .bool) S1
  | .m1 m o a, Γ, S => (evE Φ o Γ S).bind fun x S1 => if okM1 S1 m x then (evE Φ a Γ S1).bind fun y S2 => ofO (meth1 S2 m x y) S2 else .no
  | .m2 m o a b, Γ, S => (evE Φ o Γ S).bind fun x S1 => if okM2 S1 m x then (evE Φ a Γ S1).bind fun y S2 => (evE Φ b Γ S2).bind fun z S3 => ofO (meth2 S3 m x y z) S3 else .no
  | .call f args, Γ, S => match Φ.fn f with
    | some F => (evEs Φ args Γ S).bind fun xs S1 => F xs S1
    | none => .no
  | .mcall c o m args, Γ, S => match Φ.mt c m with
    | some F => (evE Φ o Γ S).bind fun x S1 => match objN S1 x with
      | some (_, .ins c' fs) => if c' = c ∧ ffind fs m = none then (evEs Φ args Γ S1).bind fun xs S2 => F (x :: xs) S2 else .no
      | _ => .no
    | none => .no
  | .new c args, Γ, S => match Φ.nw c with
    | some F => (evEs Φ args Γ S).bind fun xs S1 => (F (ref S1.length :: xs) (S1 ++ [.ins c []])).bind fun r S2 => match r with
      | .none => .ok (ref S1.length) S2
      | _ => .no
    | none => .no
  | .attr o f, Γ, S => (evE Φ o Γ S).bind fun x S1 => match objN S1 x with
    | some (_, .ins c fs) => if Φ.fl c f then ofO (ffind fs f) S1 else .no
    | _ => .no
noncomputable def evEs (Φ : Fns) : List CE → Env → Store → R (List D)
  | [], _, S => .ok [] S
  | e :: es, Γ, S => (evE Φ e Γ S).bind fun x S1 => (evEs Φ es Γ S1).bind fun xs S2 => .ok (x :: xs) S2
noncomputable def evO (Φ : Fns) : Option CE → Env → Store → R (Option Int)
  | none, _, S => .ok none S
  | some e, Γ, S => (evE Φ e Γ S).bind fun x S1 => match x with
    | .int i => .ok (some i) S1
    | _ => .no
noncomputable def evC (Φ : Fns) : Option CE → Env → Store → R Bool
  | none, _, S => .ok true S
  | some e, Γ, S => (evE Φ e Γ S).bind fun x S1 => truR S1 x
noncomputable def evI (Φ : Fns) : CI → Env → Store → R Its
  | .e a, Γ, S => (evE Φ a Γ S).bind fun x S1 => ofO (iterOf S1 x) S1
  | .r1 a, Γ, S => (evE Φ a Γ S).bind fun x S1 => ofO ((rng2 (.int 0) x).map fun xs => ⟨xs, none⟩) S1
  | .r2 a b, Γ, S => (evE Φ a Γ S).bind fun x S1 => (evE Φ b Γ S1).bind fun y S2 => ofO ((rng2 x y).map fun xs => ⟨xs, none⟩) S2
  | .r3 a b c, Γ, S => (evE Φ a Γ S).bind fun x S1 => (evE Φ b Γ S1).bind fun y S2 => ofO ((rng3 x y c).map fun xs => ⟨xs, none⟩) S2
  | .zip a b, Γ, S => (evE Φ a Γ S).bind fun x S1 => (evE Φ b Γ S1).bind fun y S2 => match x, y with
    | .tuple xs, .tuple ys => .ok ⟨zipD xs ys, none⟩ S2
    | _, _ => .no
end
inductive Fl where
  | nx (Γ : Env)
  | ret (d : D)
  | brk (Γ : Env)
  | ct (Γ : Env)
def setR (S : Store) (n : Nat) (o : SO) : Store := S.set n o
def putD (S : Store) (x i d : D) : Option Store :=
  match objN S x with
  | some (n, .lst xs) => match i with
    | .int i => (ixN xs.length i).map fun j => S.set n (.lst (xs.set j d))
    | _ => none
  | some (n, .dic m) => if okKey m i ∧ m.length < 1000000 then some (S.set n (.dic (dput m i d))) else none
  | _ => none
def fldD (Φ : Fns) (S : Store) (x : D) (f : Str) (d : D) : Option Store :=
  match objN S x with
  | some (n, .ins c fs) => if Φ.fl c f ∧ fs.length < 900 then some (S.set n (.ins c (fput f d fs))) else none
  | _ => none
def clsOf (S : Store) (x : D) : Option Str := match objN S x with
  | some (_, .ins c _) => some c
  | _ => none
def ofS {α : Type} (o : Option Store) (a : α) : R α := match o with
  | some S => .ok a S
  | none => .no
def ownB (a : CE) (Γ : Env) : Option (Nat × List D) := match a with
  | .bor j => match Γ[j]? with
    | some (some (.own xs)) => some (j, xs)
    | _ => none
  | _ => none
mutual
noncomputable def asgL (Φ : Fns) : CL → D → Env → Store → R Env
  | .nm i, d, Γ, S => .ok (Γ.set i (some (.pure d))) S
  | .tp ts, d, Γ, S => match d with
    | .tuple xs => asgLs Φ ts xs Γ S
    | _ => .no
  | .sub a i, d, Γ, S => (evE Φ a Γ S).bind fun x S1 => (evE Φ i Γ S1).bind fun y S2 => match ownB a Γ with
    | some (j, xs) => match y with
      | .int k => ofO ((ixN xs.length k).map fun p => Γ.set j (some (.own (xs.set p d)))) S2
      | _ => .no
    | none => ofS (putD S2 x y d) Γ
  | .attr a f, d, Γ, S => (evE Φ a Γ S).bind fun x S1 => ofS (fldD Φ S1 x f d) Γ
noncomputable def asgLs (Φ : Fns) : List CL → List D → Env → Store → R Env
  | [], [], Γ, S => .ok Γ S
  | t :: ts, x :: xs, Γ, S => (asgL Φ t x Γ S).bind fun Γ1 S1 => asgLs Φ ts xs Γ1 S1
  | _, _, _, _ => .no
end
def setPar : List (Bool × Nat) → List D → Env → Option Env
  | [], [], Γ => some Γ
  | (false, i) :: ts, x :: xs, Γ => setPar ts xs (Γ.set i (some (.pure x)))
  | (true, i) :: ts, .list x :: xs, Γ => setPar ts xs (Γ.set i (some (.own x)))
  | _, _, _ => none
noncomputable def forLoop (g : Option (Nat × SO)) (f : D → Env → Store → R Fl) : List D → Env → Store → R Fl
  | [], Γ, S => onG g S (.ok (.nx Γ) S)
  | x :: xs, Γ, S => onG g S ((f x Γ S).bind fun fl S1 => match fl with
    | .nx Γ1 => forLoop g f xs Γ1 S1
    | .ct Γ1 => forLoop g f xs Γ1 S1
    | .brk Γ1 => .ok (.nx Γ1) S1
    | .ret d => .ok (.ret d) S1)
def whileLoop (c : Env → Store → R Bool) (f : Env → Store → R Fl) : Nat → Env → Store → R Fl
  | 0, _, _ => .no
  | n + 1, Γ, S => (c Γ S).bind fun t S1 => if t then (f Γ S1).bind fun fl S2 => match fl with
      | .nx Γ1 => whileLoop c f n Γ1 S2
      | .ct Γ1 => whileLoop c f n Γ1 S2
      | .brk Γ1 => .ok (.nx Γ1) S2
      | .ret d => .ok (.ret d) S2
    else .ok (.nx Γ) S1
def FUEL : Nat := 10000000
def appD (a : CE) (x : D) (ds : List D) (Γ : Env) (S : Store) : R Env :=
  match ownB a Γ with
  | some (j, xs) => if xs.length + ds.length ≤ 1000000 then .ok (Γ.set j (some (.own (xs ++ ds)))) S else .no
  | none => match objN S x with
    | some (n, .lst xs) => if xs.length + ds.length ≤ 1000000 then .ok Γ (S.set n (.lst (xs ++ ds))) else .no
    | _ => .no
def popD (a : CE) (x : D) (Γ : Env) (S : Store) : R (D × Env) :=
  match ownB a Γ with
  | some (j, xs) => match xs.getLast? with
    | some y => .ok (y, Γ.set j (some (.own xs.dropLast))) S
    | none => .no
  | none => match objN S x with
    | some (n, .lst xs) => match xs.getLast? with
      | some y => .ok (y, Γ) (S.set n (.lst xs.dropLast))
      | none => .no
    | _ => .no
def augV (o : BOp) (a b : Int) : Int := match o with
  | .add => a + b
  | _ => a - b
def augI (o : BOp) (x y : D) : Option D := match x, y with
  | .int a, .int b => some (.int (augV o a b))
  | _, _ => none
def xOk (t : Bool) : D → Bool
  | .int _ => !t
  | .str s => decide (s.length ≤ 1000)
  | _ => false
mutual
noncomputable def evX (Φ : Fns) : CX_ → Env → Store → R D
  | .e c, Γ, S => noX (evE Φ c Γ S)
  | .call f args, Γ, S => match Φ.fn f with
    | some F => (evXs Φ args Γ S).bind fun xs S1 => F xs S1
    | none => .no
  | .mcall c o m args, Γ, S => match Φ.mt c m with
    | some F => (noX (evE Φ o Γ S)).bind fun x S1 => match objN S1 x with
      | some (_, .ins c' fs) => if c' = c ∧ ffind fs m = none then (evXs Φ args Γ S1).bind fun xs S2 => F (x :: xs) S2 else .no
      | _ => .no
    | none => .no
  | .ite c a b, Γ, S => (noX ((evE Φ c Γ S).bind fun x S1 => truR S1 x)).bind fun t S2 => if t then evX Φ a Γ S2 else evX Φ b Γ S2
  | .tup args, Γ, S => (evXs Φ args Γ S).bind fun xs S1 => .ok (.tuple xs) S1
noncomputable def evXs (Φ : Fns) : List CX_ → Env → Store → R (List D)
  | [], _, S => .ok [] S
  | e :: es, Γ, S => (evX Φ e Γ S).bind fun x S1 => (evXs Φ es Γ S1).bind fun xs S2 => .ok (x :: xs) S2
end
def exH (Φ : Fns) (x : XD) (S : Store) : Hd → R Fl
  | .lit d => .ok (.ret d) S
  | .word _ w f tys => match Φ.xn x.cls with
    | some (g, _) => if g = f ∧ tys.all (fun ty => Φ.xs x.cls ty == some true) then (match ffind x.fs f with
      | some d => .ok (.ret (.list [.str w, d])) S
      | none => .no) else .no
    | none => .no
mutual
noncomputable def exS (Φ : Fns) : CS → Env → Store → R Fl
  | .asg t e, Γ, S => noX ((evE Φ e Γ S).bind fun x S1 => (asgL Φ t x Γ S1).bind fun Γ1 S2 => .ok (.nx Γ1) S2)
  | .own i e, Γ, S => noX ((evE Φ e Γ S).bind fun x S1 => match x with
    | .list xs => .ok (.nx (Γ.set i (some (.own xs)))) S1
    | _ => .no)
  | .par ts es, Γ, S => noX ((evEs Φ es Γ S).bind fun xs S1 => ofO ((setPar ts xs Γ).map .nx) S1)
  | .aug i o e, Γ, S => noX (match Γ[i]? with
    | some (some (.pure x)) => (evE Φ e Γ S).bind fun y S1 => ofO ((augI o x y).map fun z => .nx (Γ.set i (some (.pure z)))) S1
    | _ => .no)
  | .augS a i o e, Γ, S => noX ((evE Φ a Γ S).bind fun x S1 => (evE Φ i Γ S1).bind fun y S2 => match (if (dicOf S2 x).isSome then getD S2 x y else none) with
    | some z => (evE Φ e Γ S2).bind fun v S3 => match augI o z v with
      | some u => ofS (putD S3 x y u) (.nx Γ)
      | none => .no
    | none => .no)
  | .augA a f o e, Γ, S => noX ((evE Φ a Γ S).bind fun x S1 => match objN S1 x with
    | some (_, .ins c fs) => match (if Φ.fl c f then ffind fs f else none) with
      | some z => (evE Φ e Γ S1).bind fun v S2 => match augI o z v with
        | some u => if clsOf S2 x = some c then ofS (fldD Φ S2 x f u) (.nx Γ) else .no
        | none => .no
      | none => .no
    | _ => .no)
  | .app a e, Γ, S => noX ((evE Φ a Γ S).bind fun x S1 => if (lstOf S1 x).isSome then (evE Φ e Γ S1).bind fun y S2 => (appD a x [y] Γ S2).bind fun Γ1 S3 => .ok (.nx Γ1) S3 else .no)
  | .ext a e, Γ, S => noX ((evE Φ a Γ S).bind fun x S1 => if (lstOf S1 x).isSome then (evE Φ e Γ S1).bind fun y S2 => match lstOf S2 y with
    | some ds => (appD a x ds Γ S2).bind fun Γ1 S3 => .ok (.nx Γ1) S3
    | none => .no else .no)
  | .upd a e, Γ, S => noX ((evE Φ a Γ S).bind fun x S1 => if (dicOf S1 x).isSome then (evE Φ e Γ S1).bind fun y S2 => match objN S2 x, objN S2 y with
    | some (n, .dic m), some (n', .dic m') => if n ≠ n' ∧ (m.all fun p => keyT p.1 == false) ∧ (m'.all fun p => keyT p.1 == false) ∧ m.length + m'.length ≤ 1000000 then .ok (.nx Γ) (S2.set n (.dic (mergeD m m'))) else .no
    | _, _ => .no else .no)
  | .pop i a, Γ, S => noX ((evE Φ a Γ S).bind fun x S1 => (popD a x Γ S1).bind fun p S2 => .ok (.nx (p.2.set i (some (.pure p.1)))) S2)
  | .drop e, Γ, S => noX ((evE Φ e Γ S).bind fun _ S1 => .ok (.nx Γ) S1)
  | .ret e, Γ, S => noX ((evE Φ e Γ S).bind fun x S1 => .ok (.ret x) S1)
  | .retX e, Γ, S => (evX Φ e Γ S).bind fun x S1 => .ok (.ret x) S1
  | .asgX t e, Γ, S => (evX Φ e Γ S).bind fun x S1 => noX ((asgL Φ t x Γ S1).bind fun Γ1 S2 => .ok (.nx Γ1) S2)
  | .dropX e, Γ, S => (evX Φ e Γ S).bind fun _ S1 => .ok (.nx Γ) S1
  | .raise_ c e, Γ, S => match Φ.xn c with
    | some (f, t) => (noX (evE Φ e Γ S)).bind fun d S1 => if xOk t d then .ex ⟨c, [(f, d)]⟩ S1 else .no
    | none => .no
  | .tryX b nm h, Γ, S => match exSs Φ b Γ S with
    | .ok fl S1 => .ok fl S1
    | .ex x S1 => (match Φ.xs x.cls nm with
      | some true => exH Φ x S1 h
      | some false => .ex x S1
      | none => .no)
    | .no => .no
  | .retN, _, S => .ok (.ret .none) S
  | .ite c a b, Γ, S => (noX (evE Φ c Γ S)).bind fun x S1 => (truR S1 x).bind fun t S2 => if t then exSs Φ a Γ S2 else exSs Φ b Γ S2
  | .for_ t it body, Γ, S => (noX (evI Φ it Γ S)).bind fun its S1 => forLoop its.g (fun x Γ S => match asgT t x Γ with
    | some Γ' => exSs Φ body Γ' S
    | none => .no) its.xs Γ S1
  | .while_ c body, Γ, S => whileLoop (fun Γ S => noX ((evE Φ c Γ S).bind fun x S1 => truR S1 x)) (fun Γ S => exSs Φ body Γ S) FUEL Γ S
  | .brk, Γ, S => .ok (.brk Γ) S
  | .cont, Γ, S => .ok (.ct Γ) S
  | .pass, Γ, S => .ok (.nx Γ) S
  | .frz i, Γ, S => match Γ[i]? with
    | some (some (.own xs)) => .ok (.nx (Γ.set i (some (.pure (.list xs))))) S
    | _ => .ok (.nx Γ) S
noncomputable def exSs (Φ : Fns) : List CS → Env → Store → R Fl
  | [], Γ, S => .ok (.nx Γ) S
  | s :: ss, Γ, S => (exS Φ s Γ S).bind fun fl S1 => match fl with
    | .nx Γ1 => exSs Φ ss Γ1 S1
    | f => .ok f S1
end
noncomputable def runDef (Φ : Fns) (n ps : Nat) (body : List CS) : FnS := fun args S =>
  if args.length = ps then
    (exSs Φ body (args.map (fun d => some (.pure d)) ++ List.replicate (n - ps) none) S).bind fun fl S1 => match fl with
      | .ret d => .ok d S1
      | .nx _ => .ok .none S1
      | _ => .no
  else .no
def Fns.none_ : Fns := ⟨fun _ => none, fun _ _ => none, fun _ => none, fun _ _ => false, fun _ => none, fun _ _ => none⟩
def Fns.f (Φ : Fns) (x : Str) (F : FnS) : Fns := { Φ with fn := fun y => if y = x then some F else Φ.fn y }
def Fns.m (Φ : Fns) (c x : Str) (F : FnS) : Fns := { Φ with mt := fun d y => if d = c ∧ y = x then some F else Φ.mt d y }
def Fns.n (Φ : Fns) (c : Str) (F : FnS) : Fns := { Φ with nw := fun d => if d = c then some F else Φ.nw d }
def Fns.a (Φ : Fns) (c : Str) (fs : List Str) : Fns := { Φ with fl := fun d y => (decide (d = c) && fs.contains y) || Φ.fl d y }
def Fns.x (Φ : Fns) (c f : Str) (t : Bool) : Fns := { Φ with xn := fun d => if d = c then some (f, t) else Φ.xn d }
def Fns.s (Φ : Fns) (c d : Str) (b : Bool) : Fns := { Φ with xs := fun e f => if e = c ∧ f = d then some b else Φ.xs e f }
section
variable {Φ : Fns} {c d x y : Str} {F : FnS} {r : Option FnS} {fs : List Str} {b : Bool}
theorem Fns.hf : (Φ.f x F).fn x = some F := if_pos rfl
theorem Fns.hm : (Φ.m c x F).mt c x = some F := if_pos ⟨rfl, rfl⟩
theorem Fns.hn : (Φ.n c F).nw c = some F := if_pos rfl
theorem Fns.lff (h : y ≠ x) (e : Φ.fn y = r) : (Φ.f x F).fn y = r := (if_neg h).trans e
theorem Fns.lmm (h : ¬(d = c ∧ y = x)) (e : Φ.mt d y = r) : (Φ.m c x F).mt d y = r := (if_neg h).trans e
theorem Fns.lnn (h : d ≠ c) (e : Φ.nw d = r) : (Φ.n c F).nw d = r := (if_neg h).trans e
theorem Fns.lmf (e : Φ.fn y = r) : (Φ.m c x F).fn y = r := e
theorem Fns.lnf (e : Φ.fn y = r) : (Φ.n c F).fn y = r := e
theorem Fns.lfm (e : Φ.mt d y = r) : (Φ.f x F).mt d y = r := e
theorem Fns.lnm (e : Φ.mt d y = r) : (Φ.n c F).mt d y = r := e
theorem Fns.lfn (e : Φ.nw d = r) : (Φ.f x F).nw d = r := e
theorem Fns.lmn (e : Φ.nw d = r) : (Φ.m c x F).nw d = r := e
theorem Fns.lfa (e : Φ.fl d y = b) : (Φ.f x F).fl d y = b := e
theorem Fns.lma (e : Φ.fl d y = b) : (Φ.m c x F).fl d y = b := e
theorem Fns.lna (e : Φ.fl d y = b) : (Φ.n c F).fl d y = b := e
variable {o : Option (Str × Bool)} {ob : Option Bool}
theorem Fns.lfx (e : Φ.xn d = o) : (Φ.f x F).xn d = o := e
theorem Fns.lmx (e : Φ.xn d = o) : (Φ.m c x F).xn d = o := e
theorem Fns.lnx (e : Φ.xn d = o) : (Φ.n c F).xn d = o := e
theorem Fns.lfs (e : Φ.xs d y = ob) : (Φ.f x F).xs d y = ob := e
theorem Fns.lms (e : Φ.xs d y = ob) : (Φ.m c x F).xs d y = ob := e
theorem Fns.lns (e : Φ.xs d y = ob) : (Φ.n c F).xs d y = ob := e
end
theorem insI_mem {k : Int} : ∀ {xs : List Int} {j : Int}, j ∈ insI k xs ↔ j = k ∨ j ∈ xs
  | [], j => by simp [insI]
  | x :: xs, j => by
    unfold insI
    split
    · simp
    · split
      · rename_i h; subst h; simp
      · rw [List.mem_cons, insI_mem, List.mem_cons]
        constructor
        · rintro (h | h | h)
          · exact .inr (.inl h)
          · exact .inl h
          · exact .inr (.inr h)
        · rintro (h | h | h)
          · exact .inr (.inl h)
          · exact .inl h
          · exact .inr (.inr h)
theorem insI_asc {k : Int} : ∀ {xs : List Int}, xs.Pairwise (· < ·) → (insI k xs).Pairwise (· < ·)
  | [], _ => by simp [insI]
  | x :: xs, h => by
    rw [List.pairwise_cons] at h
    unfold insI
    split
    · rename_i hk
      refine List.pairwise_cons.mpr ⟨fun y hy => ?_, List.pairwise_cons.mpr h⟩
      rcases List.mem_cons.mp hy with e | e
      · omega
      · have := h.1 y e; omega
    · split
      · exact List.pairwise_cons.mpr h
      · refine List.pairwise_cons.mpr ⟨fun y hy => ?_, insI_asc h.2⟩
        rcases insI_mem.mp hy with e | e
        · omega
        · exact h.1 y e
theorem ssetI_mem {ns : List Int} {j : Int} : j ∈ ssetI ns ↔ j ∈ ns := by
  unfold ssetI
  induction ns with
  | nil => exact Iff.rfl
  | cons n ns ih => rw [List.foldr_cons, insI_mem, ih, List.mem_cons]
theorem ssetI_asc (ns : List Int) : (ssetI ns).Pairwise (· < ·) := by
  unfold ssetI
  induction ns with
  | nil => exact List.Pairwise.nil
  | cons n ns ih => exact insI_asc ih
theorem asc_eq : ∀ {xs ys : List Int}, xs.Pairwise (· < ·) → ys.Pairwise (· < ·) → (∀ k, k ∈ xs ↔ k ∈ ys) → xs = ys
  | [], [], _, _, _ => rfl
  | [], y :: ys, _, _, h => absurd ((h y).mpr List.mem_cons_self) (fun z => (nomatch z))
  | x :: xs, [], _, _, h => absurd ((h x).mp List.mem_cons_self) (fun z => (nomatch z))
  | x :: xs, y :: ys, hx, hy, h => by
    rw [List.pairwise_cons] at hx hy
    have e : x = y := by
      rcases List.mem_cons.mp ((h x).mp List.mem_cons_self) with e | e
      · exact e
      · rcases List.mem_cons.mp ((h y).mpr List.mem_cons_self) with e' | e'
        · exact e'.symm
        · have := hx.1 y e'
          have := hy.1 x e
          omega
    subst e
    congr 1
    refine asc_eq hx.2 hy.2 fun k => ⟨fun m => ?_, fun m => ?_⟩
    · rcases List.mem_cons.mp ((h k).mp (List.mem_cons_of_mem _ m)) with e | e
      · have := hx.1 k m; omega
      · exact e
    · rcases List.mem_cons.mp ((h k).mpr (List.mem_cons_of_mem _ m)) with e | e
      · have := hy.1 k m; omega
      · exact e
theorem insS_perm {k : Int} : ∀ {xs : List Int}, (insS k xs).Perm (k :: xs)
  | [] => List.Perm.refl _
  | x :: xs => by
    unfold insS
    split
    · exact List.Perm.refl _
    · exact (List.Perm.cons x insS_perm).trans (List.Perm.swap k x xs)
theorem insS_asc {k : Int} : ∀ {xs : List Int}, xs.Pairwise (· ≤ ·) → (insS k xs).Pairwise (· ≤ ·)
  | [], _ => by simp [insS]
  | x :: xs, h => by
    have h' := List.pairwise_cons.mp h
    unfold insS
    split
    · rename_i hk
      refine List.pairwise_cons.mpr ⟨fun y hy => ?_, h⟩
      rcases List.mem_cons.mp hy with e | e
      · omega
      · have := h'.1 y e; omega
    · refine List.pairwise_cons.mpr ⟨fun y hy => ?_, insS_asc h'.2⟩
      rcases List.mem_cons.mp (insS_perm.subset hy) with e | e
      · omega
      · exact h'.1 y e
theorem isortI_perm (ns : List Int) : (isortI ns).Perm ns := by
  unfold isortI
  induction ns with
  | nil => exact List.Perm.refl _
  | cons n ns ih => exact insS_perm.trans (List.Perm.cons n ih)
theorem isortI_asc (ns : List Int) : (isortI ns).Pairwise (· ≤ ·) := by
  unfold isortI
  induction ns with
  | nil => exact List.Pairwise.nil
  | cons n ns ih => exact insS_asc ih
theorem asc_perm : ∀ {xs ys : List Int}, xs.Pairwise (· ≤ ·) → ys.Pairwise (· ≤ ·) → xs.Perm ys → xs = ys
  | [], ys, _, _, h => (List.Perm.nil_eq h)
  | x :: xs, [], _, _, h => absurd h.length_eq (by simp)
  | x :: xs, y :: ys, hx, hy, h => by
    have hx' := List.pairwise_cons.mp hx
    have hy' := List.pairwise_cons.mp hy
    have e : x = y := by
      rcases List.mem_cons.mp (h.subset List.mem_cons_self) with e | e
      · exact e
      · rcases List.mem_cons.mp (h.symm.subset List.mem_cons_self) with e' | e'
        · exact e'.symm
        · have := hx'.1 y e'
          have := hy'.1 x e
          omega
    subst e
    congr 1
    exact asc_perm hx'.2 hy'.2 (List.Perm.cons_inv h)
end PL
set_option autoImplicit false
set_option linter.all false
namespace PL
open PySem L2
structure Wd where
  Hf : Hp
  A : List Addr
mutual
inductive Rep (K : PySem.W.Frag) (W : Wd) : V → D → Prop
  | non : Rep K W .non .none
  | bl (b : Bool) : Rep K W (.bl b) (.bool b)
  | int (i : Int) : Rep K W (.int i) (.int i)
  | str (s : Str) : Rep K W (.str s) (.str s)
  | tup {a : Addr} {vs : List V} {xs : List D} : W.Hf a = some (.tup vs) → RepL K W vs xs → Rep K W (.ref a) (.tuple xs)
  | lst {a : Addr} {vs : List V} {xs : List D} : W.Hf a = some (.lst vs) → RepL K W vs xs → Rep K W (.ref a) (.list xs)
  | ref {a : Addr} {kvs : List (D × D)} {n : Nat} : refN (.dict kvs) = some n → W.A[n]? = some a → Rep K W (.ref a) (.dict kvs)
  | scr {a : Addr} {vs : List V} {xs : List D} : SqL K W.Hf a vs → RepL K W vs xs → Rep K W (.ref a) (scr xs)
inductive RepL (K : PySem.W.Frag) (W : Wd) : List V → List D → Prop
  | nil : RepL K W [] []
  | cons {v : V} {vs : List V} {d : D} {ds : List D} : Rep K W v d → RepL K W vs ds → RepL K W (v :: vs) (d :: ds)
end
structure Gw (W W' : Wd) : Prop where
  hf : ∀ a o, W.Hf a = some o → W'.Hf a = some o
  a : ∀ (n : Nat) (x : Addr), W.A[n]? = some x → W'.A[n]? = some x
theorem Gw.refl (W : Wd) : Gw W W := ⟨fun _ _ h => h, fun _ _ h => h⟩
theorem Gw.trans {W W1 W2 : Wd} (x : Gw W W1) (y : Gw W1 W2) : Gw W W2 := ⟨fun a o h => y.hf a o (x.hf a o h), fun n a h => y.a n a (x.a n a h)⟩
theorem sqT_mono {K : PySem.W.Frag} {H H' : Hp} (h : ∀ a o, H a = some o → H' a = some o) {a : Addr} {vs : List V} (x : SqT K H a vs) : SqT K H' a vs := by
  rcases x with (x | ⟨o, x⟩) | x
  · exact .inl (.inl (h _ _ x))
  · exact .inl (.inr ⟨o, h _ _ x⟩)
  · exact .inr x
theorem sqL_mono {K : PySem.W.Frag} {H H' : Hp} (h : ∀ a o, H a = some o → H' a = some o) {a : Addr} {vs : List V} (x : SqL K H a vs) : SqL K H' a vs := by
  rcases x with (x | ⟨o, x⟩) | x
  · exact .inl (.inl (h _ _ x))
  · exact .inl (.inr ⟨o, h _ _ x⟩)
  · exact .inr x
section
variable {K : PySem.W.Frag} {W W' : Wd}
mutual
theorem Rep.mono (g : Gw W W') : ∀ {v : V} {d : D}, Rep K W v d → Rep K W' v d
  | _, _, .non => .non
  | _, _, .bl b => .bl b
  | _, _, .int i => .int i
  | _, _, .str s => .str s
  | _, _, .tup h r => .tup (g.hf _ _ h) (RepL.mono g r)
  | _, _, .lst h r => .lst (g.hf _ _ h) (RepL.mono g r)
  | _, _, .ref e h => .ref e (g.a _ _ h)
  | _, _, .scr h r => .scr (sqL_mono g.hf h) (RepL.mono g r)
theorem RepL.mono (g : Gw W W') : ∀ {vs : List V} {ds : List D}, RepL K W vs ds → RepL K W' vs ds
  | _, _, .nil => .nil
  | _, _, .cons h r => .cons (Rep.mono g h) (RepL.mono g r)
end
theorem RepL.length : ∀ {vs : List V} {ds : List D}, RepL K W vs ds → vs.length = ds.length
  | _, _, .nil => rfl
  | _, _, .cons _ r => by simp [RepL.length r]
theorem RepL.get : ∀ {vs : List V} {ds : List D} {i : Nat} {v : V}, RepL K W vs ds → vs[i]? = some v → ∃ d, ds[i]? = some d ∧ Rep K W v d
  | _, _, _, _, .nil, e => by simp at e
  | _, _, 0, _, .cons h _, e => by simp at e; subst e; exact ⟨_, rfl, h⟩
  | _, _, i + 1, v, .cons _ r, e => by
    obtain ⟨d, h1, h2⟩ := RepL.get (i := i) (v := v) r (by simpa using e)
    exact ⟨d, by simpa using h1, h2⟩
theorem RepL.get' : ∀ {vs : List V} {ds : List D} {i : Nat} {d : D}, RepL K W vs ds → ds[i]? = some d → ∃ v, vs[i]? = some v ∧ Rep K W v d
  | _, _, _, _, .nil, e => by simp at e
  | _, _, 0, _, .cons h _, e => by simp at e; subst e; exact ⟨_, rfl, h⟩
  | _, _, i + 1, d, .cons _ r, e => by
    obtain ⟨v, h1, h2⟩ := RepL.get' (i := i) (d := d) r (by simpa using e)
    exact ⟨v, by simpa using h1, h2⟩
theorem RepL.append : ∀ {vs ws : List V} {ds es : List D}, RepL K W vs ds → RepL K W ws es → RepL K W (vs ++ ws) (ds ++ es)
  | _, _, _, _, .nil, s => s
  | _, _, _, _, .cons h r, s => .cons h (RepL.append r s)
theorem RepL.set {v : V} {d : D} (h : Rep K W v d) : ∀ {vs : List V} {ds : List D} (i : Nat), RepL K W vs ds → RepL K W (vs.set i v) (ds.set i d)
  | _, _, _, .nil => .nil
  | _, _, 0, .cons _ r => .cons h r
  | _, _, i + 1, .cons q r => .cons q (RepL.set h i r)
theorem RepL.take : ∀ {vs : List V} {ds : List D} (n : Nat), RepL K W vs ds → RepL K W (vs.take n) (ds.take n)
  | _, _, 0, _ => .nil
  | _, _, _ + 1, .nil => .nil
  | _, _, n + 1, .cons h r => .cons h (RepL.take n r)
theorem RepL.drop : ∀ {vs : List V} {ds : List D} (n : Nat), RepL K W vs ds → RepL K W (vs.drop n) (ds.drop n)
  | _, _, 0, r => r
  | _, _, _ + 1, .nil => .nil
  | _, _, n + 1, .cons _ r => RepL.drop n r
theorem RepL.reverse {vs : List V} {ds : List D} (h : RepL K W vs ds) : RepL K W vs.reverse ds.reverse := by
  induction vs generalizing ds with
  | nil => cases h; exact .nil
  | cons v vs ih =>
    cases h with
    | cons h r =>
      rw [List.reverse_cons, List.reverse_cons]
      exact (ih r).append (.cons h .nil)
theorem RepL.rep {vs : List V} {ds : List D} (h : RepL K W vs ds) : ∀ k : Nat, RepL K W (List.replicate k vs).flatten (List.replicate k ds).flatten
  | 0 => .nil
  | k + 1 => by
    rw [List.replicate_succ, List.replicate_succ, List.flatten_cons, List.flatten_cons]
    exact h.append (RepL.rep h k)
theorem RepL.dropLast {vs : List V} {ds : List D} (h : RepL K W vs ds) : RepL K W vs.dropLast ds.dropLast := by
  rw [List.dropLast_eq_take, List.dropLast_eq_take, h.length]
  exact h.take _
theorem RepL.ints (ns : List Int) : RepL K W (ns.map V.int) (ns.map PyData.int) := by
  induction ns with
  | nil => exact .nil
  | cons n ns ih => exact .cons (.int n) ih
theorem RepL.of_ints {ns : List Int} : ∀ {ds : List D} {vs : List V}, RepL K W vs ds → intsD ds = some ns → vs = ns.map V.int := by
  intro ds
  induction ds generalizing ns with
  | nil =>
    intro vs h e
    cases h
    have e' : some [] = some ns := e
    cases e'
    rfl
  | cons d ds ih =>
    intro vs h e
    cases h with
    | cons h r =>
      cases d with
      | int i =>
        cases h
        simp only [intsD, Option.map_eq_some_iff] at e
        obtain ⟨ms, e1, rfl⟩ := e
        rw [ih r e1]
        rfl
      | _ => simp [intsD] at e
theorem RepL.of_bools {ns : List Bool} : ∀ {ds : List D} {vs : List V}, RepL K W vs ds → boolsD ds = some ns → vs = ns.map V.bl := by
  intro ds
  induction ds generalizing ns with
  | nil =>
    intro vs h e
    cases h
    have e' : some [] = some ns := e
    cases e'
    rfl
  | cons d ds ih =>
    intro vs h e
    cases h with
    | cons h r =>
      cases d with
      | bool i =>
        cases h
        simp only [boolsD, Option.map_eq_some_iff] at e
        obtain ⟨ms, e1, rfl⟩ := e
        rw [ih r e1]
        rfl
      | _ => simp [boolsD] at e
theorem RepL.of_strs {ns : List Str} : ∀ {ds : List D} {vs : List V}, RepL K W vs ds → strsD ds = some ns → vs = ns.map V.str := by
  intro ds
  induction ds generalizing ns with
  | nil =>
    intro vs h e
    cases h
    have e' : some [] = some ns := e
    cases e'
    rfl
  | cons d ds ih =>
    intro vs h e
    cases h with
    | cons h r =>
      cases d with
      | str i =>
        cases h
        simp only [strsD, Option.map_eq_some_iff] at e
        obtain ⟨ms, e1, rfl⟩ := e
        rw [ih r e1]
        rfl
      | _ => simp [strsD] at e
def kD : Key → D
  | .inl i => .int i
  | .inr s => .str s
def kT (ks : List Key) : D := .tuple (ks.map kD)
inductive DRep {κ : Type} (K : PySem.W.Frag) (W : Wd) (kd : κ → D) : List (κ × V) → List (D × D) → Prop
  | nil : DRep K W kd [] []
  | cons {k : κ} {v : V} {d : D} {r : List (κ × V)} {s : List (D × D)} : Rep K W v d → DRep K W kd r s → DRep K W kd ((k, v) :: r) ((kd k, d) :: s)
inductive FRep (K : PySem.W.Frag) (W : Wd) : List (Str × V) → List (Str × D) → Prop
  | nil : FRep K W [] []
  | cons {f : Str} {v : V} {d : D} {r : List (Str × V)} {s : List (Str × D)} : Rep K W v d → FRep K W r s → FRep K W ((f, v) :: r) ((f, d) :: s)
theorem DRep.mono {κ : Type} {kd : κ → D} {r : List (κ × V)} {s : List (D × D)} (g : Gw W W') (h : DRep K W kd r s) : DRep K W' kd r s := by
  induction h with
  | nil => exact .nil
  | cons h _ ih => exact .cons (h.mono g) ih
theorem FRep.mono {r : List (Str × V)} {s : List (Str × D)} (g : Gw W W') (h : FRep K W r s) : FRep K W' r s := by
  induction h with
  | nil => exact .nil
  | cons h _ ih => exact .cons (h.mono g) ih
theorem FRep.length {r : List (Str × V)} {s : List (Str × D)} (h : FRep K W r s) : r.length = s.length := by
  induction h with
  | nil => rfl
  | cons _ _ ih => simp [ih]
theorem FRep.look {r : List (Str × V)} {s : List (Str × D)} (h : FRep K W r s) (f : Str) : match ffind s f with
    | some d => ∃ v, r.lookup f = some v ∧ Rep K W v d
    | none => r.lookup f = none := by
  induction h with
  | nil => rfl
  | @cons g v d r s h _ ih =>
    unfold ffind at ih ⊢
    rw [List.lookup_cons, List.lookup_cons]
    cases e : f == g with
    | true => exact ⟨v, rfl, h⟩
    | false => exact ih
theorem FRep.put {r : List (Str × V)} {s : List (Str × D)} (h : FRep K W r s) (f : Str) {v : V} {d : D} (hv : Rep K W v d) : FRep K W (putF f v r) (fput f d s) := by
  induction h with
  | nil => exact .cons hv .nil
  | @cons g v' d' r s h hr ih =>
    unfold putF fput
    by_cases e : g = f
    · subst e
      rw [if_pos rfl, if_pos rfl]
      exact .cons hv hr
    · rw [if_neg e, if_neg e]
      exact .cons h ih
def SoRep (K : PySem.W.Frag) (Cn : Str → Option Addr) (W : Wd) (H : Hp) (a : Addr) : SO → Prop
  | .lst xs => ∃ vs, H a = some (.lst vs) ∧ RepL K W vs xs
  | .dic m => (∃ kvs, H a = some (.dK kvs) ∧ DRep K W kD kvs m) ∨ ∃ kvs, H a = some (.dT kvs) ∧ DRep K W kT kvs m
  | .ins c fs => ∃ C dx fs', Cn c = some C ∧ H a = some (.ins C dx fs') ∧ FRep K W fs' fs
  | .loc m => ∃ od u, H a = some (.frz od u) ∧ ((∃ kvs, u = .dK kvs ∧ DRep K W kD kvs m) ∨ ∃ kvs, u = .dT kvs ∧ DRep K W kT kvs m)
structure Gr (W : Wd) (H : Hp) (W' : Wd) (H' : Hp) : Prop where
  gw : Gw W W'
  new : ∀ a o, W'.Hf a = some o → W.Hf a = some o ∨ H a = none
  newA : ∀ a, a ∈ W'.A → a ∈ W.A ∨ H a = none
  keep : ∀ a o, H a = some o → a ∉ W.A → H' a = some o
  dom : ∀ a, H' a = none → H a = none
  frz : ∀ a o u, H a = some (.frz o u) → H' a = some (.frz o u)
structure StOk (K : PySem.W.Frag) (Cn : Str → Option Addr) (W : Wd) (S : Store) (H : Hp) : Prop where
  sub : ∀ a o, W.Hf a = some o → H a = some o
  len : W.A.length = S.length
  nd : W.A.Nodup
  off : ∀ a, a ∈ W.A → W.Hf a = none
  obj : ∀ (n : Nat) (a : Addr) (o : SO), W.A[n]? = some a → S[n]? = some o → SoRep K Cn W H a o
structure EnvOk (K : PySem.W.Frag) (Hb : Hp) (W : Wd) (Γ : Env) (σ : L2.St) (H : Hp) : Prop where
  len : Γ.length = σ.length
  pure : ∀ (i : Nat) (d : D), Γ[i]? = some (some (.pure d)) → ∃ v, σ[i]? = some (some v) ∧ Rep K W v d
  own : ∀ (i : Nat) (xs : List D), Γ[i]? = some (some (.own xs)) → ∃ (l : Addr) (vs : List V), σ[i]? = some (some (.ref l)) ∧ W.Hf l = none ∧ l ∉ W.A ∧ Hb l = none ∧ H l = some (.lst vs) ∧ RepL K W vs xs
  ne : ∀ (i j : Nat) (xs ys : List D) (l : Addr), Γ[i]? = some (some (.own xs)) → Γ[j]? = some (some (.own ys)) → σ[i]? = some (some (.ref l)) → σ[j]? = some (some (.ref l)) → i = j
end
theorem Gr.refl (W : Wd) (H : Hp) : Gr W H W H := ⟨Gw.refl W, fun _ _ h => .inl h, fun _ h => .inl h, fun _ _ h _ => h, fun _ h => h, fun _ _ _ h => h⟩
theorem some_ne {H : Hp} {a : Addr} {o : HO} (h : H a = some o) (n : H a = none) : False := by rw [h] at n; cases n
theorem Gr.trans {W W1 W2 : Wd} {H H1 H2 : Hp} (x : Gr W H W1 H1) (y : Gr W1 H1 W2 H2) : Gr W H W2 H2 where
  gw := x.gw.trans y.gw
  new := fun a o h => by
    rcases y.new a o h with h | h
    · exact x.new a o h
    · exact .inr (x.dom a h)
  newA := fun a h => by
    rcases y.newA a h with h | h
    · exact x.newA a h
    · exact .inr (x.dom a h)
  keep := fun a o h n => y.keep a o (x.keep a o h n) fun m => by
    rcases x.newA a m with m | m
    · exact n m
    · exact some_ne h m
  dom := fun a h => x.dom a (y.dom a h)
  frz := fun a o u h => y.frz a o u (x.frz a o u h)
section
variable {K : PySem.W.Frag} {Cn : Str → Option Addr} {W W' : Wd} {S : Store} {H H' Hb : Hp} {Γ : Env} {σ : L2.St}
theorem StOk.dom (s : StOk K Cn W S H) {a : Addr} (h : a ∈ W.A) : ∃ o, H a = some o ∧ True := by
  obtain ⟨n, hn⟩ := List.getElem?_of_mem h
  have hl : n < S.length := by rw [← s.len]; exact (List.getElem?_eq_some_iff.mp hn).1
  have e : S[n]? = some S[n] := List.getElem?_eq_getElem hl
  have q := s.obj n a _ hn e
  cases hs : S[n] with
  | lst xs => rw [hs] at q; obtain ⟨vs, q, _⟩ := q; exact ⟨_, q, trivial⟩
  | dic m =>
    rw [hs] at q
    rcases q with ⟨kvs, q, _⟩ | ⟨kvs, q, _⟩
    · exact ⟨_, q, trivial⟩
    · exact ⟨_, q, trivial⟩
  | ins c fs => rw [hs] at q; obtain ⟨_, _, _, _, q, _⟩ := q; exact ⟨_, q, trivial⟩
  | loc m => rw [hs] at q; obtain ⟨_, _, q, _⟩ := q; exact ⟨_, q, trivial⟩
theorem EnvOk.mono (g : Gr W H W' H') (e : EnvOk K Hb W Γ σ H) : EnvOk K Hb W' Γ σ H' where
  len := e.len
  pure := fun i d h => by
    obtain ⟨v, h1, h2⟩ := e.pure i d h
    exact ⟨v, h1, h2.mono g.gw⟩
  own := fun i xs h => by
    obtain ⟨l, vs, h1, h2, h3, h4, h5, h6⟩ := e.own i xs h
    refine ⟨l, vs, h1, ?_, fun m => ?_, h4, g.keep l _ h5 h3, h6.mono g.gw⟩
    · cases q : W'.Hf l with
      | none => rfl
      | some o =>
        rcases g.new l o q with r | r
        · rw [h2] at r; cases r
        · exact (some_ne h5 r).elim
    · rcases g.newA l m with r | r
      · exact h3 r
      · exact some_ne h5 r
  ne := e.ne
theorem Gr.made {p : Addr} {o : HO} (hp : H p = none) : Gr W H W (upd H p o) where
  gw := Gw.refl W
  new := fun _ _ h => .inl h
  newA := fun _ h => .inl h
  keep := fun a u h _ => by rw [upd_ne (ne_of_none h hp)]; exact h
  dom := fun a h => by
    by_cases e : a = p
    · subst e; exact hp
    · rw [upd_ne e] at h; exact h
  frz := fun a u v h => by rw [upd_ne (ne_of_none h hp)]; exact h
abbrev Wd.fz (W : Wd) (p : Addr) (o : HO) : Wd := { W with Hf := upd W.Hf p o }
theorem Gr.fz {p : Addr} {o : HO} (hp : H p = none) (s : StOk K Cn W S H) : Gr W H (W.fz p o) (upd H p o) where
  gw := ⟨fun a u h => by
    have n : a ≠ p := fun e => by subst e; exact some_ne (s.sub _ _ h) hp
    show upd W.Hf p o a = some u
    rw [upd_ne n]; exact h, fun _ _ h => h⟩
  new := fun a u h => by
    by_cases e : a = p
    · subst e; exact .inr hp
    · have h' : upd W.Hf p o a = some u := h
      rw [upd_ne e] at h'; exact .inl h'
  newA := fun _ h => .inl h
  keep := (Gr.made (W := W) hp).keep
  dom := (Gr.made (W := W) hp).dom
  frz := (Gr.made (W := W) hp).frz
theorem SoRep.keep {a : Addr} {o : SO} (g : Gw W W') (k : ∀ u, H a = some u → H' a = some u) (h : SoRep K Cn W H a o) : SoRep K Cn W' H' a o := by
  cases o with
  | lst xs => obtain ⟨vs, h1, h2⟩ := h; exact ⟨vs, k _ h1, h2.mono g⟩
  | dic m =>
    rcases h with ⟨kvs, h1, h2⟩ | ⟨kvs, h1, h2⟩
    · exact .inl ⟨kvs, k _ h1, h2.mono g⟩
    · exact .inr ⟨kvs, k _ h1, h2.mono g⟩
  | ins c fs =>
    obtain ⟨C, dx, fs', h0, h1, h2⟩ := h
    exact ⟨C, dx, fs', h0, k _ h1, h2.mono g⟩
  | loc m =>
    obtain ⟨od, u, h1, h2⟩ := h
    refine ⟨od, u, k _ h1, ?_⟩
    rcases h2 with ⟨kvs, e, h2⟩ | ⟨kvs, e, h2⟩
    · exact .inl ⟨kvs, e, h2.mono g⟩
    · exact .inr ⟨kvs, e, h2.mono g⟩
theorem StOk.made {p : Addr} {o : HO} (hp : H p = none) (s : StOk K Cn W S H) : StOk K Cn W S (upd H p o) where
  sub := fun a u h => by rw [upd_ne (ne_of_none (s.sub a u h) hp)]; exact s.sub a u h
  len := s.len
  nd := s.nd
  off := s.off
  obj := fun n a u h1 h2 => (s.obj n a u h1 h2).keep (Gw.refl W) fun v q => by rw [upd_ne (ne_of_none q hp)]; exact q
theorem StOk.fz {p : Addr} {o : HO} (hp : H p = none) (s : StOk K Cn W S H) : StOk K Cn (W.fz p o) S (upd H p o) where
  sub := fun a u h => by
    by_cases e : a = p
    · subst e
      have h' : upd W.Hf a o a = some u := h
      rw [upd_same] at h' ⊢; exact h'
    · have h' : upd W.Hf p o a = some u := h
      rw [upd_ne e] at h' ⊢; exact s.sub a u h'
  len := s.len
  nd := s.nd
  off := fun a h => by
    obtain ⟨u, hu, _⟩ := s.dom h
    show upd W.Hf p o a = none
    rw [upd_ne (ne_of_none hu hp)]; exact s.off a h
  obj := fun n a u h1 h2 => (s.obj n a u h1 h2).keep (Gr.fz hp s).gw fun v q => by rw [upd_ne (ne_of_none q hp)]; exact q
theorem Gw.fz' {p : Addr} {o : HO} (hf : W.Hf p = none) : Gw W (W.fz p o) := ⟨fun a u h => by
  show upd W.Hf p o a = some u
  rw [upd_ne (fun e => by subst e; rw [hf] at h; cases h)]; exact h, fun _ _ h => h⟩
theorem StOk.fz' {p : Addr} {o : HO} (hp : H p = some o) (hn : p ∉ W.A) (s : StOk K Cn W S H) (hf : W.Hf p = none) : StOk K Cn (W.fz p o) S H where
  sub := fun a u h => by
    by_cases e : a = p
    · subst e
      have h' : upd W.Hf a o a = some u := h
      rw [upd_same] at h'; rw [hp]; exact h'
    · have h' : upd W.Hf p o a = some u := h
      rw [upd_ne e] at h'; exact s.sub a u h'
  len := s.len
  nd := s.nd
  off := fun a h => by
    show upd W.Hf p o a = none
    rw [upd_ne (fun e => by subst e; exact hn h)]; exact s.off a h
  obj := fun n a u h1 h2 => (s.obj n a u h1 h2).keep (Gw.fz' hf) fun v q => q
abbrev Wd.al (W : Wd) (p : Addr) : Wd := { W with A := W.A ++ [p] }
theorem Gw.al (W : Wd) (p : Addr) : Gw W (W.al p) := ⟨fun _ _ h => h, fun n x h => by
  show (W.A ++ [p])[n]? = some x
  rw [List.getElem?_append_left (List.getElem?_eq_some_iff.mp h).1]; exact h⟩
theorem Gr.al {p : Addr} {o : HO} (hp : H p = none) : Gr W H (W.al p) (upd H p o) where
  gw := Gw.al W p
  new := fun _ _ h => .inl h
  newA := fun a h => by
    have h' : a ∈ W.A ++ [p] := h
    rcases List.mem_append.mp h' with h' | h'
    · exact .inl h'
    · have e : a = p := by simpa using h'
      subst e; exact .inr hp
  keep := (Gr.made (W := W) hp).keep
  dom := (Gr.made (W := W) hp).dom
  frz := (Gr.made (W := W) hp).frz
theorem StOk.al {p : Addr} {o : HO} {so : SO} (hp : H p = none) (s : StOk K Cn W S H) (r : SoRep K Cn (W.al p) (upd H p o) p so) : StOk K Cn (W.al p) (S ++ [so]) (upd H p o) where
  sub := (s.made hp).sub
  len := by
    show (W.A ++ [p]).length = _
    rw [List.length_append, List.length_append, s.len]; rfl
  nd := by
    show (W.A ++ [p]).Nodup
    rw [List.nodup_append]
    refine ⟨s.nd, by simp, fun a ha b hb => ?_⟩
    have e : b = p := by simpa using hb
    subst e
    obtain ⟨u, hu, _⟩ := s.dom ha
    exact ne_of_none hu hp
  off := fun a h => by
    have h' : a ∈ W.A ++ [p] := h
    rcases List.mem_append.mp h' with h' | h'
    · exact s.off a h'
    · have e : a = p := by simpa using h'
      subst e
      cases q : W.Hf a with
      | none => rfl
      | some u => exact (some_ne (s.sub a u q) hp).elim
  obj := fun n a u h1 h2 => by
    have h1' : (W.A ++ [p])[n]? = some a := h1
    by_cases hn : n < W.A.length
    · rw [List.getElem?_append_left hn] at h1'
      rw [List.getElem?_append_left (by rw [← s.len]; exact hn)] at h2
      exact (s.obj n a u h1' h2).keep (Gw.al W p) fun v q => by rw [upd_ne (ne_of_none q hp)]; exact q
    · have hn' : n = W.A.length := by
        have := (List.getElem?_eq_some_iff.mp h1').1
        rw [List.length_append] at this
        simp at this
        omega
      subst hn'
      rw [List.getElem?_append_right (Nat.le_refl _)] at h1'
      rw [List.getElem?_append_right (by rw [s.len]; exact Nat.le_refl _), s.len] at h2
      simp at h1' h2
      subst h1' h2
      exact r
theorem Gr.put {n : Nat} {p : Addr} {o u : HO} (s : StOk K Cn W S H) (hn : W.A[n]? = some p) (hp : H p = some u) (hf : ∀ x y, u ≠ .frz x y) : Gr W H W (upd H p o) where
  gw := Gw.refl W
  new := fun _ _ h => .inl h
  newA := fun _ h => .inl h
  keep := fun a v h m => by rw [upd_ne (fun e => by subst e; exact m (List.mem_of_getElem? hn))]; exact h
  dom := fun a h => by
    by_cases e : a = p
    · subst e; rw [upd_same] at h; cases h
    · rw [upd_ne e] at h; exact h
  frz := fun a x y h => by
    rw [upd_ne (fun e => by subst e; rw [hp] at h; exact hf x y (Option.some.inj h))]; exact h
theorem StOk.put {n : Nat} {p : Addr} {o : HO} {so : SO} (s : StOk K Cn W S H) (hn : W.A[n]? = some p) (r : SoRep K Cn W (upd H p o) p so) : StOk K Cn W (S.set n so) (upd H p o) where
  sub := fun a u h => by
    rw [upd_ne (fun e => by
      subst e
      rw [s.off a (List.mem_of_getElem? hn)] at h; cases h)]
    exact s.sub a u h
  len := by rw [List.length_set]; exact s.len
  nd := s.nd
  off := s.off
  obj := fun m a u h1 h2 => by
    by_cases e : n = m
    · subst e
      rw [List.getElem?_set_self (by rw [← s.len]; exact (List.getElem?_eq_some_iff.mp hn).1)] at h2
      rw [hn] at h1
      cases h1; cases h2
      exact r
    · rw [List.getElem?_set_ne e] at h2
      have ne : a ≠ p := fun q => by
        subst q
        exact e (by
          obtain ⟨l1, e1⟩ := List.getElem?_eq_some_iff.mp hn
          obtain ⟨l2, e2⟩ := List.getElem?_eq_some_iff.mp h1
          exact (List.getElem_inj s.nd).mp (e1.trans e2.symm))
      exact (s.obj m a u h1 h2).keep (Gw.refl W) fun v q => by rw [upd_ne ne]; exact q
theorem Rep.at (s : StOk K Cn W S H) {d : D} {n : Nat} {o : SO} (h : objN S d = some (n, o)) {v : V} (r : Rep K W v d) : ∃ a, v = .ref a ∧ W.A[n]? = some a ∧ SoRep K Cn W H a o := by
  unfold objN at h
  rw [Option.bind_eq_some_iff] at h
  obtain ⟨m, h1, h2⟩ := h
  rw [Option.map_eq_some_iff] at h2
  obtain ⟨o', h2, e⟩ := h2
  cases e
  cases r with
  | @ref a kvs m' e1 h3 =>
    rw [h1] at e1
    cases e1
    exact ⟨a, rfl, h3, s.obj _ _ _ h3 h2⟩
  | scr => cases h1
  | _ => cases h1
end
end PL
set_option autoImplicit false
set_option linter.all false
set_option maxRecDepth 100000
set_option Elab.async false
namespace PL
open PySem PySem.Spec PyProof.Rows L2
theorem line_le {n : Nat} (h : n ≤ 1000000) : n ≤ sizeLine := Nat.le_trans h (by rw [sizeLine_eq]; decide)
theorem line_lt {n : Nat} (h : n < 1000000) : n < sizeLine := Nat.lt_of_lt_of_le h (by rw [sizeLine_eq]; decide)
def BRep (K : PySem.W.Frag) (W : Wd) (H : Hp) (v : V) (d : D) : Prop :=
  Rep K W v d ∨ ∃ (l : Addr) (vs : List V) (xs : List D), d = .list xs ∧ v = .ref l ∧ l ∉ W.A ∧ H l = some (.lst vs) ∧ RepL K W vs xs
def Out (K : PySem.W.Frag) (Cn : Str → Option Addr) (W : Wd) (H : Hp) (S : Store) (d : D) (Q : VK) : Prop :=
  match d with
  | .list xs => ∀ (l : Addr) (vs : List V) (W' : Wd) (H' : Hp), Gr W H W' H' → StOk K Cn W' S H' → H l = none → W'.Hf l = none → l ∉ W'.A → H' l = some (.lst vs) → RepL K W' vs xs → Q (.ref l) H'
  | d => ∀ (v : V) (W' : Wd) (H' : Hp), Gr W H W' H' → StOk K Cn W' S H' → Rep K W' v d → Q v H'
def Res (K : PySem.W.Frag) (Cn : Str → Option Addr) (W : Wd) (H : Hp) (S : Store) (d : D) (Q : VK) : Prop :=
  ∀ (v : V) (W' : Wd) (H' : Hp), Gr W H W' H' → StOk K Cn W' S H' → Rep K W' v d → Q v H'
section
variable {K : PySem.W.Frag} {Cn : Str → Option Addr} {W W1 W' : Wd} {S : Store} {H H1 H' : Hp} {v : V} {d : D} {Q : VK}
theorem Res.out (k : Res K Cn W H S d Q) : Out K Cn W H S d Q := by
  unfold Out
  split
  · rename_i xs
    intro l vs W' H' g s hl hf ha hv r
    refine k (.ref l) (W'.fz l (.lst vs)) H' ⟨g.gw.trans (Gw.fz' hf), fun a o h => ?_, g.newA, g.keep, g.dom, g.frz⟩ (s.fz' hv ha hf) (.lst (by show upd W'.Hf l _ l = _; rw [upd_same]) (r.mono (Gw.fz' hf)))
    by_cases e : a = l
    · subst e; exact .inr hl
    · have h' : upd W'.Hf l (.lst vs) a = some o := h
      rw [upd_ne e] at h'
      exact g.new a o h'
  · exact k
theorem Out.shift (g : Gr W H W1 H1) (p : Out K Cn W H S d Q) : Out K Cn W1 H1 S d Q := by
  unfold Out at p ⊢
  split at p
  · intro l vs W' H' g2 s hl hf ha hv r
    exact p l vs W' H' (g.trans g2) s (g.dom l hl) hf ha hv r
  · exact fun v W' H' g2 s r => p v W' H' (g.trans g2) s r
theorem Res.shift (g : Gr W H W1 H1) (p : Res K Cn W H S d Q) : Res K Cn W1 H1 S d Q := fun v W' H' g2 s r => p v W' H' (g.trans g2) s r
theorem Out.lst {xs : List D} {vs : List V} {p : Addr} (p0 : Out K Cn W H S (.list xs) Q) (s : StOk K Cn W S H) (hp : H p = none) (r : RepL K W vs xs) : Q (.ref p) (upd H p (.lst vs)) := by
  have hf : W.Hf p = none := by
    cases q : W.Hf p with
    | none => rfl
    | some u => exact (some_ne (s.sub p u q) hp).elim
  exact p0 p vs W _ (Gr.made hp) (s.made hp) hp hf (fun m => by obtain ⟨u, hu, _⟩ := s.dom m; exact some_ne hu hp) upd_same r
theorem Out.tup {xs : List D} {vs : List V} {p : Addr} (p0 : Out K Cn W H S (.tuple xs) Q) (s : StOk K Cn W S H) (hp : H p = none) (r : RepL K W vs xs) : Q (.ref p) (upd H p (.tup vs)) :=
  p0 (.ref p) (W.fz p (.tup vs)) _ (Gr.fz hp s) (s.fz hp) (.tup (by show upd W.Hf p _ p = _; rw [upd_same]) (r.mono (Gr.fz hp s).gw))
theorem Out.flat (p0 : Out K Cn W H S d Q) (s : StOk K Cn W S H) (r : Rep K W v d) (h : ∀ xs, d ≠ .list xs) : Q v H := by
  unfold Out at p0
  split at p0
  · rename_i xs
    exact (h xs rfl).elim
  · exact p0 v W H (Gr.refl W H) s r
theorem BRep.mono (g : Gr W H W' H') (b : BRep K W H v d) : BRep K W' H' v d := by
  rcases b with b | ⟨l, vs, xs, e1, e2, n, h, r⟩
  · exact .inl (b.mono g.gw)
  · refine .inr ⟨l, vs, xs, e1, e2, fun m => ?_, g.keep l _ h n, r.mono g.gw⟩
    rcases g.newA l m with q | q
    · exact n q
    · exact some_ne h q
theorem BRep.rep (b : BRep K W H v d) (h : ∀ xs, d ≠ .list xs) : Rep K W v d := by
  rcases b with b | ⟨l, vs, xs, e1, _⟩
  · exact b
  · exact (h xs e1).elim
theorem BRep.int {i : Int} (b : BRep K W H v (.int i)) : v = .int i := by
  have r := b.rep (fun _ => by intro h; cases h)
  cases r; rfl
theorem BRep.str {i : Str} (b : BRep K W H v (.str i)) : v = .str i := by
  have r := b.rep (fun _ => by intro h; cases h)
  cases r; rfl
theorem BRep.bool {i : Bool} (b : BRep K W H v (.bool i)) : v = .bl i := by
  have r := b.rep (fun _ => by intro h; cases h)
  cases r; rfl
theorem BRep.none (b : BRep K W H v .none) : v = .non := by
  have r := b.rep (fun _ => by intro h; cases h)
  cases r; rfl
theorem BRep.tup {xs : List D} (s : StOk K Cn W S H) (b : BRep K W H v (.tuple xs)) : ∃ a vs, v = .ref a ∧ SqT K H a vs ∧ RepL K W vs xs := by
  have r := b.rep (fun _ => by intro h; cases h)
  cases r with
  | tup h r => exact ⟨_, _, rfl, SqT.of (s.sub _ _ h), r⟩
theorem BRep.tup1 {xs : List D} (s : StOk K Cn W S H) (b : BRep K W H v (.tuple xs)) : ∃ a vs, v = .ref a ∧ H a = some (.tup vs) ∧ RepL K W vs xs := by
  have r := b.rep (fun _ => by intro h; cases h)
  cases r with
  | tup h r => exact ⟨_, _, rfl, s.sub _ _ h, r⟩
theorem BRep.lst {xs : List D} (s : StOk K Cn W S H) (b : BRep K W H v (.list xs)) : ∃ a vs, v = .ref a ∧ H a = some (.lst vs) ∧ RepL K W vs xs := by
  rcases b with b | ⟨l, vs, ys, e1, e2, n, h, r⟩
  · cases b with
    | lst h r => exact ⟨_, _, rfl, s.sub _ _ h, r⟩
  · cases e1
    exact ⟨l, vs, e2, h, r⟩
theorem lstOf_rep {xs : List D} (s : StOk K Cn W S H) (b : BRep K W H v d) (e : lstOf S d = some xs) : ∃ a vs, v = .ref a ∧ H a = some (.lst vs) ∧ RepL K W vs xs := by
  unfold lstOf at e
  split at e
  · cases e
    exact b.lst s
  · rename_i d hd
    split at e
    · rename_i n ys hn
      cases e
      obtain ⟨a, e1, _, q⟩ := Rep.at s hn (b.rep hd)
      obtain ⟨vs, h1, h2⟩ := q
      exact ⟨a, vs, e1, h1, h2⟩
    · cases e
theorem scr_rep {xs : List D} (s : StOk K Cn W S H) (b : BRep K W H v (scr xs)) : ∃ a vs, v = .ref a ∧ SqL K H a vs ∧ RepL K W vs xs := by
  have r := b.rep (fun _ => by intro h; cases h)
  generalize hd : scr xs = d at r
  cases r with
  | scr h r =>
    simp only [scr, PyData.dict.injEq, List.cons.injEq, Prod.mk.injEq, PyData.list.injEq, and_true, true_and] at hd
    subst hd
    exact ⟨_, _, rfl, sqL_mono s.sub h, r⟩
  | ref e h =>
    rw [← hd] at e
    cases e
  | _ => cases hd
theorem seqOf_rep {xs : List D} (s : StOk K Cn W S H) (b : BRep K W H v d) (e : seqOf S d = some xs) : ∃ a vs, v = .ref a ∧ (SqL K H a vs ∨ SqT K H a vs) ∧ RepL K W vs xs := by
  unfold seqOf at e
  split at e
  · cases e
    obtain ⟨a, vs, h1, h2, h3⟩ := b.tup s
    exact ⟨a, vs, h1, .inr h2, h3⟩
  · cases e
    obtain ⟨a, vs, h1, h2, h3⟩ := scr_rep s b
    exact ⟨a, vs, h1, .inl h2, h3⟩
  · obtain ⟨a, vs, h1, h2, h3⟩ := lstOf_rep s b e
    exact ⟨a, vs, h1, .inl (SqL.of h2), h3⟩
end
mutual
theorem Rep.dp {K : PySem.W.Frag} {W : Wd} {H : Hp} (sub : ∀ a o, W.Hf a = some o → H a = some o) : ∀ {v : V} {d : D}, Rep K W v d → d.canLay0 = true → Dp K H v d
  | _, _, .non, _ => .non
  | _, _, .bl b, _ => .bl b
  | _, _, .int i, _ => .int i
  | _, _, .str s, _ => .str s
  | _, _, .tup h r, c => .tup (SqT.of (sub _ _ h)) (RepL.dp sub r (by simpa [PyData.canLay0] using c))
  | _, _, .lst h r, c => .lst (SqL.of (sub _ _ h)) (RepL.dp sub r (by simpa [PyData.canLay0] using c))
  | _, _, .ref e h, c => by simp [PyData.canLay0] at c
  | _, _, .scr h r, c => by simp [scr, PyData.canLay0] at c
theorem RepL.dp {K : PySem.W.Frag} {W : Wd} {H : Hp} (sub : ∀ a o, W.Hf a = some o → H a = some o) : ∀ {vs : List V} {ds : List D}, RepL K W vs ds → PyData.canLayAll0 ds = true → DpAll K H vs ds
  | _, _, .nil, _ => .nil
  | _, _, .cons h r, c => by
    have c' := c
    rw [PyData.canLayAll0, Bool.and_eq_true] at c'
    exact .cons (Rep.dp sub h c'.1) (RepL.dp sub r c'.2)
end
theorem shaped_lay {d : D} (h : SeqAt.shaped d = true) : d.canLay0 = true := SeqAt.canLay_of_shaped h
section
variable {K : PySem.W.Frag} {Cn : Str → Option Addr} {W : Wd} {S : Store} {H : Hp} {v : V} {d : D}
theorem BRep.dp (s : StOk K Cn W S H) (b : BRep K W H v d) (h : SeqAt.shaped d = true) : Dp K H v d := by
  rcases b with b | ⟨l, vs, xs, e1, e2, n, hl, r⟩
  · exact b.dp s.sub (shaped_lay h)
  · subst e1 e2
    exact .lst (SqL.of hl) (r.dp s.sub (by have := shaped_lay h; simpa [PyData.canLay0] using this))
end
def bop : BOp → Operator
  | .add => .Add
  | .sub => .Sub
  | .mul => .Mult
  | .fdiv => .FloorDiv
  | .mod => .Mod
  | .pow => .Pow
def rB (K : PySem.W.Frag) (Cn : Str → Option Addr) (o : BOp) : R2 := fun x y H Q => ∃ W S d1 d2 d, StOk K Cn W S H ∧ BRep K W H x d1 ∧ BRep K W H y d2 ∧ opB S o d1 d2 = some d ∧ Out K Cn W H S d Q
section
variable {X : Cx} {Cn : Str → Option Addr}
theorem opB_add : OpR X (binaryOp .Add) (rB X.K Cn .add) := by
  intro pins s σ H x y v u Q I rx ry h
  obtain ⟨W, S, d1, d2, d, so, b1, b2, e, q⟩ := h
  have cat : ∀ {xs ys : List D}, lstOf S d1 = some xs → lstOf S d2 = some ys → xs.length + ys.length ≤ 1000000 → Out X.K Cn W H S (.list (xs ++ ys)) Q → wpAny (model X.prog X.w) X.A (binaryOp .Add v u) (EP X pins σ Q) X.xe s := fun {xs ys} h1 h2 hl q => by
    obtain ⟨l, vs, rfl, hL, r1⟩ := lstOf_rep so b1 h1
    obtain ⟨l2, vs2, rfl, hL2, r2⟩ := lstOf_rep so b2 h2
    exact op_cat pins s σ H _ _ v u Q I rx ry ⟨l, l2, vs, vs2, rfl, rfl, hL, hL2, line_le (by rw [r1.length, r2.length]; exact hl), fun p hp => q.lst so hp (r1.append r2)⟩
  change addD S d1 d2 = some d at e
  unfold addD at e
  split at e
  · rename_i i j
    cases e
    obtain rfl := b1.int
    obtain rfl := b2.int
    exact op_add pins s σ H _ _ v u Q I rx ry ⟨i, j, rfl, rfl, q.flat so (.int _) (by intro _ h; cases h)⟩
  · rename_i i j
    cases e
    obtain rfl := b1.int
    obtain rfl := b2.bool
    exact op_add_ib pins s σ H _ _ v u Q I rx ry ⟨i, j, rfl, rfl, q.flat so (.int _) (by intro _ h; cases h)⟩
  · rename_i i j
    split at e
    · rename_i hl
      cases e
      obtain rfl := b1.str
      obtain rfl := b2.str
      exact op_add_str pins s σ H _ _ v u Q I rx ry ⟨i, j, rfl, rfl, line_le hl, q.flat so (.str _) (by intro _ h; cases h)⟩
    · cases e
  · rename_i xs ys
    split at e
    · rename_i hl
      cases e
      obtain ⟨l, vs, rfl, hL, r1⟩ := b1.tup so
      obtain ⟨l2, vs2, rfl, hL2, r2⟩ := b2.tup so
      refine op_catA pins s σ H _ _ v u Q I rx ry ⟨l, l2, vs, vs2, rfl, rfl, hL, hL2, line_le (by rw [r1.length, r2.length]; exact hl), fun e => ?_, fun n e => ?_, fun n1 n2 p hp => q.tup so hp (r1.append r2)⟩
      · subst e
        cases r1
        exact q.flat so (b2.rep (by intro _ h; cases h)) (by intro _ h; cases h)
      · subst e
        cases r2
        rw [List.append_nil] at q
        exact q.flat so (b1.rep (by intro _ h; cases h)) (by intro _ h; cases h)
    · cases e
  · split at e
    · rename_i xs ys h1 h2
      split at e
      · rename_i hl
        cases e
        exact cat h1 h2 hl q
      · cases e
    · cases e
theorem opB_sub : OpR X (binaryOp .Sub) (rB X.K Cn .sub) := by
  intro pins s σ H x y v u Q I rx ry h
  obtain ⟨W, S, d1, d2, d, so, b1, b2, e, q⟩ := h
  change subD d1 d2 = some d at e
  unfold subD at e
  split at e
  · rename_i i j
    cases e
    obtain rfl := b1.int
    obtain rfl := b2.int
    exact op_sub pins s σ H _ _ v u Q I rx ry ⟨i, j, rfl, rfl, q.flat so (.int _) (by intro _ h; cases h)⟩
  · cases e
theorem opB_mul : OpR X (binaryOp .Mult) (rB X.K Cn .mul) := by
  intro pins s σ H x y v u Q I rx ry h
  obtain ⟨W, S, d1, d2, d, so, b1, b2, e, q⟩ := h
  change mulD S d1 d2 = some d at e
  unfold mulD at e
  split at e
  · rename_i i j
    split at e
    · rename_i hl
      cases e
      obtain rfl := b1.int
      obtain rfl := b2.int
      exact op_mul pins s σ H _ _ v u Q I rx ry ⟨i, j, rfl, rfl, by rcases hl with hl | hl; exact .inl ⟨by omega, by omega⟩; exact .inr ⟨by omega, by omega⟩, q.flat so (.int _) (by intro _ h; cases h)⟩
    · cases e
  · rename_i xs k
    split at e
    · rename_i hl
      cases e
      obtain ⟨h1, h2, h3, h4⟩ := hl
      obtain ⟨l, vs, rfl, hL, r1⟩ := b1.tup so
      obtain rfl := b2.int
      have hn : vs ≠ [] := fun e => by
        subst e
        cases r1
        simp at h4
      exact op_repT pins s σ H _ _ v u Q I rx ry ⟨l, k, vs, rfl, rfl, hL, hn, h1, h2, by rw [r1.length]; exact h3, fun p hp => q.tup so hp (r1.rep _)⟩
    · cases e
  · rename_i k _ _
    split at e
    · rename_i xs hx
      split at e
      · rename_i hl
        cases e
        obtain ⟨h1, h2, h3⟩ := hl
        obtain ⟨l, vs, rfl, hL, r1⟩ := lstOf_rep so b1 hx
        obtain rfl := b2.int
        exact op_rep pins s σ H _ _ v u Q I rx ry ⟨l, k, vs, rfl, rfl, hL, by omega, by omega, line_le (by rw [r1.length]; exact h3), fun p hp => q.lst so hp (r1.rep _)⟩
      · cases e
    · cases e
  · cases e
theorem opB_fdiv : OpR X (binaryOp .FloorDiv) (rB X.K Cn .fdiv) := by
  intro pins s σ H x y v u Q I rx ry h
  obtain ⟨W, S, d1, d2, d, so, b1, b2, e, q⟩ := h
  change divD d1 d2 = some d at e
  unfold divD at e
  split at e
  · rename_i i j
    split at e
    · rename_i hl
      cases e
      obtain rfl := b1.int
      obtain rfl := b2.int
      exact op_fdiv pins s σ H _ _ v u Q I rx ry ⟨i, j, rfl, rfl, hl, q.flat so (.int _) (by intro _ h; cases h)⟩
    · cases e
  · cases e
theorem opB_mod : OpR X (binaryOp .Mod) (rB X.K Cn .mod) := by
  intro pins s σ H x y v u Q I rx ry h
  obtain ⟨W, S, d1, d2, d, so, b1, b2, e, q⟩ := h
  change modD d1 d2 = some d at e
  unfold modD at e
  split at e
  · rename_i i j
    split at e
    · rename_i hl
      cases e
      obtain rfl := b1.int
      obtain rfl := b2.int
      exact op_mod pins s σ H _ _ v u Q I rx ry ⟨i, j, rfl, rfl, hl, q.flat so (.int _) (by intro _ h; cases h)⟩
    · cases e
  · cases e
theorem opB_pow : OpR X (binaryOp .Pow) (rB X.K Cn .pow) := by
  intro pins s σ H x y v u Q I rx ry h
  obtain ⟨W, S, d1, d2, d, so, b1, b2, e, q⟩ := h
  change powD d1 d2 = some d at e
  unfold powD at e
  split at e
  · rename_i i j
    split at e
    · rename_i hl
      cases e
      obtain rfl := b1.int
      obtain rfl := b2.int
      exact op_pow pins s σ H _ _ v u Q I rx ry ⟨i, j, rfl, rfl, hl, q.flat so (.int _) (by intro _ h; cases h)⟩
    · cases e
  · cases e
theorem opB_ok (o : BOp) : OpR X (binaryOp (bop o)) (rB X.K Cn o) := by
  cases o with
  | add => exact opB_add
  | sub => exact opB_sub
  | mul => exact opB_mul
  | fdiv => exact opB_fdiv
  | mod => exact opB_mod
  | pow => exact opB_pow
end
theorem kD_eqv (a b : Key) : PyData.eqv (kD a) (kD b) = decide (a = b) := by
  cases a <;> cases b <;> simp only [kD, PyData.eqv, Sum.inl.injEq, Sum.inr.injEq, reduceCtorEq, decide_false] <;> rfl
theorem kDs_eqv : ∀ a b : List Key, PyData.eqvAll (a.map kD) (b.map kD) = decide (a = b)
  | [], [] => by simp [PyData.eqvAll]
  | [], _ :: _ => by simp [PyData.eqvAll]
  | _ :: _, [] => by simp [PyData.eqvAll]
  | a :: as, b :: bs => by
    simp only [List.map_cons, PyData.eqvAll, kD_eqv, kDs_eqv as bs, List.cons.injEq]
    by_cases h : a = b <;> by_cases h2 : as = bs <;> simp [h, h2]
theorem kT_eqv (a b : List Key) : PyData.eqv (kT a) (kT b) = decide (a = b) := by
  unfold kT
  rw [PyData.eqv]
  exact kDs_eqv a b
section
variable {κ : Type} [DecidableEq κ] {K : PySem.W.Frag} {W : Wd} {kd : κ → D}
theorem DRep.find (he : ∀ a b, PyData.eqv (kd a) (kd b) = decide (a = b)) {r : List (κ × V)} {m : List (D × D)} (h : DRep K W kd r m) (k : κ) :
    match dfind m (kd k) with
    | some d => ∃ v, valV r k = some v ∧ Rep K W v d
    | none => valV r k = none := by
  induction h with
  | nil => rfl
  | @cons k' v d r s hv _ ih =>
    unfold dfind at ih ⊢
    rw [List.find?_cons, he]
    by_cases e : k' = k
    · subst e
      rw [decide_eq_true rfl]
      exact ⟨v, valV_pos rfl, hv⟩
    · rw [decide_eq_false e, valV_neg e]
      exact ih
theorem DRep.len {r : List (κ × V)} {m : List (D × D)} (h : DRep K W kd r m) : r.length = m.length := by
  induction h with
  | nil => rfl
  | cons _ _ ih => simp [ih]
theorem DRep.put (he : ∀ a b, PyData.eqv (kd a) (kd b) = decide (a = b)) {r : List (κ × V)} {m : List (D × D)} (h : DRep K W kd r m) (k : κ) {v : V} {d : D} (hv : Rep K W v d) :
    DRep K W kd (putK r k v) (dput m (kd k) d) := by
  have any : (r.any fun kv => decide (kv.1 = k)) = m.any fun p => PyData.eqv p.1 (kd k) := by
    induction h with
    | nil => rfl
    | cons _ _ ih => simp only [List.any_cons, he, ih]
  unfold putK dput
  rw [← any]
  by_cases e : (r.any fun kv => decide (kv.1 = k)) = true
  · rw [if_pos e, if_pos e]
    clear any e
    induction h with
    | nil => exact .nil
    | @cons k' v' d' r s hv' _ ih =>
      simp only [List.map_cons, he]
      by_cases e : k' = k
      · rw [if_pos e, if_pos (decide_eq_true e)]
        exact .cons hv ih
      · rw [if_neg e, if_neg (by rw [decide_eq_false e]; exact Bool.false_ne_true)]
        exact .cons hv' ih
  · rw [if_neg e, if_neg e]
    clear any e
    induction h with
    | nil => exact .cons hv .nil
    | cons hv' _ ih => exact .cons hv' ih
end
section
variable {K : PySem.W.Frag} {Cn : Str → Option Addr} {W : Wd} {S : Store} {H : Hp} {v : V} {d : D}
theorem flat_key {d : D} {v : V} (h : flatKey d = true) (r : Rep K W v d) : ∃ k : Key, v = kV k ∧ d = kD k := by
  cases r with
  | int i => exact ⟨.inl i, rfl, rfl⟩
  | str s => exact ⟨.inr s, rfl, rfl⟩
  | _ => cases h
theorem flat_keys : ∀ {ds : List D} {vs : List V}, ds.all flatKey = true → RepL K W vs ds → ∃ ks : List Key, vs = ks.map kV ∧ ds = ks.map kD
  | _, _, _, .nil => ⟨[], rfl, rfl⟩
  | _, _, h, .cons r rr => by
    rw [List.all_cons, Bool.and_eq_true] at h
    obtain ⟨k, e1, e2⟩ := flat_key h.1 r
    obtain ⟨ks, e3, e4⟩ := flat_keys h.2 rr
    exact ⟨k :: ks, by rw [e1, e3]; rfl, by rw [e2, e4]; rfl⟩
theorem key_rep (so : StOk K Cn W S H) (h : isKey d = true) (r : BRep K W H v d) : (keyT d = false ∧ ∃ k : Key, v = kV k ∧ d = kD k) ∨ (keyT d = true ∧ ∃ (ks : List Key) (b : Addr), v = .ref b ∧ H b = some (.tup (ks.map kV)) ∧ d = kT ks) := by
  have r' := r.rep (fun xs e => by subst e; cases h)
  cases r' with
  | int i => exact .inl ⟨rfl, .inl i, rfl, rfl⟩
  | str s => exact .inl ⟨rfl, .inr s, rfl, rfl⟩
  | tup ht rr =>
    have h' : List.all _ flatKey = true := h
    obtain ⟨ks, e1, e2⟩ := flat_keys h' rr
    subst e1 e2
    exact .inr ⟨rfl, ks, _, rfl, so.sub _ _ ht, rfl⟩
  | _ => cases h
theorem DRep.atoms {kvs : List (Key × V)} {m : List (D × D)} (h : DRep K W kD kvs m) : m.all (fun p => keyT p.1 == false) = true := by
  induction h with
  | nil => rfl
  | @cons k v d r s _ _ ih =>
    rw [List.all_cons, ih]
    cases k <;> rfl
theorem DRep.tups {kvs : List (List Key × V)} {m : List (D × D)} (h : DRep K W kT kvs m) : m.all (fun p => keyT p.1 == true) = true := by
  induction h with
  | nil => rfl
  | @cons k v d r s _ _ ih =>
    rw [List.all_cons, ih]
    rfl
theorem all_both {m : List (D × D)} (h1 : m.all (fun p => keyT p.1 == false) = true) (h2 : m.all (fun p => keyT p.1 == true) = true) : m = [] := by
  cases m with
  | nil => rfl
  | cons p r =>
    rw [List.all_cons, Bool.and_eq_true] at h1 h2
    obtain ⟨h1, _⟩ := h1
    obtain ⟨h2, _⟩ := h2
    cases e : keyT p.1 <;> rw [e] at h1 h2 <;> simp at h1 h2
theorem relabel {X : Cx} {pins : List (Addr × Obj)} {σ : L2.St} {H : Hp} {s : Shared} {a : Addr} (I : Inv X pins σ H s) :
    (H a = some (.dK []) → Inv X pins σ (upd H a (.dT [])) s) ∧ (H a = some (.dT []) → Inv X pins σ (upd H a (.dK [])) s) := by
  constructor
  · intro h
    obtain ⟨z, hd, vs, rel, dd⟩ : ObjOk X.prog X.w H s.heap a (.dK []) := I.hok a _ h
    cases rel
    obtain ⟨o, es, ep, h1, h2, h3, h4, h5, h6⟩ := dd
    have he : es.toList = [] := by
      generalize es.toList = l at h5
      cases h5
      rfl
    exact I.write (x := a) (e := a) (o := .dT []) (h' := s.heap) (t' := s.toks) (by rw [h]; trivial) (.inl rfl) (fun _ _ _ q => q) ⟨o, h1⟩ ⟨Nat.zero_le _, hd, [], .nil, o, es, ep, h1, h2, h3, he, List.nodup_nil⟩
  · intro h
    obtain ⟨z, hd, xs, rel, o, es, ep, h1, h2, h3, h4, h5⟩ : ObjOk X.prog X.w H s.heap a (.dT []) := I.hok a _ h
    cases rel
    have he : es = #[] := by
      apply Array.toList_inj.mp
      rw [h4]; rfl
    subst he
    exact I.write (x := a) (e := a) (o := .dK []) (h' := s.heap) (t' := s.toks) (by rw [h]; trivial) (.inl rfl) (fun _ _ _ q => q) ⟨o, h1⟩ ⟨Nat.zero_le _, hd, [], .nil, o, #[], ep, h1, h2, h3, by intro e hi; simp at hi, .nil, List.nodup_nil⟩
theorem dicOf_rep {m : List (D × D)} (so : StOk K Cn W S H) (b : BRep K W H v d) (e : dicOf S d = some m) : ∃ (a : Addr) (n : Nat), v = .ref a ∧ W.A[n]? = some a ∧ objN S d = some (n, .dic m) ∧
    ((∃ kvs, H a = some (.dK kvs) ∧ DRep K W kD kvs m) ∨ ∃ kvs, H a = some (.dT kvs) ∧ DRep K W kT kvs m) := by
  unfold dicOf at e
  split at e
  · rename_i n m' hn
    cases e
    have hl : ∀ xs, d ≠ .list xs := by intro xs e; subst e; cases hn
    obtain ⟨a, e1, h1, q⟩ := Rep.at so hn (b.rep hl)
    exact ⟨a, n, e1, h1, hn, q⟩
  · cases e
theorem dicK {X : Cx} {Cn : Str → Option Addr} {pins : List (Addr × Obj)} {σ : L2.St} {H : Hp} {s : Shared} {W : Wd} {S : Store} {v : V} {d : D} {m : List (D × D)} (I : Inv X pins σ H s) (so : StOk X.K Cn W S H) (b : BRep X.K W H v d) (e : dicOf S d = some m) (hk : (m.all fun p => keyT p.1 == false) = true) :
    ∃ (a : Addr) (n : Nat) (H' : Hp) (kvs : List (Key × V)), v = .ref a ∧ W.A[n]? = some a ∧ objN S d = some (n, .dic m) ∧ Inv X pins σ H' s ∧ StOk X.K Cn W S H' ∧ Gr W H W H' ∧ H' a = some (.dK kvs) ∧ DRep X.K W kD kvs m ∧ ∀ c kvs, H c = some (.dK kvs) → H' c = some (.dK kvs) := by
  obtain ⟨a, n, e1, hn, ho, hd⟩ := dicOf_rep so b e
  rcases hd with ⟨kvs, h1, h2⟩ | ⟨kvs, h1, h2⟩
  · exact ⟨a, n, H, kvs, e1, hn, ho, I, so, Gr.refl W H, h1, h2, fun _ _ h => h⟩
  · have em := all_both hk h2.tups
    subst em
    cases h2
    refine ⟨a, n, _, [], e1, hn, ho, (relabel I).2 h1, ?_, Gr.put so hn h1 (fun _ _ z => nomatch z), upd_same, .nil, fun c kvs hc => ?_⟩
    rotate_left
    · rw [upd_ne (fun e => by subst e; rw [h1] at hc; cases hc)]; exact hc
    have es : S.set n (.dic []) = S := by
      unfold objN at ho
      rw [Option.bind_eq_some_iff] at ho
      obtain ⟨n', _, ho⟩ := ho
      rw [Option.map_eq_some_iff] at ho
      obtain ⟨o', ho, e⟩ := ho
      cases e
      obtain ⟨hl, he⟩ := List.getElem?_eq_some_iff.mp ho
      rw [← he]
      exact List.set_getElem_self hl
    have := StOk.put (o := .dK []) (so := .dic []) so hn (.inl ⟨[], upd_same, .nil⟩)
    rwa [es] at this
def Fits (K : PySem.W.Frag) (W : Wd) (H : Hp) (a : Addr) (m : List (D × D)) (y : V) (k : D) : Prop :=
  (∃ (kvs : List (Key × V)) (i : Key), H a = some (.dK kvs) ∧ DRep K W kD kvs m ∧ y = kV i ∧ k = kD i) ∨
  ∃ (kvs : List (List Key × V)) (ks : List Key) (b : Addr), H a = some (.dT kvs) ∧ DRep K W kT kvs m ∧ y = .ref b ∧ H b = some (.tup (ks.map kV)) ∧ k = kT ks
theorem fits {X : Cx} {pins : List (Addr × Obj)} {σ : L2.St} {s : Shared} {m : List (D × D)} {y : V} {k : D} (I : Inv X pins σ H s) (so : StOk X.K Cn W S H) (b : BRep X.K W H v d) (e : dicOf S d = some m) (ok : okKey m k = true) (bk : BRep X.K W H y k) :
    ∃ (a : Addr) (n : Nat) (H' : Hp), v = .ref a ∧ W.A[n]? = some a ∧ objN S d = some (n, .dic m) ∧ Inv X pins σ H' s ∧ StOk X.K Cn W S H' ∧ Gr W H W H' ∧ Fits X.K W H' a m y k := by
  obtain ⟨a, n, e1, hn, ho, hd⟩ := dicOf_rep so b e
  unfold okKey at ok
  rw [Bool.and_eq_true] at ok
  obtain ⟨ok1, ok2⟩ := ok
  rcases key_rep so ok1 bk with ⟨kt, i, hy, hk⟩ | ⟨kt, ks, b', hy, hb, hk⟩
  · rw [kt] at ok2
    rcases hd with ⟨kvs, h1, h2⟩ | ⟨kvs, h1, h2⟩
    · exact ⟨a, n, H, e1, hn, ho, I, so, Gr.refl W H, .inl ⟨kvs, i, h1, h2, hy, hk⟩⟩
    · have em := all_both ok2 h2.tups
      subst em
      cases h2
      refine ⟨a, n, _, e1, hn, ho, (relabel I).2 h1, ?_, Gr.put so hn h1 (fun _ _ z => nomatch z), .inl ⟨[], i, upd_same, .nil, hy, hk⟩⟩
      have es : S.set n (.dic []) = S := by
        unfold objN at ho
        rw [Option.bind_eq_some_iff] at ho
        obtain ⟨n', _, ho⟩ := ho
        rw [Option.map_eq_some_iff] at ho
        obtain ⟨o', ho, e⟩ := ho
        cases e
        obtain ⟨hl, he⟩ := List.getElem?_eq_some_iff.mp ho
        rw [← he]
        exact List.set_getElem_self hl
      have := StOk.put (o := .dK []) (so := .dic []) so hn (.inl ⟨[], upd_same, .nil⟩)
      rwa [es] at this
  · rw [kt] at ok2
    rcases hd with ⟨kvs, h1, h2⟩ | ⟨kvs, h1, h2⟩
    · have em := all_both h2.atoms ok2
      subst em
      cases h2
      refine ⟨a, n, _, e1, hn, ho, (relabel I).1 h1, ?_, Gr.put so hn h1 (fun _ _ z => nomatch z), .inr ⟨[], ks, b', upd_same, .nil, hy, ?_, hk⟩⟩
      · have es : S.set n (.dic []) = S := by
          unfold objN at ho
          rw [Option.bind_eq_some_iff] at ho
          obtain ⟨n', _, ho⟩ := ho
          rw [Option.map_eq_some_iff] at ho
          obtain ⟨o', ho, e⟩ := ho
          cases e
          obtain ⟨hl, he⟩ := List.getElem?_eq_some_iff.mp ho
          rw [← he]
          exact List.set_getElem_self hl
        have := StOk.put (o := .dT []) (so := .dic []) so hn (.inr ⟨[], upd_same, .nil⟩)
        rwa [es] at this
      · rw [upd_ne (ne_of hb h1 (fun z => nomatch z))]
        exact hb
    · exact ⟨a, n, H, e1, hn, ho, I, so, Gr.refl W H, .inr ⟨kvs, ks, b', h1, h2, hy, hb, hk⟩⟩
theorem Fits.get {a : Addr} {m : List (D × D)} {y : V} {k : D} (f : Fits K W H a m y k) : ∃ o : Option V, DGet H a y o ∧ match dfind m k with
    | some d => ∃ v, o = some v ∧ Rep K W v d
    | none => o = none := by
  rcases f with ⟨kvs, i, h1, h2, rfl, rfl⟩ | ⟨kvs, ks, b, h1, h2, rfl, hb, rfl⟩
  · exact ⟨_, DGet.k h1, h2.find kD_eqv i⟩
  · exact ⟨_, DGet.t h1 hb, h2.find kT_eqv ks⟩
end
section
variable {X : Cx} {Cn : Str → Option Addr}
def cop : COp → CmpOp
  | .eq => .Eq
  | .ne => .NotEq
  | .lt => .Lt
  | .le => .LtE
  | .gt => .Gt
  | .ge => .GtE
  | .isN => .Is
  | .notN => .IsNot
  | .isB => .Is
  | .notB => .IsNot
  | .mem => .In
  | .nmem => .NotIn
def rC (K : PySem.W.Frag) (Cn : Str → Option Addr) (o : COp) : R2 := fun x y H Q => ∃ W S d1 d2 b, StOk K Cn W S H ∧ BRep K W H x d1 ∧ BRep K W H y d2 ∧ opC S o d1 d2 = some b ∧
  ∀ H', Gr W H W H' → StOk K Cn W S H' → Q (.bl b) H'
theorem sign1_of {s : Str} {c : Nat} (h : sign1 (.str s) = some c) : s = ⟨#[c]⟩ := by
  unfold sign1 at h
  by_cases hz : s.cps.size = 1
  · have h' : (if s.cps.size = 1 then s.cps[0]? else none) = some c := h
    rw [if_pos hz] at h'
    obtain ⟨⟨l⟩⟩ := s
    match l, hz, h' with
    | [x], _, h' =>
      have e : x = c := by simpa using h'
      subst e
      rfl
  · have h' : (if s.cps.size = 1 then s.cps[0]? else none) = some c := h
    rw [if_neg hz] at h'
    cases h'
theorem opC_mem (hu : X.A.units + 65 < cLine) : OpR X (compareOp .In) (rC X.K Cn .mem) := by
  intro pins s σ H x y v u Q I rx ry h
  obtain ⟨W, S, d1, d2, b, so, b1, b2, e, q⟩ := h
  change memD S d1 d2 = some b at e
  unfold memD at e
  split at e
  · rename_i z
    split at e
    · rename_i c hc
      cases e
      cases d1 with
      | str z1 =>
        obtain rfl := sign1_of hc
        obtain rfl := b1.str
        obtain rfl := b2.str
        exact op_in_sign pins s σ H _ _ v u Q I rx ry ⟨c, z, rfl, rfl, q H (Gr.refl W H) so⟩
      | _ => cases hc
    · cases e
  · split at e
    · rename_i m hm
      split at e
      · rename_i ok
        cases e
        obtain ⟨a, n, H', rfl, hn, ho, I', so', g, f⟩ := fits I so b2 hm ok b1
        obtain ⟨o, hg, hf⟩ := f.get
        cases ry
        refine d_in (by omega) I' hg rx fun s' I2 => ?_
        have eo : o.isSome = (dfind m d1).isSome := by
          split at hf
          · rename_i d hd
            obtain ⟨v', hv, _⟩ := hf
            rw [hv, hd]; rfl
          · rename_i hd
            rw [hf, hd]; rfl
        rw [eo]
        exact ⟨.bl _, H', I2, rfl, q H' g so'⟩
      · cases e
    · rename_i hm
      split at e
      · rename_i xs hx
        split at e
        · rename_i hs
          cases e
          rw [Bool.and_eq_true] at hs
          obtain ⟨l, vs, rfl, hL, r⟩ := seqOf_rep so b2 hx
          obtain ⟨as, r1⟩ := Dp.reads I d1 x v (b1.dp so hs.1) rx
          have ra : DpAll X.K H vs xs := r.dp so.sub (by have := shaped_lay hs.2; simpa [PyData.canLay0] using this)
          rcases hL with hL | hL
          · obtain ⟨bs, r2⟩ := Dp.reads I (.list xs) _ u (.lst hL ra) ry
            exact SeqAt.in_list_reads r2 r1 (SeqAt.canLay_of_shaped hs.2) (SeqAt.canLay_of_shaped hs.1) (room_in_shaped hs.1 hu) ⟨.bl _, H, I, rfl, q H (Gr.refl W H) so⟩
          · obtain ⟨bs, r2⟩ := Dp.reads I (.tuple xs) _ u (.tup hL ra) ry
            exact SeqAt.in_tuple_reads r2 r1 (by have := SeqAt.canLay_of_shaped hs.2; simpa [PyData.canLay0] using this) (SeqAt.canLay_of_shaped hs.1) (room_in_shaped hs.1 hu) ⟨.bl _, H, I, rfl, q H (Gr.refl W H) so⟩
        · cases e
      · cases e
theorem opC_nmem (hu : X.A.units + 65 < cLine) : OpR X (compareOp .NotIn) (rC X.K Cn .nmem) := by
  intro pins s σ H x y v u Q I rx ry h
  obtain ⟨W, S, d1, d2, b, so, b1, b2, e, q⟩ := h
  change (memD S d1 d2).map (!·) = some b at e
  rw [Option.map_eq_some_iff] at e
  obtain ⟨b0, e, rfl⟩ := e
  unfold memD at e
  split at e
  · rename_i z
    split at e
    · rename_i c hc
      cases e
      cases d1 with
      | str z1 =>
        obtain rfl := sign1_of hc
        obtain rfl := b1.str
        obtain rfl := b2.str
        exact op_notIn_sign pins s σ H _ _ v u Q I rx ry ⟨c, z, rfl, rfl, q H (Gr.refl W H) so⟩
      | _ => cases hc
    · cases e
  · split at e
    · rename_i m hm
      split at e
      · rename_i ok
        cases e
        obtain ⟨a, n, H', rfl, hn, ho, I', so', g, f⟩ := fits I so b2 hm ok b1
        obtain ⟨o, hg, hf⟩ := f.get
        cases ry
        refine d_notIn (by omega) I' hg rx fun s' I2 => ?_
        have eo : o.isSome = (dfind m d1).isSome := by
          split at hf
          · rename_i d hd
            obtain ⟨v', hv, _⟩ := hf
            rw [hv, hd]; rfl
          · rename_i hd
            rw [hf, hd]; rfl
        rw [eo]
        exact ⟨.bl _, H', I2, rfl, q H' g so'⟩
      · cases e
    · rename_i hm
      split at e
      · rename_i xs hx
        split at e
        · rename_i hs
          cases e
          rw [Bool.and_eq_true] at hs
          obtain ⟨l, vs, rfl, hL, r⟩ := seqOf_rep so b2 hx
          obtain ⟨as, r1⟩ := Dp.reads I d1 x v (b1.dp so hs.1) rx
          have ra : DpAll X.K H vs xs := r.dp so.sub (by have := shaped_lay hs.2; simpa [PyData.canLay0] using this)
          rcases hL with hL | hL
          · obtain ⟨bs, r2⟩ := Dp.reads I (.list xs) _ u (.lst hL ra) ry
            exact SeqAt.notIn_list_reads r2 r1 (SeqAt.canLay_of_shaped hs.2) (SeqAt.canLay_of_shaped hs.1) (room_in_shaped hs.1 hu) ⟨.bl _, H, I, rfl, q H (Gr.refl W H) so⟩
          · obtain ⟨bs, r2⟩ := Dp.reads I (.tuple xs) _ u (.tup hL ra) ry
            exact SeqAt.notIn_tuple_reads r2 r1 (by have := SeqAt.canLay_of_shaped hs.2; simpa [PyData.canLay0] using this) (SeqAt.canLay_of_shaped hs.1) (room_in_shaped hs.1 hu) ⟨.bl _, H, I, rfl, q H (Gr.refl W H) so⟩
        · cases e
      · cases e
theorem isNone_V {K : PySem.W.Frag} {W : Wd} {H : Hp} {v : V} {d : D} (b : BRep K W H v d) : decide (v = .non) = isNone d := by
  rcases b with b | ⟨l, vs, xs, e1, e2, _⟩
  · cases b <;> rfl
  · subst e1 e2
    rfl
structure EqDic (H : Hp) (x y : V) : Prop where
  ex : ∃ (a b : Addr) (ks ls : List (Key × V)), x = .ref a ∧ y = .ref b ∧ H a = some (.dK ks) ∧ H b = some (.dK ls) ∧ ks.length = ls.length ∧ ∀ p ∈ ks, valV ls p.1 = some p.2 ∧ flatB p.2 = true
theorem EqDic.eq {H : Hp} {x y : V} {Q : VK} (h : EqDic H x y) (q : Q (.bl true) H) : rEqDA x y H Q := by
  obtain ⟨a, b, ks, ls, h1, h2, h3, h4, h5, h6⟩ := h.ex
  exact ⟨a, b, ks, ls, h1, h2, h3, h4, h5, h6, q⟩
theorem EqDic.ne {H : Hp} {x y : V} {Q : VK} (h : EqDic H x y) (q : Q (.bl (!true)) H) : rNeDA x y H Q := by
  obtain ⟨a, b, ks, ls, h1, h2, h3, h4, h5, h6⟩ := h.ex
  exact ⟨a, b, ks, ls, h1, h2, h3, h4, h5, h6, q⟩
theorem sameF_rep {K : PySem.W.Frag} {W : Wd} {v u : V} {d e : D} (h : sameF d e = true) (r : Rep K W v d) (r' : Rep K W u e) : v = u ∧ flatB v = true := by
  unfold sameF at h
  split at h
  · cases r; cases r'; exact ⟨rfl, rfl⟩
  · cases r; cases r'; rw [decide_eq_true_eq] at h; subst h; exact ⟨rfl, rfl⟩
  · cases r; cases r'; rw [decide_eq_true_eq] at h; subst h; exact ⟨rfl, rfl⟩
  · cases r; cases r'; rw [decide_eq_true_eq] at h; subst h; exact ⟨rfl, rfl⟩
  · cases h
theorem DRep.same {K : PySem.W.Frag} {W : Wd} {ls : List (Key × V)} {m' : List (D × D)} (h' : DRep K W kD ls m') : ∀ {ks : List (Key × V)} {m : List (D × D)}, DRep K W kD ks m → (m.all fun p => !keyT p.1 && (match dfind m' p.1 with
    | some d => sameF p.2 d
    | none => false)) = true → ∀ p ∈ ks, valV ls p.1 = some p.2 ∧ flatB p.2 = true := by
  intro ks m h
  induction h with
  | nil => intro _ p hp; cases hp
  | @cons k v d r s hv hr ih =>
    intro e p hp
    rw [List.all_cons, Bool.and_eq_true, Bool.and_eq_true] at e
    rcases List.mem_cons.mp hp with rfl | hp
    · have f := h'.find kD_eqv k
      have e2 := e.1.2
      dsimp only at e2
      split at e2
      · rename_i d' hd
        rw [hd] at f
        obtain ⟨u, hu, ru⟩ := f
        obtain ⟨rfl, fb⟩ := sameF_rep e2 hv ru
        exact ⟨hu, fb⟩
      · cases e2
    · exact ih e.2 p hp
theorem unref_str {K : PySem.W.Frag} {W : Wd} {S : Store} {H : Hp} {d : D} {s : Str} {v : V} (e : unref S d = .str s) (b : BRep K W H v d) : BRep K W H v (.str s) := by
  unfold unref at e
  split at e
  · cases e
  · subst e; exact b
theorem unref_dp {K : PySem.W.Frag} {Cn : Str → Option Addr} {W : Wd} {S : Store} {H : Hp} {d : D} {v : V} (so : StOk K Cn W S H) (b : BRep K W H v d) (h : SeqAt.shaped (unref S d) = true) : Dp K H v (unref S d) := by
  unfold unref at h ⊢
  split at h
  · rename_i n xs ho
    have hl : ∀ xs, d ≠ .list xs := by intro xs e; subst e; cases ho
    obtain ⟨a, rfl, hn, vs, h1, r⟩ := Rep.at so ho (b.rep hl)
    exact .lst (SqL.of h1) (r.dp so.sub (by have := shaped_lay h; simpa [PyData.canLay0] using this))
  · exact b.dp so h
theorem eqC_ok {X : Cx} {Cn : Str → Option Addr} {pins : List (Addr × Obj)} {σ : L2.St} {H : Hp} {s : Shared} {W : Wd} {S : Store} {x y : V} {d1 d2 : D} {b : Bool} (I : Inv X pins σ H s) (so : StOk X.K Cn W S H) (b1 : BRep X.K W H x d1) (b2 : BRep X.K W H y d2) (e : eqC S d1 d2 = some b) :
    ((∃ H', Inv X pins σ H' s ∧ Gr W H W H' ∧ StOk X.K Cn W S H' ∧ EqDic H' x y) ∧ b = true) ∨ (eqD (unref S d1) (unref S d2) = some b ∧ (SeqAt.shaped (unref S d1) = true → Dp X.K H x (unref S d1)) ∧ (SeqAt.shaped (unref S d2) = true → Dp X.K H y (unref S d2))) := by
  unfold eqC at e
  split at e
  · rename_i m m' h1 h2
    split at e
    · rename_i hh
      cases e
      rw [Bool.and_eq_true] at hh
      obtain ⟨hh, k2⟩ := hh
      unfold sameM at hh
      rw [Bool.and_eq_true, decide_eq_true_eq] at hh
      have k1 : (m.all fun p => keyT p.1 == false) = true := List.all_eq_true.mpr fun p hp => by
        have := List.all_eq_true.mp hh.2 p hp
        rw [Bool.and_eq_true] at this
        simpa using this.1
      have k2' : (m'.all fun p => keyT p.1 == false) = true := List.all_eq_true.mpr fun p hp => by
        have := List.all_eq_true.mp k2 p hp
        simpa using this
      obtain ⟨a1, n1, H1, ks, rfl, e1, e2, I1, so1, g1, q1, r1, _⟩ := dicK I so b1 h1 k1
      obtain ⟨a2, n2, H2, ls, rfl, f1, f2, I2, so2, g2, q2, r2, kp⟩ := dicK I1 so1 (b2.mono g1) h2 k2'
      exact .inl ⟨⟨H2, I2, g1.trans g2, so2, ⟨⟨a1, a2, ks, ls, rfl, rfl, kp _ _ q1, q2, by rw [r1.len, r2.len, hh.1], r2.same r1 hh.2⟩⟩⟩, rfl⟩
    · cases e
  · exact .inr ⟨e, unref_dp so b1, unref_dp so b2⟩
theorem dec_SS (x y : Str) : decide (V.str x = V.str y) = decide (x = y) := by
  by_cases h : x = y <;> simp [h]
theorem opC_ok (hu : X.A.units + 65 < cLine) (o : COp) : OpR X (compareOp (cop o)) (rC X.K Cn o) := by
  cases o with
  | mem => exact opC_mem hu
  | nmem => exact opC_nmem hu
  | eq =>
    intro pins s σ H x y v u Q I rx ry h
    obtain ⟨W, S, d1, d2, b, so, b1, b2, e, q⟩ := h
    change eqC S d1 d2 = some b at e
    rcases eqC_ok I so b1 b2 e with ⟨h1, rfl⟩ | ⟨e', c1, c2⟩
    · obtain ⟨H', I', g', so', f⟩ := h1
      exact op_eq_dictA (by omega) pins s σ H' x y v u Q I' rx ry (f.eq (q H' g' so'))
    · unfold eqD at e'
      split at e'
      · rename_i hs
        cases e'
        rw [Bool.and_eq_true] at hs
        exact op_eqD (by omega) pins s σ H x y v u Q I rx ry ⟨_, _, c1 hs.1, c2 hs.2, hs.1, hs.2, q H (Gr.refl W H) so⟩
      · unfold eqSS at e'
        split at e'
        · rename_i z1 z2
          cases e'
          obtain rfl := (unref_str z1 b1).str
          obtain rfl := (unref_str z2 b2).str
          exact op_eq pins s σ H _ _ v u Q I rx ry ⟨rfl, by rw [dec_SS]; exact q H (Gr.refl W H) so⟩
        · cases e'
  | ne =>
    intro pins s σ H x y v u Q I rx ry h
    obtain ⟨W, S, d1, d2, b, so, b1, b2, e, q⟩ := h
    change (eqC S d1 d2).map (!·) = some b at e
    rw [Option.map_eq_some_iff] at e
    obtain ⟨b0, e, rfl⟩ := e
    rcases eqC_ok I so b1 b2 e with ⟨h1, rfl⟩ | ⟨e', c1, c2⟩
    · obtain ⟨H', I', g', so', f⟩ := h1
      exact op_ne_dictA (by omega) pins s σ H' x y v u Q I' rx ry (f.ne (q H' g' so'))
    · unfold eqD at e'
      split at e'
      · rename_i hs
        cases e'
        rw [Bool.and_eq_true] at hs
        exact op_neD (by omega) pins s σ H x y v u Q I rx ry ⟨_, _, c1 hs.1, c2 hs.2, hs.1, hs.2, q H (Gr.refl W H) so⟩
      · unfold eqSS at e'
        split at e'
        · rename_i z1 z2
          cases e'
          obtain rfl := (unref_str z1 b1).str
          obtain rfl := (unref_str z2 b2).str
          exact op_ne pins s σ H _ _ v u Q I rx ry ⟨rfl, by rw [dec_SS]; exact q H (Gr.refl W H) so⟩
        · cases e'
  | lt =>
    intro pins s σ H x y v u Q I rx ry h
    obtain ⟨W, S, d1, d2, b, so, b1, b2, e, q⟩ := h
    change ltD d1 d2 = some b at e
    unfold ltD at e
    split at e
    · cases e
      obtain rfl := b1.int
      obtain rfl := b2.int
      exact op_lt pins s σ H _ _ v u Q I rx ry ⟨_, _, rfl, rfl, q H (Gr.refl W H) so⟩
    · cases e
      obtain rfl := b1.str
      obtain rfl := b2.str
      exact op_lt_str pins s σ H _ _ v u Q I rx ry ⟨_, _, rfl, rfl, q H (Gr.refl W H) so⟩
    · cases e
  | le =>
    intro pins s σ H x y v u Q I rx ry h
    obtain ⟨W, S, d1, d2, b, so, b1, b2, e, q⟩ := h
    change lePD d1 d2 = some b at e
    unfold lePD at e
    split at e
    · rename_i i j k l
      cases e
      obtain ⟨a1, vs1, rfl, h1, r1⟩ := b1.tup so
      obtain ⟨a2, vs2, rfl, h2, r2⟩ := b2.tup so
      have two : ∀ {vs : List V} {i j : Int}, RepL X.K W vs [.int i, .int j] → vs = [i, j].map V.int := fun r => by
        cases r with
        | cons ra r =>
          cases r with
          | cons rb r =>
            cases r
            cases ra
            cases rb
            rfl
      obtain rfl := two r1
      obtain rfl := two r2
      refine op_leT (by omega) pins s σ H _ _ v u Q I rx ry ⟨a1, a2, [i, j], [k, l], rfl, rfl, h1, h2, ?_⟩
      have ex : Ob.lexAt (fun x => decide (([i, j] : List Int).getD x 0 = ([k, l] : List Int).getD x 0)) (fun x => decide (([i, j] : List Int).getD x 0 ≤ ([k, l] : List Int).getD x 0)) (decide (([i, j] : List Int).length ≤ ([k, l] : List Int).length)) 0 (min ([i, j] : List Int).length ([k, l] : List Int).length) = decide (i < k ∨ (i = k ∧ j ≤ l)) := by
        have em : min ([i, j] : List Int).length ([k, l] : List Int).length = 2 := rfl
        rw [em, Ob.lexAt_succ, Ob.lexAt_succ, Ob.lexAt_zero]
        show (if decide (i = k) = true then (if decide (j = l) = true then decide (2 ≤ 2) else decide (j ≤ l)) else decide (i ≤ k)) = _
        rw [Bool.eq_iff_iff]
        by_cases c1 : i = k
        · by_cases c2 : j = l
          · simp [c1, c2]
          · simp [c1, c2]
        · simp [c1]; omega
      rw [ex]
      exact q H (Gr.refl W H) so
    · unfold leD at e
      split at e
      · cases e
        obtain rfl := b1.int
        obtain rfl := b2.int
        exact op_le pins s σ H _ _ v u Q I rx ry ⟨_, _, rfl, rfl, q H (Gr.refl W H) so⟩
      · cases e
  | gt =>
    intro pins s σ H x y v u Q I rx ry h
    obtain ⟨W, S, d1, d2, b, so, b1, b2, e, q⟩ := h
    change ltD d2 d1 = some b at e
    unfold ltD at e
    split at e
    · cases e
      obtain rfl := b1.int
      obtain rfl := b2.int
      exact op_gt pins s σ H _ _ v u Q I rx ry ⟨_, _, rfl, rfl, q H (Gr.refl W H) so⟩
    · cases e
      obtain rfl := b1.str
      obtain rfl := b2.str
      exact op_gt_str pins s σ H _ _ v u Q I rx ry ⟨_, _, rfl, rfl, q H (Gr.refl W H) so⟩
    · cases e
  | ge =>
    intro pins s σ H x y v u Q I rx ry h
    obtain ⟨W, S, d1, d2, b, so, b1, b2, e, q⟩ := h
    change leD d2 d1 = some b at e
    unfold leD at e
    split at e
    · cases e
      obtain rfl := b1.int
      obtain rfl := b2.int
      exact op_ge pins s σ H _ _ v u Q I rx ry ⟨_, _, rfl, rfl, q H (Gr.refl W H) so⟩
    · cases e
  | isN =>
    intro pins s σ H x y v u Q I rx ry h
    obtain ⟨W, S, d1, d2, b, so, b1, b2, e, q⟩ := h
    change isND d1 d2 = some b at e
    unfold isND at e
    split at e
    · cases e
      obtain rfl := b2.none
      rw [← isNone_V b1] at q
      exact op_isN pins s σ H _ _ v u Q I rx ry ⟨rfl, q H (Gr.refl W H) so⟩
    · cases e
  | notN =>
    intro pins s σ H x y v u Q I rx ry h
    obtain ⟨W, S, d1, d2, b, so, b1, b2, e, q⟩ := h
    change (isND d1 d2).map (!·) = some b at e
    rw [Option.map_eq_some_iff] at e
    obtain ⟨b0, e, rfl⟩ := e
    unfold isND at e
    split at e
    · cases e
      obtain rfl := b2.none
      rw [← isNone_V b1] at q
      exact op_notN pins s σ H _ _ v u Q I rx ry ⟨rfl, q H (Gr.refl W H) so⟩
    · cases e
  | isB =>
    intro pins s σ H x y v u Q I rx ry h
    obtain ⟨W, S, d1, d2, b, so, b1, b2, e, q⟩ := h
    change isBD d1 d2 = some b at e
    unfold isBD at e
    split at e
    · cases e
      obtain rfl := b1.bool
      obtain rfl := b2.bool
      exact op_isBl pins s σ H _ _ v u Q I rx ry ⟨_, _, rfl, rfl, q H (Gr.refl W H) so⟩
    · cases e
  | notB =>
    intro pins s σ H x y v u Q I rx ry h
    obtain ⟨W, S, d1, d2, b, so, b1, b2, e, q⟩ := h
    change (isBD d1 d2).map (!·) = some b at e
    rw [Option.map_eq_some_iff] at e
    obtain ⟨b0, e, rfl⟩ := e
    unfold isBD at e
    split at e
    · cases e
      obtain rfl := b1.bool
      obtain rfl := b2.bool
      exact op_notBl pins s σ H _ _ v u Q I rx ry ⟨_, _, rfl, rfl, q H (Gr.refl W H) so⟩
    · cases e
end
end PL
set_option autoImplicit false
set_option linter.all false
set_option maxRecDepth 100000
set_option Elab.async false
namespace PL
open PySem PySem.Spec PyProof.Rows L2
section
variable {K : PySem.W.Frag} {Cn : Str → Option Addr} {W W1 W' : Wd} {S : Store} {H H1 H' : Hp} {v : V} {d : D} {Q : VK}
theorem RepL.empty {vs : List V} {ds : List D} (r : RepL K W vs ds) : vs.isEmpty = ds.isEmpty := by cases r <;> rfl
theorem truV {b : Bool} (so : StOk K Cn W S H) (r : BRep K W H v d) (e : tru S d = some b) : TruV K v H b := by
  have seq : ∀ {xs : List D}, seqOf S d = some xs → TruV K v H (!xs.isEmpty) := fun {xs} h => by
    obtain ⟨a, vs, rfl, hL, r1⟩ := seqOf_rep so r h
    rw [← r1.empty]
    rcases hL with hL | hL
    · exact .inl ⟨vs, hL, rfl⟩
    · exact .inr (.inl ⟨vs, hL, rfl⟩)
  unfold tru at e
  split at e
  · cases e; obtain rfl := r.none; rfl
  · cases e; obtain rfl := r.bool; rfl
  · cases e; obtain rfl := r.int; rfl
  · rename_i z
    split at e
    · rename_i hl
      cases e
      obtain rfl := r.str
      refine ⟨line_le hl, ?_⟩
      cases z.length <;> rfl
    · cases e
  · cases e
    exact seq (xs := _) rfl
  · cases e
    exact seq (xs := _) rfl
  · rw [Option.map_eq_some_iff] at e
    obtain ⟨xs, h, rfl⟩ := e
    exact seq h
theorem seqOf_lst {xs : List D} (s : StOk K Cn W S H) (b : BRep K W H v d) (e : seqOf S d = some xs) (n : ∀ zs, d ≠ .tuple zs) : ∃ a vs, v = .ref a ∧ SqL K H a vs ∧ RepL K W vs xs := by
  unfold seqOf at e
  split at e
  · rename_i zs
    exact (n zs rfl).elim
  · cases e
    exact scr_rep s b
  · obtain ⟨a, vs, h1, h2, h3⟩ := lstOf_rep s b e
    exact ⟨a, vs, h1, SqL.of h2, h3⟩
end
section
variable {X : Cx} {Cn : Str → Option Addr}
def rI (K : PySem.W.Frag) (Cn : Str → Option Addr) : R2 := fun x y H Q => ∃ W S d1 d2 d, StOk K Cn W S H ∧ BRep K W H x d1 ∧ BRep K W H y d2 ∧ getD S d1 d2 = some d ∧
  ∀ v H', Gr W H W H' → StOk K Cn W S H' → Rep K W v d → Q v H'
theorem at_eq {α : Type} (xs : List α) (i : Int) : at_ xs i = atI xs i := rfl
theorem RepL.at {K : PySem.W.Frag} {W : Wd} {vs : List V} {ds : List D} {i : Int} {d : D} (r : RepL K W vs ds) (h : at_ ds i = some d) : ∃ v, atI vs i = some v ∧ Rep K W v d := by
  unfold at_ at h
  unfold atI
  rw [Option.bind_eq_some_iff] at h
  obtain ⟨j, h1, h2⟩ := h
  obtain ⟨v, hv, hr⟩ := r.get' h2
  refine ⟨v, ?_, hr⟩
  rw [r.length]
  show (PL.ixN ds.length i).bind _ = _
  rw [h1]
  exact hv
theorem loc_get {K : PySem.W.Frag} {W : Wd} {S : Store} {H : Hp} {v y : V} {d k x : D} {m : List (D × D)} (so : StOk K Cn W S H) (b : BRep K W H v d) (e : locOf S d = some m) (ok : okKey m k = true) (bk : BRep K W H y k) (hx : dfind m k = some x) :
    ∃ (a : Addr), v = .ref a ∧ ∃ w, DGet H a y (some w) ∧ Rep K W w x := by
  unfold locOf at e
  split at e
  · rename_i n m' hn
    cases e
    have hl : ∀ xs, d ≠ .list xs := by intro xs e; subst e; cases hn
    obtain ⟨a, e1, h1, od, u, h2, h3⟩ := Rep.at so hn (b.rep hl)
    refine ⟨a, e1, ?_⟩
    unfold okKey at ok
    rw [Bool.and_eq_true] at ok
    obtain ⟨ok1, ok2⟩ := ok
    rcases key_rep so ok1 bk with ⟨kt, i, hy, hk⟩ | ⟨kt, ks, b', hy, hb, hk⟩
    · rw [kt] at ok2
      rcases h3 with ⟨kvs, rfl, h3⟩ | ⟨kvs, rfl, h3⟩
      · subst hy hk
        have hf := h3.find kD_eqv i
        rw [hx] at hf
        obtain ⟨w, e, r⟩ := hf
        exact ⟨w, .inl ⟨kvs, i, .inr ⟨od, h2⟩, rfl, e.symm⟩, r⟩
      · have em := all_both ok2 h3.tups
        subst em
        cases hx
    · rw [kt] at ok2
      rcases h3 with ⟨kvs, rfl, h3⟩ | ⟨kvs, rfl, h3⟩
      · have em := all_both h3.atoms ok2
        subst em
        cases hx
      · subst hy hk
        have hf := h3.find kT_eqv ks
        rw [hx] at hf
        obtain ⟨w, e, r⟩ := hf
        exact ⟨w, .inr ⟨kvs, ks, b', .inr ⟨od, h2⟩, rfl, hb, e.symm⟩, r⟩
  · cases e
theorem getD_ok (hu : X.A.units + 1 < cLine) : IxR X (rI X.K Cn) := by
  intro value slice pins s σ H x y v u Q I rx ry h hs
  obtain ⟨W, S, d1, d2, d, so, b1, b2, e, q⟩ := h
  unfold getD at e
  split at e
  · rename_i m hm
    split at e
    · rename_i ok
      obtain ⟨a, n, H', rfl, hn, ho, I', so', g, f⟩ := fits I so b1 hm ok b2
      obtain ⟨o, hg, hf⟩ := f.get
      rw [e] at hf
      obtain ⟨w, rfl, hw⟩ := hf
      cases rx
      refine PyProof.Rows.tail_any (ops := [.ref a, u]) (dict_typeIs I' hg) PySem.F.slot_dict_getitem.lookup (d_getItem hu I' hg ry fun w' s' I2 rw' => ⟨w, H', I2, rw', q w H' g so' hw⟩) hs
    · cases e
  · split at e
    · rename_i m hm
      split at e
      · rename_i ok
        obtain ⟨a, rfl, w, hg, hw⟩ := loc_get so b1 hm ok b2 e
        cases rx
        refine PyProof.Rows.tail_any (ops := [.ref a, u]) (dict_typeIs I hg) PySem.F.slot_dict_getitem.lookup (d_getItem hu I hg ry fun w' s' I2 rw' => ⟨w, H, I2, rw', q w H (Gr.refl W H) so hw⟩) hs
      · cases e
    · split at e
      · rename_i i
        obtain rfl := b2.int
        split at e
        · rename_i z _ _
          obtain rfl := b1.str
          split at e
          · rename_i hl
            rw [Option.map_eq_some_iff] at e
            obtain ⟨c, hc, rfl⟩ := e
            exact ix_str value slice pins s σ H _ _ v u Q I rx ry ⟨z, i, c, rfl, rfl, line_le hl, hc, q _ H (Gr.refl W H) so (.str _)⟩ hs
          · cases e
        · rw [Option.bind_eq_some_iff] at e
          obtain ⟨xs, hx, e⟩ := e
          obtain ⟨l, vs, rfl, hL, r⟩ := seqOf_rep so b1 hx
          obtain ⟨w, hw, hr⟩ := r.at e
          rcases hL with hL | hL
          · exact ix_list value slice pins s σ H _ _ v u Q I rx ry ⟨l, vs, i, w, rfl, rfl, hL, hw, q _ H (Gr.refl W H) so hr⟩ hs
          · exact ix_tup value slice pins s σ H _ _ v u Q I rx ry ⟨l, vs, i, w, rfl, rfl, hL, hw, q _ H (Gr.refl W H) so hr⟩ hs
      · cases e
def rSl (K : PySem.W.Frag) (Cn : Str → Option Addr) : V → Option Int → Option Int → Hp → VK → Prop := fun x lo hi H Q => ∃ W S d1 d, StOk K Cn W S H ∧ BRep K W H x d1 ∧ cutD S d1 lo hi = some d ∧ Out K Cn W H S d Q
theorem RepL.cut {K : PySem.W.Frag} {W : Wd} {vs : List V} {ds : List D} {lo hi : Option Int} (r : RepL K W vs ds) : RepL K W (cutV vs lo hi) (cutL ds lo hi) := by
  unfold cutV cutL
  rw [r.length]
  exact (r.drop _).take _
theorem cutL_all {α : Type} {xs : List α} {lo hi : Option Int} (h1 : HT.sIx xs.length 0 lo = 0) (h2 : HT.sIx xs.length xs.length hi = xs.length) : cutL xs lo hi = xs := by
  have h1' : cutIx xs.length 0 lo = 0 := h1
  have h2' : cutIx xs.length xs.length hi = xs.length := h2
  unfold cutL
  rw [h1', h2', List.drop_zero, Nat.sub_zero, List.take_length]
theorem cutD_ok : SlR X (rSl X.K Cn) := by
  intro pins s σ H x v vl vu lo hi sl Q I rx hs pl pu h
  obtain ⟨W, S, d1, d, so, b1, e, q⟩ := h
  unfold cutD at e
  split at e
  · rename_i xs
    cases e
    obtain ⟨l, vs, rfl, hL, r⟩ := b1.tup so
    refine sl_tupA pins s σ H _ v vl vu lo hi sl Q I rx hs pl pu ⟨l, vs, rfl, hL, fun hw => ?_, fun _ p hp => q.tup so hp r.cut⟩
    rw [r.length] at hw
    rw [cutL_all hw.1 hw.2] at q
    exact q.flat so (b1.rep (by intro _ h; cases h)) (by intro _ h; cases h)
  · rename_i z
    split at e
    · rename_i hl
      cases e
      obtain rfl := b1.str
      refine sl_str pins s σ H _ v vl vu lo hi sl Q I rx hs pl pu ⟨z, rfl, line_le hl, ?_⟩
      exact q.flat so (.str _) (by intro _ h; cases h)
    · cases e
  · rename_i d1 _ _
    rw [Option.map_eq_some_iff] at e
    obtain ⟨xs, hx, rfl⟩ := e
    obtain ⟨l, vs, rfl, hL, r⟩ := lstOf_rep so b1 hx
    exact sl_list pins s σ H _ v vl vu lo hi sl Q I rx hs pl pu ⟨l, vs, rfl, SqL.of hL, fun p hp => q.lst so hp r.cut⟩
def bv : B1 → Value
  | .len => .builtin "len"
  | .abs => .builtin "abs"
  | .int => .type "int"
  | .str => .type "str"
  | .sum => .builtin "sum"
  | .max => .builtin "max"
  | .min => .builtin "min"
  | .sorted => .builtin "sorted"
  | .tuple => .type "tuple"
  | .list => .type "list"
  | .all => .builtin "all"
  | .any => .builtin "any"
  | .repr => .builtin "repr"
  | .sset => .builtin "sorted"
  | .lset => .builtin "len"
def r1 (K : PySem.W.Frag) (Cn : Str → Option Addr) (b : B1) : List V → Hp → VK → Prop := fun xs H Q => ∃ W S x d1 d, xs = [x] ∧ StOk K Cn W S H ∧ BRep K W H x d1 ∧ call1 S b d1 = some d ∧ Out K Cn W H S d Q
theorem c_abs : CallR X (.builtin "abs") (r1 X.K Cn .abs) := by
  intro pins s σ H xs us Q I r h
  obtain ⟨W, S, x, d1, d, rfl, so, b1, e, q⟩ := h
  unfold call1 at e
  split at e <;> try contradiction
  rename_i i _
  cases e
  obtain rfl := b1.int
  exact call_abs pins s σ H _ us Q I r ⟨i, rfl, q.flat so (.int _) (by intro _ h; cases h)⟩
theorem c_int : CallR X (.type "int") (r1 X.K Cn .int) := by
  intro pins s σ H xs us Q I r h
  obtain ⟨W, S, x, d1, d, rfl, so, b1, e, q⟩ := h
  cases d1 with
  | int i =>
    cases e
    obtain rfl := b1.int
    exact call_int1 pins s σ H _ us Q I r (.inl ⟨i, rfl, q.flat so (.int _) (by intro _ h; cases h)⟩)
  | bool i =>
    cases e
    obtain rfl := b1.bool
    exact call_int1 pins s σ H _ us Q I r (.inr ⟨i, rfl, q.flat so (.int _) (by intro _ h; cases h)⟩)
  | str z =>
    change (if z.length ≤ 640 then (intText? z).map PyData.int else none) = some d at e
    split at e
    · rename_i hl
      rw [Option.map_eq_some_iff] at e
      obtain ⟨n, hn, rfl⟩ := e
      obtain rfl := b1.str
      exact call_int_str pins s σ H _ us Q I r ⟨z, n, rfl, hn, hl, q.flat so (.int _) (by intro _ h; cases h)⟩
    · cases e
  | _ => cases e
theorem log2_small {n : Nat} (h : n < 1000000000000000000) : n.log2 < 1920 := by
  by_cases z : n = 0
  · subst z; decide
  · rw [Nat.log2_lt z]
    exact Nat.lt_of_lt_of_le h (Nat.le_trans (by decide : 1000000000000000000 ≤ 2 ^ 60) (Nat.pow_le_pow_right (by decide) (by decide)))
theorem c_str : CallR X (.type "str") (r1 X.K Cn .str) := by
  intro pins s σ H xs us Q I r h
  obtain ⟨W, S, x, d1, d, rfl, so, b1, e, q⟩ := h
  cases d1 with
  | int i =>
    change (if bigI i then some (PyData.str (toString i)) else none) = some d at e
    split at e
    · rename_i hl
      cases e
      obtain rfl := b1.int
      exact call_str_int pins s σ H _ us Q I r ⟨i, rfl, log2_small (of_decide_eq_true hl), q.flat so (.str _) (by intro _ h; cases h)⟩
    · cases e
  | _ => cases e
theorem dicOf_objN {S : Store} {d : D} {m : List (D × D)} (h : dicOf S d = some m) : ∀ xs, d ≠ .list xs := by
  intro xs e
  subst e
  cases h
theorem c_len : CallR X (.builtin "len") (r1 X.K Cn .len) := by
  intro pins s σ H xs us Q I r h
  obtain ⟨W, S, x, d1, d, rfl, so, b1, e, q⟩ := h
  unfold call1 at e
  split at e <;> try contradiction
  · rename_i z _
    split at e
    · rename_i hl
      cases e
      obtain rfl := b1.str
      exact call_len_str pins s σ H _ us Q I r ⟨z, rfl, line_le hl, q.flat so (.int _) (by intro _ h; cases h)⟩
    · cases e
  · split at e
    · rename_i ys hy
      cases e
      obtain ⟨l, vs, rfl, hL, rr⟩ := seqOf_rep so b1 hy
      refine call_len_seq pins s σ H _ us Q I r ⟨l, vs, rfl, hL, ?_⟩
      rw [rr.length]
      exact q.flat so (.int _) (by intro _ h; cases h)
    · rw [Option.map_eq_some_iff] at e
      obtain ⟨m, hm, rfl⟩ := e
      obtain ⟨a, n, rfl, hn, ho, hd⟩ := dicOf_rep so b1 hm
      have q' : Q (.int m.length) H := q.flat so (.int _) (by intro _ h; cases h)
      rcases hd with ⟨kvs, h1, h2⟩ | ⟨kvs, h1, h2⟩
      · obtain ⟨u, rfl, rx⟩ := vals1 r
        cases rx
        refine d_len I (.of h1) fun t s' I' => ⟨.int _, H, I', ⟨_, rfl⟩, ?_⟩
        rw [h2.len]; exact q'
      · refine call_len_dT pins s σ H _ us Q I r ⟨a, kvs, rfl, h1, ?_⟩
        rw [h2.len]; exact q'
theorem c_sum (hc : X.calm = true) : CallR X (.builtin "sum") (r1 X.K Cn .sum) := by
  intro pins s σ H xs us Q I r h
  obtain ⟨W, S, x, d1, d, rfl, so, b1, e, q⟩ := h
  change (lstOf S d1).bind _ = some d at e
  rw [Option.bind_eq_some_iff] at e
  obtain ⟨ys, hy, e⟩ := e
  rw [Option.map_eq_some_iff] at e
  obtain ⟨ns, hn, rfl⟩ := e
  obtain ⟨l, vs, rfl, hL, rr⟩ := lstOf_rep so b1 hy
  obtain rfl := rr.of_ints hn
  exact cr_sum hc pins s σ H _ us Q I r ⟨l, ns, rfl, SqL.of hL, q.flat so (.int _) (by intro _ h; cases h)⟩
theorem c_all (hc : X.calm = true) : CallR X (.builtin "all") (r1 X.K Cn .all) := by
  intro pins s σ H xs us Q I r h
  obtain ⟨W, S, x, d1, d, rfl, so, b1, e, q⟩ := h
  change (lstOf S d1).bind _ = some d at e
  rw [Option.bind_eq_some_iff] at e
  obtain ⟨ys, hy, e⟩ := e
  rw [Option.map_eq_some_iff] at e
  obtain ⟨ns, hn, rfl⟩ := e
  obtain ⟨l, vs, rfl, hL, rr⟩ := lstOf_rep so b1 hy
  obtain rfl := rr.of_bools hn
  exact cr_all hc pins s σ H _ us Q I r ⟨l, ns, rfl, SqL.of hL, q.flat so (.bl _) (by intro _ h; cases h)⟩
theorem c_any (hc : X.calm = true) : CallR X (.builtin "any") (r1 X.K Cn .any) := by
  intro pins s σ H xs us Q I r h
  obtain ⟨W, S, x, d1, d, rfl, so, b1, e, q⟩ := h
  change (lstOf S d1).bind _ = some d at e
  rw [Option.bind_eq_some_iff] at e
  obtain ⟨ys, hy, e⟩ := e
  rw [Option.map_eq_some_iff] at e
  obtain ⟨ns, hn, rfl⟩ := e
  obtain ⟨l, vs, rfl, hL, rr⟩ := lstOf_rep so b1 hy
  obtain rfl := rr.of_bools hn
  exact cr_any hc pins s σ H _ us Q I r ⟨l, ns, rfl, SqL.of hL, q.flat so (.bl _) (by intro _ h; cases h)⟩
theorem c_list : CallR X (.type "list") (r1 X.K Cn .list) := by
  intro pins s σ H xs us Q I r h
  obtain ⟨W, S, x, d1, d, rfl, so, b1, e, q⟩ := h
  change (seqOf S d1).map _ = some d at e
  rw [Option.map_eq_some_iff] at e
  obtain ⟨ys, hy, rfl⟩ := e
  obtain ⟨l, vs, rfl, hL, rr⟩ := seqOf_rep so b1 hy
  exact call_list_of pins s σ H _ us Q I r ⟨l, vs, rfl, hL, fun p hp => q.lst so hp rr⟩
theorem c_tuple : CallR X (.type "tuple") (r1 X.K Cn .tuple) := by
  intro pins s σ H xs us Q I r h
  obtain ⟨W, S, x, d1, d, rfl, so, b1, e, q⟩ := h
  change (seqOf S d1).map _ = some d at e
  rw [Option.map_eq_some_iff] at e
  obtain ⟨ys, hy, rfl⟩ := e
  cases d1 with
  | tuple zs =>
    have hz : some zs = some ys := hy
    cases hz
    obtain ⟨a, vs, rfl, h1, h2⟩ := b1.tup so
    exact call_tuple_of pins s σ H _ us Q I r ⟨a, vs, rfl, .inr ⟨h1, q.flat so (b1.rep (by intro _ h; cases h)) (by intro _ h; cases h)⟩⟩
  | _ =>
    obtain ⟨a, vs, rfl, h1, h2⟩ := seqOf_lst so b1 hy (by intro _ h; cases h)
    exact call_tuple_of pins s σ H _ us Q I r ⟨a, vs, rfl, .inl ⟨h1, fun p hp => q.tup so hp h2⟩⟩
theorem alike_of {xs : List D} (h : allAlike xs = true) : W.AllAlike xs := fun d hd d' hd' => List.all_eq_true.mp (List.all_eq_true.mp h d hd) d' hd'
theorem sortable_of {xs : List D} (h : sortable xs = true) : W.AllAlike xs ∧ W.Sortable xs ∧ SeqAt.shaped (.list xs) = true ∧ W.AlikeAll xs := by
  unfold sortable at h
  rw [Bool.and_eq_true, Bool.and_eq_true, Bool.or_eq_true] at h
  obtain ⟨⟨h1, h2⟩, h3⟩ := h
  have hs : W.Sortable xs := by
    rcases h3 with h3 | h3
    · refine .inl fun d hd => ?_
      have := List.all_eq_true.mp h3 d hd
      unfold isTup1 at this
      split at this
      · exact ⟨_, _, rfl⟩
      · cases this
    · refine .inr fun d hd => ?_
      have := List.all_eq_true.mp h3 d hd
      constructor
      · intro e; subst e; cases this
      · intro ys e; subst e; cases this
  refine ⟨alike_of h1, hs, h2, alike_of h1, fun d hd e => ?_⟩
  subst e
  rcases hs with hs | hs
  · obtain ⟨_, _, e⟩ := hs _ hd; cases e
  · exact (hs _ hd).1 rfl
theorem RepL.dpl {K : PySem.W.Frag} {W : Wd} {S : Store} {H : Hp} {vs : List V} {xs : List D} (so : StOk K Cn W S H) (r : RepL K W vs xs) (h : SeqAt.shaped (.list xs) = true) : DpAll K H vs xs :=
  r.dp so.sub (by have := shaped_lay h; simpa [PyData.canLay0] using this)
theorem depthAll_of {xs : List D} (h : SeqAt.shaped (.list xs) = true) : PyData.depthAll xs ≤ 63 := by
  have := SeqAt.depth_of_shaped h
  rw [PyData.depth] at this
  omega
theorem pick {pins : List (Addr × Obj)} {σ : L2.St} {H : Hp} {s : Shared} {W : Wd} {vs : List V} {xs : List D} {its : List Value} {h' : Heap} {bs : List Addr} {i : Nat} {u : Value} {d : D} (I : Inv X pins σ H s) (rd : DpAll X.K H vs xs) (r : RepL X.K W vs xs) (rv : Vals vs its)
    (hu : its.toArray[i]? = some u) (hr : Reads h' u d bs) (hk : ∀ b o, s.heap.get? b = some o → h'.get? b = some o) (hc : d.canLay0 = true) : ∃ v, RelV v u ∧ Rep X.K W v d := by
  have hu' : its[i]? = some u := by simpa using hu
  have hl : i < vs.length := by
    rw [rv.length]
    exact (List.getElem?_eq_some_iff.mp hu').1
  have hv : vs[i]? = some vs[i] := List.getElem?_eq_getElem hl
  obtain ⟨w, hw, rw'⟩ := rv.get hv
  rw [hu'] at hw
  cases hw
  obtain ⟨d', hd, rep⟩ := r.get hv
  obtain ⟨as, ra⟩ := Dp.readsAll I xs vs its rd rv
  obtain ⟨bs', r1, _, _, _⟩ := PySem.W.readsAll_at ra i u hu'
  have e : xs.getD i .none = d' := by rw [List.getD_eq_getElem?_getD, hd]; rfl
  rw [e] at r1
  have e2 : d = d' := SeqAt.Reads.unique d d' u bs bs' hc hr (Reads.keeps hk r1)
  subst e2
  exact ⟨_, rw', rep⟩
theorem foldl_mem {α : Type} (f : α → α → Bool) : ∀ (x : α) (xs : List α), xs.foldl (fun a y => if f a y then y else a) x ∈ x :: xs
  | x, [] => List.mem_cons_self
  | x, y :: ys => by
    rw [List.foldl_cons]
    have h := foldl_mem f (if f x y then y else x) ys
    rcases List.mem_cons.mp h with h | h
    · rw [h]
      split
      · exact List.mem_cons_of_mem _ List.mem_cons_self
      · exact List.mem_cons_self
    · exact List.mem_cons_of_mem _ (List.mem_cons_of_mem _ h)
theorem maxD_mem (x : D) (xs : List D) : W.maxD x xs ∈ x :: xs := foldl_mem (fun a y => W.dataLt a y) x xs
theorem minD_mem (x : D) (xs : List D) : W.minD x xs ∈ x :: xs := foldl_mem (fun a y => W.dataLt y a) x xs
theorem canLay_mem {xs : List D} {d : D} (h : SeqAt.shaped (.list xs) = true) (hd : d ∈ xs) : d.canLay0 = true := by
  have h1 := shaped_lay h
  rw [PyData.canLay0] at h1
  induction xs with
  | nil => cases hd
  | cons x xs ih =>
    rw [PyData.canLayAll0, Bool.and_eq_true] at h1
    rcases List.mem_cons.mp hd with e | e
    · subst e; exact h1.1
    · refine ih ?_ e h1.2
      have h2 := SeqAt.depth_of_shaped h
      rw [PyData.depth, PyData.depthAll] at h2
      unfold SeqAt.shaped
      rw [Bool.and_eq_true]
      refine ⟨by rw [PyData.canLay0]; exact h1.2, decide_eq_true ?_⟩
      rw [PyData.depth]
      omega
theorem Out.rep {K : PySem.W.Frag} {W : Wd} {H : Hp} {S : Store} {v : V} {d : D} {Q : VK} (p0 : Out K Cn W H S d Q) (s : StOk K Cn W S H) (r : Rep K W v d) (h : ∀ xs, d ≠ .list xs) : Q v H := p0.flat s r h
theorem c_best {id : String} {B : B1} {f : D → List D → D} (hc : X.calm = true) (hu : X.A.units + 65 < cLine) (hB : ∀ S d, call1 S B d = (seqOf S d).bind fun xs => if sortable xs then (match xs with
    | [] => none
    | x :: r => if (match f x r with
      | .list _ => true
      | _ => false) then none else some (f x r)) else none)
    (hf : ∀ x r, f x r ∈ x :: r)
    (hL : ∀ {s : Shared} {E : Value → Shared → Prop} {l : Addr} {vs : Array Value} {x : PyData} {xs : List PyData} {as : List Addr} {Q : Value → Shared → Prop}, X.A.handled = none → s.heap.IsList l vs → ReadsAll s.heap vs.toList (x :: xs) as → W.AlikeAll (x :: xs) → X.A.units + 1 + PyData.depthAll (x :: xs) < cLine →
      (∀ (i : Nat) v h' tk bs, vs[i]? = some v → Reads h' v (f x xs) bs → (∀ b o, s.heap.get? b = some o → h'.get? b = some o) → Q v { s with heap := h', toks := tk }) → wpAny (model X.prog X.w) X.A (call (.builtin id) [.ref l]) Q E s)
    (hT : ∀ {s : Shared} {E : Value → Shared → Prop} {l : Addr} {vs : Array Value} {x : PyData} {xs : List PyData} {as : List Addr} {Q : Value → Shared → Prop}, X.A.handled = none → s.heap.IsTuple l vs → ReadsAll s.heap vs.toList (x :: xs) as → W.AlikeAll (x :: xs) → X.A.units + 1 + PyData.depthAll (x :: xs) < cLine →
      (∀ (i : Nat) v h' tk bs, vs[i]? = some v → Reads h' v (f x xs) bs → (∀ b o, s.heap.get? b = some o → h'.get? b = some o) → Q v { s with heap := h', toks := tk }) → wpAny (model X.prog X.w) X.A (call (.builtin id) [.ref l]) Q E s) :
    CallR X (.builtin id) (r1 X.K Cn B) := by
  intro pins s σ H xs us Q I r h
  obtain ⟨W, S, x, d1, d, rfl, so, b1, e, q⟩ := h
  rw [hB, Option.bind_eq_some_iff] at e
  obtain ⟨ys, hy, e⟩ := e
  split at e
  · rename_i hs
    obtain ⟨k1, k2, k3, k4⟩ := sortable_of hs
    cases ys with
    | nil => cases e
    | cons y ys =>
      dsimp only at e
      split at e
      · cases e
      · rename_i hn
        have hd : f y ys = d := Option.some.inj e
        have hm := hf y ys
        rw [hd] at hm hn
        obtain ⟨l, vs, rfl, hl, rr⟩ := seqOf_rep so b1 hy
        have rd := rr.dpl so k3
        have fin : ∀ (its : List Value) (i : Nat) (v : Value) (h' : Heap) (tk : Nat) (bs : List Addr), Vals vs its → its.toArray[i]? = some v → Reads h' v (f y ys) bs → (∀ b o, s.heap.get? b = some o → h'.get? b = some o) → EP X pins σ Q v { s with heap := h', toks := tk } := fun its i v h' tk bs rv hv hr hk => by
          rw [hd] at hr
          obtain ⟨z, h1, h2⟩ := pick I rd rr rv hv hr hk (canLay_mem k3 hm)
          exact ⟨z, H, I.kept hk, h1, q.flat so h2 hn⟩
        have dp := depthAll_of k3
        rw [Vals.ref1 r]
        rcases hl with hl | hl
        · obtain ⟨its, rv, hi, _⟩ := I.list hl
          obtain ⟨as, ra⟩ := Dp.readsAll I _ vs its rd rv
          exact hL (I.ok.hd hc) hi.isList (by simpa using ra) k4 (by omega) fun i v h' tk bs hv hr hk => fin its i v h' tk bs rv hv hr hk
        · obtain ⟨its, rv, hi, _⟩ := I.tuple hl
          obtain ⟨as, ra⟩ := Dp.readsAll I _ vs its rd rv
          exact hT (I.ok.hd hc) hi (by simpa using ra) k4 (by omega) fun i v h' tk bs hv hr hk => fin its i v h' tk bs rv hv hr hk
  · cases e
theorem c_max (hc : X.calm = true) (hu : X.A.units + 65 < cLine) : CallR X (.builtin "max") (r1 X.K Cn .max) :=
  c_best (f := W.maxD) hc hu (fun _ _ => rfl) maxD_mem (fun a b c d e f => W.max_list_data a b c d e f) (fun a b c d e f => W.max_tuple_data a b c d e f)
theorem c_min (hc : X.calm = true) (hu : X.A.units + 65 < cLine) : CallR X (.builtin "min") (r1 X.K Cn .min) :=
  c_best (f := W.minD) hc hu (fun _ _ => rfl) minD_mem (fun a b c d e f => W.min_list_data a b c d e f) (fun a b c d e f => W.min_tuple_data a b c d e f)
theorem zip_is {K : PySem.W.Frag} {W : Wd} : ∀ {vs : List V} {xs : List D} {its : List Value}, RepL K W vs xs → Vals vs its → PySem.W.EachIs (fun (u : Value) (b : V × D) => RelV b.1 u ∧ Rep K W b.1 b.2) its (vs.zip xs)
  | _, _, _, .nil, .nil => .nil
  | _, _, _, .cons r rr, .cons h hh => .cons ⟨h, r⟩ (zip_is rr hh)
theorem zip_reads {h : Heap} : ∀ {vs : List V} {xs : List D} {its : List Value} {as : List Addr}, vs.length = xs.length → ReadsAll h its xs as → PySem.W.EachIs (fun (u : Value) (b : V × D) => ∃ as, Reads h u b.2 as) its (vs.zip xs)
  | [], [], _, _, _, .nil => .nil
  | _ :: vs, _ :: xs, _, _, e, .cons r rr => .cons ⟨_, r⟩ (zip_reads (by simpa using e) rr)
theorem each_out {K : PySem.W.Frag} {W : Wd} : ∀ {out : List Value} {bs : List (V × D)}, PySem.W.EachIs (fun (u : Value) (b : V × D) => RelV b.1 u ∧ Rep K W b.1 b.2) out bs → Vals (bs.map Prod.fst) out ∧ RepL K W (bs.map Prod.fst) (bs.map Prod.snd)
  | _, _, .nil => ⟨.nil, .nil⟩
  | _, _, .cons h hh => ⟨.cons h.1 (each_out hh).1, .cons h.2 (each_out hh).2⟩
theorem depth_mem {xs : List D} {d : D} (hd : d ∈ xs) : d.depth ≤ PyData.depthAll xs := by
  induction xs with
  | nil => cases hd
  | cons x xs ih =>
    rw [PyData.depthAll]
    rcases List.mem_cons.mp hd with e | e
    · subst e; omega
    · have := ih e; omega
theorem DRep.intKeys {K : PySem.W.Frag} {W : Wd} {ns : List Int} : ∀ {kvs : List (Key × V)} {m : List (D × D)}, DRep K W kD kvs m → intsD (m.map (·.1)) = some ns → kvs.map (·.1) = ns.map Sum.inl := by
  intro kvs m h
  induction h generalizing ns with
  | nil => intro e; cases e; rfl
  | @cons k v d r s hd hr ih =>
    intro e
    rw [List.map_cons] at e
    cases k with
    | inr z => simp [kD, intsD] at e
    | inl i =>
      simp only [kD, intsD, Option.map_eq_some_iff] at e
      obtain ⟨ms, e1, rfl⟩ := e
      rw [List.map_cons, List.map_cons, ih e1]
theorem intsD_atoms {ns : List Int} : ∀ {m : List (D × D)}, intsD (m.map (·.1)) = some ns → (m.all fun p => keyT p.1 == false) = true := by
  intro m
  induction m generalizing ns with
  | nil => intro _; rfl
  | cons p m ih =>
    obtain ⟨k, v⟩ := p
    intro e
    cases k with
    | int i =>
      simp only [List.map_cons, intsD, Option.map_eq_some_iff] at e
      obtain ⟨ms, e1, _⟩ := e
      rw [List.all_cons, ih e1]; rfl
    | _ => simp [intsD] at e
theorem c_sorted (hc : X.calm = true) (hu : X.A.units + 66 < cLine) : CallR X (.builtin "sorted") (r1 X.K Cn .sorted) := by
  intro pins s σ H xs us Q I r h
  obtain ⟨W, S, x, d1, d, rfl, so, b1, e, q⟩ := h
  change (match dicOf S d1 with
    | some m => (intsD (m.map (·.1))).bind fun ns => if ns.length < 64 then some (PyData.list ((isortI ns).map .int)) else none
    | none => (lstOf S d1).bind fun xs => if sortable xs ∧ xs.length ≤ 1000000 then some (PyData.list (sortD xs)) else none) = some d at e
  split at e
  · rename_i m hm
    rw [Option.bind_eq_some_iff] at e
    obtain ⟨ns, hn, e⟩ := e
    split at e
    · rename_i h64
      cases e
      obtain ⟨a, n, H', kvs, rfl, ha, ho, I', so', g', h1, h2, _⟩ := dicK I so b1 hm (intsD_atoms hn)
      refine call_sortedDI hc pins s σ H' _ us Q I' r ⟨a, kvs, ns, rfl, .of h1, h2.intKeys hn, h64, fun ys p pm asc hp => ?_⟩
      rw [asc_perm asc (isortI_asc ns) (pm.trans (isortI_perm ns).symm)]
      exact (q.shift g').lst so' hp (RepL.ints _)
    · cases e
  rename_i hm
  rw [Option.bind_eq_some_iff] at e
  obtain ⟨ys, hy, e⟩ := e
  split at e
  · rename_i hs
    obtain ⟨hs, hlen⟩ := hs
    cases e
    obtain ⟨k1, k2, k3, k4⟩ := sortable_of hs
    obtain ⟨l, vs, rfl, hl, rr⟩ := lstOf_rep so b1 hy
    have rd := rr.dpl so k3
    obtain ⟨its, rv, hi, _⟩ := I.list (SqL.of hl)
    obtain ⟨as, ra⟩ := Dp.readsAll I _ vs its rd rv
    have es : (vs.zip ys).map Prod.snd = ys := List.map_snd_zip (by rw [rr.length]; exact Nat.le_refl _)
    have dp := depthAll_of k3
    rw [Vals.ref1 r]
    refine PySem.W.sorted_data (bs := vs.zip ys) (enc := Prod.snd) hi.isList (zip_is rr rv) (zip_reads rr.length ra) (by rw [es]; exact k1) (by rw [es]; exact k2) ?_ (fun b hb => ?_) fun out ho eo => ?_
    · rw [List.length_zip, rr.length, Nat.min_self]; exact line_le hlen
    · have hb2 : b.2 ∈ ys := by rw [← es]; exact List.mem_map.mpr ⟨b, hb, rfl⟩
      have := depth_mem hb2
      omega
    · obtain ⟨o1, o2⟩ := each_out eo
      have e2 : ((vs.zip ys).mergeSort (PySem.W.dataLe false Prod.snd)).map Prod.snd = sortD ys := by
        have hm := List.map_mergeSort (r := PySem.W.dataLe false Prod.snd) (s := fun a b => !PySem.W.dataLt b a) (f := Prod.snd) (l := vs.zip ys) (fun _ _ _ _ => rfl)
        rw [es] at hm
        exact hm
      rw [e2] at o2
      obtain ⟨ep, he'⟩ := PyProof.Rows.sortedAll_at s.heap its out.toArray
      have hl2 : (((vs.zip ys).mergeSort (PySem.W.dataLe false Prod.snd)).map Prod.fst).length ≤ sizeLine := by
        rw [List.length_map, List.length_mergeSort, List.length_zip, rr.length, Nat.min_self]; exact line_le hlen
      refine ⟨.ref _, upd H (s.heap.objs.size + 1) (.lst _), I.laid (t' := s.toks) (fun _ _ => PyProof.Rows.sortedAll_old) (Nat.le_succ _) ⟨hl2, out, ep, o1, he'⟩, rfl, ?_⟩
      exact q.lst so (I.hok.fresh (Nat.le_succ _)) o2
  · cases e
theorem c_repr (hg : X.A.guards = some []) (hu : X.A.units + 66 < cLine) : CallR X (.builtin "repr") (r1 X.K Cn .repr) := by
  intro pins s σ H xs us Q I r h
  obtain ⟨W, S, x, d1, d, rfl, so, b1, e, q⟩ := h
  change (if SeqAt.shaped d1 && d1.showable && decide (d1.shown.length ≤ 1000000) then some (PyData.str d1.shown) else none) = some d at e
  split at e
  · rename_i hh
    cases e
    rw [Bool.and_eq_true, Bool.and_eq_true] at hh
    obtain ⟨⟨h1, h2⟩, h3⟩ := hh
    have h3 := line_le (of_decide_eq_true h3)
    have q' : Q (.str d1.shown) H := q.flat so (.str _) (by intro _ h; cases h)
    have dp := b1.dp so h1
    obtain ⟨u, rfl, rx⟩ := vals1 r
    have ref : ∀ a, u = .ref a → wpAny (model X.prog X.w) X.A (call (.builtin "repr") [u]) (EP X pins σ Q) X.xe s := fun a ea => by
      subst ea
      obtain ⟨as, ra⟩ := Dp.reads I d1 x _ dp rx
      have := SeqAt.depth_of_shaped h1
      exact repr_of_reads' ra h2 (PyData.noDict_hsm (PyData.hasDict_of_canLay d1 (shaped_lay h1))) hg (by omega) (fun _ _ h => h) (fun h' u tk hk => ⟨.str _, H, I.kept hk, ⟨_, rfl⟩, q'⟩) h3
    cases dp with
    | non => cases rx; exact PySem.P.repr_of_none ⟨.str _, H, I.tok _, ⟨_, rfl⟩, q'⟩
    | bl b => cases rx; exact PySem.P.repr_of_bool ⟨.str _, H, I.tok _, ⟨_, rfl⟩, q'⟩
    | int i =>
      obtain ⟨t, rfl⟩ := rx
      exact PySem.P.repr_of_int (by simpa [PyData.showable] using h2) ⟨.str _, H, I.tok _, ⟨_, rfl⟩, q'⟩
    | str z =>
      obtain ⟨t, rfl⟩ := rx
      exact PySem.P.repr_of_str ⟨.str _, H, I.tok _, ⟨_, rfl⟩, q'⟩ h3
    | _ => exact ref _ rx
  · cases e
def r2c (K : PySem.W.Frag) (Cn : Str → Option Addr) (b : B2) : List V → Hp → VK → Prop := fun xs H Q => ∃ W S x y d1 d2 d, xs = [x, y] ∧ StOk K Cn W S H ∧ BRep K W H x d1 ∧ BRep K W H y d2 ∧ call2 b d1 d2 = some d ∧ Out K Cn W H S d Q
def bv2 : B2 → Value
  | .max => .builtin "max"
  | .min => .builtin "min"
theorem c2_ok (hc : X.calm = true) (b : B2) : CallR X (bv2 b) (r2c X.K Cn b) := by
  intro pins s σ H xs us Q I r h
  obtain ⟨W, S, x, y, d1, d2, d, rfl, so, b1, b2, e, q⟩ := h
  unfold call2 at e
  split at e <;> try contradiction
  · rename_i i j
    cases e
    obtain rfl := b1.int
    obtain rfl := b2.int
    exact call_max2 hc pins s σ H _ us Q I r ⟨i, j, rfl, q.flat so (.int _) (by intro _ h; cases h)⟩
  · rename_i i j
    cases e
    obtain rfl := b1.int
    obtain rfl := b2.int
    exact call_min2 hc pins s σ H _ us Q I r ⟨i, j, rfl, q.flat so (.int _) (by intro _ h; cases h)⟩
def rIs (K : PySem.W.Frag) (Cn : Str → Option Addr) : List V → Hp → VK → Prop := fun xs H Q => ∃ W S x d1 ty b, xs = [x, .ty ty] ∧ StOk K Cn W S H ∧ BRep K W H x d1 ∧ isiD S d1 ty = some b ∧ Q (.bl b) H
theorem isi_ok : CallR X (.builtin "isinstance") (rIs X.K Cn) := by
  intro pins s σ H xs us Q I r h
  obtain ⟨W, S, x, d1, ty, b, rfl, so, b1, e, q⟩ := h
  have go : ∀ {T : String}, TyOf X.K H x (.type T) → kitB T ty = some b → wpAny (model X.prog X.w) X.A (call (.builtin "isinstance") us) (EP X pins σ Q) X.xe s := fun {T} h k =>
    call_isi pins s σ H _ us Q I r ⟨x, .ty ty, .type T, .type ty, b, rfl, .ty ty, .base h, kit_ty k, q⟩
  have two : ∀ {T : String} {y n : List String}, inTy y n ty = some b → TyOf X.K H x (.type T) → (y.all fun t => kitB T t == some true) = true → (n.all fun t => kitB T t == some false) = true →
      wpAny (model X.prog X.w) X.A (call (.builtin "isinstance") us) (EP X pins σ Q) X.xe s := fun {T y n} e h k1 k2 => by
    unfold inTy at e
    split at e
    · rename_i hm
      cases e
      exact go h (by simpa using List.all_eq_true.mp k1 ty hm)
    · split at e
      · rename_i hm
        cases e
        exact go h (by simpa using List.all_eq_true.mp k2 ty hm)
      · cases e
  unfold isiD at e
  split at e
  · obtain rfl := b1.none
    exact two e .non (by decide +kernel) (by decide +kernel)
  · obtain rfl := b1.bool
    exact two e (.bl _) (by decide +kernel) (by decide +kernel)
  · obtain rfl := b1.int
    exact two e (.int _) (by decide +kernel) (by decide +kernel)
  · obtain rfl := b1.str
    exact two e (.str _) (by decide +kernel) (by decide +kernel)
  · obtain ⟨a, vs, rfl, h1, h2⟩ := b1.tup1 so
    exact two e (.tup h1) (by decide +kernel) (by decide +kernel)
  · obtain ⟨a, vs, rfl, h1, h2⟩ := b1.lst so
    exact two e (.lst h1) (by decide +kernel) (by decide +kernel)
  · rename_i d1 hb hi hs ht hl
    split at e
    · rename_i n ys hn
      obtain ⟨a, rfl, _, ho⟩ := Rep.at so hn (b1.rep hl)
      obtain ⟨vs, h1, h2⟩ := ho
      exact two e (.lst h1) (by decide +kernel) (by decide +kernel)
    · rename_i n ys hn
      obtain ⟨a, rfl, _, ho⟩ := Rep.at so hn (b1.rep hl)
      rcases ho with ⟨kvs, h1, h2⟩ | ⟨kvs, h1, h2⟩
      · exact two e (.dK h1) (by decide +kernel) (by decide +kernel)
      · exact two e (.dT h1) (by decide +kernel) (by decide +kernel)
    · cases e
end
end PL
set_option autoImplicit false
set_option linter.all false
set_option maxRecDepth 100000
set_option Elab.async false
namespace PL
open PySem PySem.Spec PyProof.Rows L2
section
variable {K : PySem.W.Frag} {Cn : Str → Option Addr} {W W' Wb : Wd} {S : Store} {H H' Hb : Hp} {Γ : Env} {σ : L2.St}
theorem Gr.own {l : Addr} {o : HO} (g : Gr Wb Hb W H) (hl : Hb l = none) : Gr Wb Hb W (upd H l o) where
  gw := g.gw
  new := g.new
  newA := g.newA
  keep := fun a u h n => by rw [upd_ne (ne_of_none h hl)]; exact g.keep a u h n
  dom := fun a h => by
    by_cases e : a = l
    · subst e; exact hl
    · rw [upd_ne e] at h; exact g.dom a h
  frz := fun a u v h => by rw [upd_ne (ne_of_none h hl)]; exact g.frz a u v h
theorem StOk.own {l : Addr} {o : HO} (s : StOk K Cn W S H) (hf : W.Hf l = none) (ha : l ∉ W.A) : StOk K Cn W S (upd H l o) where
  sub := fun a u h => by
    rw [upd_ne (fun e => by subst e; rw [hf] at h; cases h)]; exact s.sub a u h
  len := s.len
  nd := s.nd
  off := s.off
  obj := fun n a u h1 h2 => by
    have ne : a ≠ l := fun e => by subst e; exact ha (List.mem_of_getElem? h1)
    have q := s.obj n a u h1 h2
    cases u with
    | lst xs => obtain ⟨vs, q1, q2⟩ := q; exact ⟨vs, by rw [upd_ne ne]; exact q1, q2⟩
    | dic m =>
      rcases q with ⟨kvs, q1, q2⟩ | ⟨kvs, q1, q2⟩
      · exact .inl ⟨kvs, by rw [upd_ne ne]; exact q1, q2⟩
      · exact .inr ⟨kvs, by rw [upd_ne ne]; exact q1, q2⟩
    | ins c fs => obtain ⟨C, dx, fs', q0, q1, q2⟩ := q; exact ⟨C, dx, fs', q0, by rw [upd_ne ne]; exact q1, q2⟩
    | loc m => obtain ⟨od, v, q1, q2⟩ := q; exact ⟨od, v, by rw [upd_ne ne]; exact q1, q2⟩
theorem set_get {α : Type} {xs : List α} {i j : Nat} {x y : α} (h : (xs.set i x)[j]? = some y) : (i = j ∧ y = x) ∨ (i ≠ j ∧ xs[j]? = some y) := by
  by_cases e : i = j
  · subst e
    by_cases hl : i < xs.length
    · rw [List.getElem?_set_self hl] at h
      cases h; exact .inl ⟨rfl, rfl⟩
    · rw [List.getElem?_eq_none (by rw [List.length_set]; omega)] at h; cases h
  · rw [List.getElem?_set_ne e] at h
    exact .inr ⟨e, h⟩
theorem EnvOk.lt (e : EnvOk K Hb W Γ σ H) {i : Nat} {x : Option Sl} (h : Γ[i]? = some x) : i < σ.length := by
  rw [← e.len]; exact (List.getElem?_eq_some_iff.mp h).1
theorem EnvOk.setP {i : Nat} {v : V} {d : D} (e : EnvOk K Hb W Γ σ H) (r : Rep K W v d) : EnvOk K Hb W (Γ.set i (some (.pure d))) (σ.set i (some v)) H where
  len := by rw [List.length_set, List.length_set]; exact e.len
  pure := fun j d' h => by
    rcases set_get h with ⟨ij, q⟩ | ⟨ij, q⟩
    · cases q
      subst ij
      have hl : i < Γ.length := by
        have := (List.getElem?_eq_some_iff.mp h).1
        rw [List.length_set] at this; exact this
      exact ⟨v, List.getElem?_set_self (by rw [← e.len]; exact hl), r⟩
    · obtain ⟨w, h1, h2⟩ := e.pure j d' q
      exact ⟨w, by rw [List.getElem?_set_ne ij]; exact h1, h2⟩
  own := fun j xs h => by
    rcases set_get h with ⟨ij, q⟩ | ⟨ij, q⟩
    · cases q
    · obtain ⟨l, vs, h1, h2⟩ := e.own j xs q
      exact ⟨l, vs, by rw [List.getElem?_set_ne ij]; exact h1, h2⟩
  ne := fun a b xs ys l ha hb h1 h2 => by
    rcases set_get ha with ⟨_, q⟩ | ⟨ia, qa⟩
    · cases q
    rcases set_get hb with ⟨_, q⟩ | ⟨ib, qb⟩
    · cases q
    rw [List.getElem?_set_ne ia] at h1
    rw [List.getElem?_set_ne ib] at h2
    exact e.ne a b xs ys l qa qb h1 h2
theorem EnvOk.setO {i : Nat} {l : Addr} {vs : List V} {xs : List D} (e : EnvOk K Hb W Γ σ H) (hn : ∀ (j : Nat) (ys : List D), Γ[j]? = some (some (.own ys)) → σ[j]? ≠ some (some (.ref l))) (hf : W.Hf l = none) (ha : l ∉ W.A) (hb : Hb l = none) (hl : H l = some (.lst vs)) (r : RepL K W vs xs) :
    EnvOk K Hb W (Γ.set i (some (.own xs))) (σ.set i (some (.ref l))) H where
  len := by rw [List.length_set, List.length_set]; exact e.len
  pure := fun j d' h => by
    rcases set_get h with ⟨ij, q⟩ | ⟨ij, q⟩
    · cases q
    · obtain ⟨w, h1, h2⟩ := e.pure j d' q
      exact ⟨w, by rw [List.getElem?_set_ne ij]; exact h1, h2⟩
  own := fun j ys h => by
    rcases set_get h with ⟨ij, q⟩ | ⟨ij, q⟩
    · cases q
      subst ij
      have hi : i < Γ.length := by
        have := (List.getElem?_eq_some_iff.mp h).1
        rw [List.length_set] at this; exact this
      exact ⟨l, vs, List.getElem?_set_self (by rw [← e.len]; exact hi), hf, ha, hb, hl, r⟩
    · obtain ⟨l', vs', h1, h2⟩ := e.own j ys q
      exact ⟨l', vs', by rw [List.getElem?_set_ne ij]; exact h1, h2⟩
  ne := fun a b ys zs l' ha' hb' h1 h2 => by
    rcases set_get ha' with ⟨ia, qa⟩ | ⟨ia, qa⟩
    · subst ia
      rcases set_get hb' with ⟨ib, qb⟩ | ⟨ib, qb⟩
      · exact ib
      · rw [List.getElem?_set_ne ib] at h2
        rcases set_get h1 with ⟨_, q⟩ | ⟨q, _⟩
        · cases q; exact (hn b zs qb h2).elim
        · exact (q rfl).elim
    · rw [List.getElem?_set_ne ia] at h1
      rcases set_get hb' with ⟨ib, qb⟩ | ⟨ib, qb⟩
      · subst ib
        rcases set_get h2 with ⟨_, q⟩ | ⟨q, _⟩
        · cases q; exact (hn a ys qa h1).elim
        · exact (q rfl).elim
      · rw [List.getElem?_set_ne ib] at h2
        exact e.ne a b ys zs l' qa qb h1 h2
theorem EnvOk.chg {i : Nat} {l : Addr} {vs' : List V} {xs xs' : List D} (e : EnvOk K Hb W Γ σ H) (hi : Γ[i]? = some (some (.own xs))) (hs : σ[i]? = some (some (.ref l))) (r : RepL K W vs' xs') :
    EnvOk K Hb W (Γ.set i (some (.own xs'))) σ (upd H l (.lst vs')) where
  len := by rw [List.length_set]; exact e.len
  pure := fun j d' h => by
    rcases set_get h with ⟨ij, q⟩ | ⟨ij, q⟩
    · cases q
    · exact e.pure j d' q
  own := fun j ys h => by
    rcases set_get h with ⟨ij, q⟩ | ⟨ij, q⟩
    · cases q
      subst ij
      obtain ⟨l', vs0, h1, h2, h3, h4, h5, h6⟩ := e.own i xs hi
      rw [hs] at h1
      cases h1
      exact ⟨l, vs', hs, h2, h3, h4, upd_same, r⟩
    · obtain ⟨l', vs', h1, h2, h3, h4, h5, h6⟩ := e.own j ys q
      refine ⟨l', vs', h1, h2, h3, h4, ?_, h6⟩
      rw [upd_ne (fun el => by subst el; exact ij (e.ne i j xs ys l' hi q hs h1))]
      exact h5
  ne := fun a b ys zs l' ha' hb' h1 h2 => by
    have own : ∀ {c : Nat} {us : List D}, (Γ.set i (some (Sl.own xs')))[c]? = some (some (.own us)) → ∃ us', Γ[c]? = some (some (.own us')) := fun {c us} h => by
      rcases set_get h with ⟨ic, _⟩ | ⟨_, q⟩
      · subst ic; exact ⟨xs, hi⟩
      · exact ⟨us, q⟩
    obtain ⟨us, qa⟩ := own ha'
    obtain ⟨ws, qb⟩ := own hb'
    exact e.ne a b us ws l' qa qb h1 h2
theorem EnvOk.frzO {i : Nat} {l : Addr} {vs : List V} {xs : List D} (e : EnvOk K Hb W Γ σ H) (hi : Γ[i]? = some (some (.own xs))) (hs : σ[i]? = some (some (.ref l))) (hf : W.Hf l = none) (hv : H l = some (.lst vs)) (r : RepL K W vs xs) :
    EnvOk K Hb (W.fz l (.lst vs)) (Γ.set i (some (.pure (.list xs)))) σ H where
  len := by rw [List.length_set]; exact e.len
  pure := fun j d' h => by
    rcases set_get h with ⟨ij, q⟩ | ⟨ij, q⟩
    · cases q
      subst ij
      exact ⟨.ref l, hs, .lst (by show upd W.Hf l _ l = _; rw [upd_same]) (r.mono (Gw.fz' hf))⟩
    · obtain ⟨w, h1, h2⟩ := e.pure j d' q
      exact ⟨w, h1, h2.mono (Gw.fz' hf)⟩
  own := fun j ys h => by
    rcases set_get h with ⟨ij, q⟩ | ⟨ij, q⟩
    · cases q
    · obtain ⟨l', vs', h1, h2, h3, h4, h5, h6⟩ := e.own j ys q
      refine ⟨l', vs', h1, ?_, h3, h4, h5, h6.mono (Gw.fz' hf)⟩
      show upd W.Hf l (.lst vs) l' = none
      rw [upd_ne (fun el => by subst el; exact ij (e.ne i j xs ys l' hi q hs h1))]
      exact h2
  ne := fun a b ys zs l' ha' hb' h1 h2 => by
    rcases set_get ha' with ⟨_, q⟩ | ⟨_, qa⟩
    · cases q
    rcases set_get hb' with ⟨_, q⟩ | ⟨_, qb⟩
    · cases q
    exact e.ne a b ys zs l' qa qb h1 h2
theorem Gr.frzO {l : Addr} {o : HO} (g : Gr Wb Hb W H) (hb : Hb l = none) (hf : W.Hf l = none) : Gr Wb Hb (W.fz l o) H where
  gw := g.gw.trans (Gw.fz' hf)
  new := fun a u h => by
    by_cases e : a = l
    · subst e; exact .inr hb
    · have h' : upd W.Hf l o a = some u := h
      rw [upd_ne e] at h'; exact g.new a u h'
  newA := g.newA
  keep := g.keep
  dom := g.dom
  frz := g.frz
theorem EnvOk.drop {i : Nat} {x : Option V} (e : EnvOk K Hb W Γ σ H) : EnvOk K Hb W (Γ.set i none) (σ.set i x) H where
  len := by rw [List.length_set, List.length_set]; exact e.len
  pure := fun j d' h => by
    rcases set_get h with ⟨ij, q⟩ | ⟨ij, q⟩
    · cases q
    · obtain ⟨w, h1, h2⟩ := e.pure j d' q
      exact ⟨w, by rw [List.getElem?_set_ne ij]; exact h1, h2⟩
  own := fun j xs h => by
    rcases set_get h with ⟨ij, q⟩ | ⟨ij, q⟩
    · cases q
    · obtain ⟨l, vs, h1, h2⟩ := e.own j xs q
      exact ⟨l, vs, by rw [List.getElem?_set_ne ij]; exact h1, h2⟩
  ne := fun a b xs ys l ha hb h1 h2 => by
    rcases set_get ha with ⟨_, q⟩ | ⟨ia, qa⟩
    · cases q
    rcases set_get hb with ⟨_, q⟩ | ⟨ib, qb⟩
    · cases q
    rw [List.getElem?_set_ne ia] at h1
    rw [List.getElem?_set_ne ib] at h2
    exact e.ne a b xs ys l qa qb h1 h2
theorem EnvOk.wipe : ∀ (vs : List Nat), EnvOk K Hb W Γ σ H → EnvOk K Hb W (PL.wipe Γ vs) (L2.wipe σ vs) H
  | [], e => e
  | _ :: vs, e => (EnvOk.wipe vs e).drop
theorem EnvOk.fresh (e : EnvOk K Hb W Γ σ H) {l : Addr} (h : H l = none) : ∀ (j : Nat) (ys : List D), Γ[j]? = some (some (.own ys)) → σ[j]? ≠ some (some (.ref l)) := fun j ys hj q => by
  obtain ⟨l', vs, h1, h2, h3, h4, h5, h6⟩ := e.own j ys hj
  rw [q] at h1
  cases h1
  exact some_ne h5 h
theorem wipe_same {σ σ' : L2.St} {vs : List Nat} (hl : σ'.length = σ.length) (h : ∀ i, i ∉ vs → σ'[i]? = σ[i]?) : L2.wipe σ' vs = L2.wipe σ vs := by
  have key : ∀ (vs : List Nat) (τ : L2.St) (i : Nat), (L2.wipe τ vs)[i]? = if i ∈ vs ∧ i < τ.length then some none else τ[i]? := by
    intro vs
    induction vs with
    | nil => intro τ i; simp [L2.wipe]
    | cons v vs ih =>
      intro τ i
      unfold L2.wipe
      by_cases e : v = i
      · subst e
        by_cases hv : v < τ.length
        · rw [List.getElem?_set_self (by rw [wipe_length]; exact hv), if_pos ⟨List.mem_cons_self, hv⟩]
        · rw [List.getElem?_eq_none (by rw [List.length_set, wipe_length]; omega), if_neg (fun q => hv q.2), List.getElem?_eq_none (by omega)]
      · rw [List.getElem?_set_ne e, ih]
        have : (i ∈ v :: vs) ↔ i ∈ vs := by
          rw [List.mem_cons]
          constructor
          · rintro (q | q)
            · exact (e q.symm).elim
            · exact q
          · exact .inr
        simp only [this]
  apply List.ext_getElem?
  intro i
  rw [key, key, hl]
  by_cases hi : i ∈ vs
  · by_cases hlt : i < σ.length
    · rw [if_pos ⟨hi, hlt⟩, if_pos ⟨hi, hlt⟩]
    · rw [if_neg (fun q => hlt q.2), if_neg (fun q => hlt q.2), List.getElem?_eq_none (by omega), List.getElem?_eq_none (by omega)]
  · rw [if_neg (fun q => hi q.1), if_neg (fun q => hi q.1)]
    exact h i hi
theorem StOk.adopt {p : Addr} {so : SO} (s : StOk K Cn W S H) (ha : p ∉ W.A) (hf : W.Hf p = none) (r : SoRep K Cn (W.al p) H p so) : StOk K Cn (W.al p) (S ++ [so]) H where
  sub := s.sub
  len := by
    show (W.A ++ [p]).length = _
    rw [List.length_append, List.length_append, s.len]; rfl
  nd := by
    show (W.A ++ [p]).Nodup
    rw [List.nodup_append]
    refine ⟨s.nd, by simp, fun a h b hb => ?_⟩
    have e : b = p := by simpa using hb
    subst e
    exact fun e => by subst e; exact ha h
  off := fun a h => by
    have h' : a ∈ W.A ++ [p] := h
    rcases List.mem_append.mp h' with h' | h'
    · exact s.off a h'
    · have e : a = p := by simpa using h'
      subst e
      exact hf
  obj := fun n a u h1 h2 => by
    have h1' : (W.A ++ [p])[n]? = some a := h1
    by_cases hn : n < W.A.length
    · rw [List.getElem?_append_left hn] at h1'
      rw [List.getElem?_append_left (by rw [← s.len]; exact hn)] at h2
      exact (s.obj n a u h1' h2).keep (Gw.al W p) fun v q => q
    · have hn' : n = W.A.length := by
        have := (List.getElem?_eq_some_iff.mp h1').1
        rw [List.length_append] at this
        simp at this
        omega
      subst hn'
      rw [List.getElem?_append_right (Nat.le_refl _)] at h1'
      rw [List.getElem?_append_right (by rw [s.len]; exact Nat.le_refl _), s.len] at h2
      simp at h1' h2
      subst h1' h2
      exact r
theorem Gr.adopt {p : Addr} (g : Gr Wb Hb W H) (hp : Hb p = none) : Gr Wb Hb (W.al p) H where
  gw := g.gw.trans (Gw.al W p)
  new := g.new
  newA := fun a h => by
    have h' : a ∈ W.A ++ [p] := h
    rcases List.mem_append.mp h' with h' | h'
    · exact g.newA a h'
    · have e : a = p := by simpa using h'
      subst e; exact .inr hp
  keep := g.keep
  dom := g.dom
  frz := g.frz
theorem al_ref {K : PySem.W.Frag} {p : Addr} (s : StOk K Cn W S H) : Rep K (W.al p) (.ref p) (ref S.length) := by
  refine .ref (refN_ref _) ?_
  show (W.A ++ [p])[S.length]? = some p
  rw [← s.len, List.getElem?_append_right (Nat.le_refl _), Nat.sub_self]; rfl
theorem Gr.keepN {l : Addr} {o : HO} (g : Gr W H W' H') (hv : H l = some o) (ha : l ∉ W.A) (hf : W.Hf l = none) : H' l = some o ∧ l ∉ W'.A ∧ W'.Hf l = none := by
  refine ⟨g.keep l _ hv ha, fun m => ?_, ?_⟩
  · rcases g.newA l m with z | z
    · exact ha z
    · exact some_ne hv z
  · cases z : W'.Hf l with
    | none => rfl
    | some u =>
      rcases g.new l u z with z | z
      · rw [hf] at z; cases z
      · exact (some_ne hv z).elim
theorem StOk.freshA {p : Addr} (s : StOk K Cn W S H) (hp : H p = none) : p ∉ W.A ∧ W.Hf p = none := by
  constructor
  · intro m
    obtain ⟨u, hu, _⟩ := s.dom m
    exact some_ne hu hp
  · cases z : W.Hf p with
    | none => rfl
    | some u => exact (some_ne (s.sub p u z) hp).elim
end
end PL
set_option autoImplicit false
set_option linter.all false
set_option maxRecDepth 100000
set_option maxHeartbeats 4000000
set_option Elab.async false
namespace PL
open PySem PySem.Spec PyProof.Rows L2
structure XCls (K : PySem.W.Frag) (C : Addr) (f : Str) : Prop where
  o : OexC K C
  xf : XfC K C
  nf : PySem.W.findIn K (.ref C) f = some none
  ca : PySem.W.findIn K (.ref C) "__class__" = some (some (.builtin "object.__class__"))
  gt : PySem.W.specialIn K (.builtin "object.__class__") "__get__" = some (some (.builtin "getset_descriptor.__get__"))
  tk : PySem.W.takesIn K (.builtin "object.__class__") = some true
  mo : PySem.W.mroIn K C (.type "object") = some true
theorem XCls.cl {K : PySem.W.Frag} {C : Addr} {f : Str} (x : XCls K C f) : (PySem.W.clsIn K C).isSome = true := by
  obtain ⟨cd, h, _⟩ := PySem.W.any_some x.xf.hdC
  rw [h]; rfl
def XVal (t : Bool) (y : V) : Prop := (∃ s : Str, y = .str s ∧ s.length ≤ 1000) ∨ (t = false ∧ ∃ i : Int, y = .int i)
def spExc (K : PySem.W.Frag) (C : Addr) (f : Str) (t : Bool) : Sp := fun vs H Q _ => ∃ (a : Addr) (y : V), vs = [.ref a, y] ∧ XVal t y ∧ H a = some (exo a C none) ∧
  ∀ dx, H dx = none → dx ≠ a → Q .non (upd (upd H dx (exd dx [(f, y)])) a (exo a C (some dx)))
def XMk (P : Program) (w : World) (K : PySem.W.Frag) (mg : Str → Option Value) (base : Heap) (Cn : Str → Option Addr) (k : Nat) (c f : Str) (t : Bool) : Prop :=
  ∃ (C fI : Addr) (fd : FuncData) (ps : List Str), Cn c = some C ∧ mg c = some (.ref C) ∧ XCls K C f ∧ PySem.W.findIn K (.ref C) "__init__" = some (some (.ref fI)) ∧ PySem.W.typeIn K (.ref fI) = some (.type "function") ∧
    FnOk P w K mg base (L2.CX P w) k fI fd ps (spExc K C f t) ∧ Binds K fd ps []
def XSub (K : PySem.W.Frag) (mg : Str → Option Value) (Cn : Str → Option Addr) (c d : Str) (b : Bool) : Prop :=
  ∃ (C : Addr) (v : V) (u : Value), Cn c = some C ∧ RelV v u ∧ (∀ u', RelV v u' → u' = u) ∧ (d == ("__debug__" : Str)) = false ∧ (mg d = some u ∨ (mg d = none ∧ bootBuiltins d = some u ∧ d ≠ "__name__")) ∧
    PySem.W.exmOne K (.ref C) u = some b ∧ (b = true → PySem.W.kitOne K (.ref C) u = some true)
theorem _root_.L2.FnOk.mono' {P : Program} {w : World} {K : PySem.W.Frag} {mg : Str → Option Value} {base : Heap} {X : CXT} {j k : Nat} {f : Addr} {fd : FuncData} {ps : List Str} {sp : Sp} (G : FnOk P w K mg base X j f fd ps sp) (h : j ≤ k) : FnOk P w K mg base X k f fd ps sp :=
  ⟨G.len, fun A outer s H args us vs Q E r => G.run A outer s H args us vs Q E (r.mono h)⟩
theorem XMk.mono {P : Program} {w : World} {K : PySem.W.Frag} {mg : Str → Option Value} {base : Heap} {Cn : Str → Option Addr} {j k : Nat} {c f : Str} {t : Bool} (x : XMk P w K mg base Cn j c f t) (h : j ≤ k) : XMk P w K mg base Cn k c f t := by
  obtain ⟨C, fI, fd, ps, h1, h2, h3, h4, h5, h6, h7⟩ := x
  exact ⟨C, fI, fd, ps, h1, h2, h3, h4, h5, h6.mono' h, h7⟩
structure BasI (K : PySem.W.Frag) (B : Addr) (mc : Value) : Prop where
  rd : PySem.W.readsIn K B mc = true
  ga : PySem.W.specialIn K (.ref B) "__getattribute__" = some (some (.builtin "type.__getattribute__"))
  at_ : PySem.W.findCls K (.ref B) mc "__init__" = some (.val (.builtin "ValueError.__init__"))
section
variable {X : Cx} {e : Expr} {es : List Expr} {ta : TA} {p1 p2 pos : Pos} {B : Addr} {mc : Value} {b : Str}
theorem pe_binit {pl : Sem Bool} (hg : Gl X b) (hm : X.mg b = some (.ref B)) (hdb : (b == ("__debug__" : Str)) = false) (vB : BasI X.K B mc) (ha : PA X (e :: es) ta)
    (hc : eval (.Call (.Attribute (.Name b p1) "__init__" p2) (e :: es) [] pos) X.env = (do
      let ov ← eval (.Name b p1) X.env
      standAt p2.atName
      let (f, first) ← holding [ov] (getMethod ov "__init__" pl)
      callWith pos f first (backTo pos (starEach (e :: es) X.env)) (backToKw pos (keywordEach [] X.env))) := by rfl)
    (he : starEach (e :: es) X.env = (false, eval e X.env) :: starEach es X.env := by rfl) (hpl : (backTo pos (starEach es X.env)).any (·.1) = false := by rfl) :
    PE X (.Call (.Attribute (.Name b p1) "__init__" p2) (e :: es) [] pos) (tVeI X.K ta) := by
  refine ⟨fun pins s σ H Q I h => ?_⟩
  refine PySem.W.methodCall_KW (ld_glob I hg hm ?_ hdb) hc
  refine PySem.W.method_cls I.kIn vB.ga (PySem.W.cls_value I.kIn vB.rd vB.at_ (by decide +kernel) ?_)
  show wpAny _ _ (callWith pos (Value.builtin "ValueError.__init__") [] (backTo pos (starEach (e :: es) X.env)) []) _ _ _
  refine PyProof.Rows.callWith_method1 (thn (ha.run pos pins _ σ H _ (I.tok _) h) fun us s1 ⟨vs, H1, I1, r1, a, C, ws, ev, hl, T, ea, q⟩ => ?_) he hpl
  subst ev
  cases r1 with
  | @cons _ u0 _ ur ra rw' =>
    obtain rfl : u0 = Value.ref a := ra
    have hlen : ur.length ≤ sizeLine := by
      rw [← Paired.length rw', sizeLine_eq]
      omega
    exact oinit_ok T I1 ea hlen fun s' J => ⟨.non, H1, J, rfl, q⟩
end
def rIsX (K : PySem.W.Frag) (C a : Addr) (d : Option Addr) : List V → Hp → VK → Prop := fun xs H Q => ∃ (c : V) (cv : Value) (b : Bool) (dd : Addr) (fs : List (Str × V)), xs = [.ref a, c] ∧ (∀ u, RelV c u → u = cv) ∧ PySem.W.kitOne K (.ref C) cv = some b ∧ d = some dd ∧ H dd = some (.xd fs) ∧ Q (.bl b) H
theorem call_isX {X : Cx} {a C : Addr} {oe : Obj} {d : Option Addr} {f : Str} {pn : List (Addr × Obj)} (x : XCls X.K C f) (hz : Zc (.ref C) d oe) (hf : ∃ vs, oe.data = .fields vs) : CallR (X.suite a ((a, oe) :: pn)) (.builtin "isinstance") (rIsX X.K C a d) := by
  intro pins s σ H xs us Q I r h
  obtain ⟨c, cv, b, dd, fs, rfl, hcv, e, ed, ea, q⟩ := h
  cases r with
  | cons rx rr =>
    cases rr with
    | cons rt rr =>
      cases rr
      cases rx
      have ec := hcv _ rt
      subst ec
      obtain ⟨hget, _⟩ := I.pin (a, oe) (List.mem_append.mpr (.inl List.mem_cons_self))
      obtain ⟨vs, hv⟩ := hf
      have hx : ObjOk X.prog X.w H s.heap dd (.xd fs) := I.hok dd _ ea
      obtain ⟨mA, hns, hr⟩ := hx
      obtain ⟨od, ho, hl⟩ := lookIn_ns hns
      have J : PySem.W.InstAt s.heap a oe C (some od) := ⟨hget, hz.1, by unfold PySem.W.notCls; rw [hv] <;> rfl, by rw [hz.2, ed]; exact ho⟩
      exact PySem.W.kia_one (PySem.W.kitx_exc x.cl x.xf.ga x.xf.gg x.xf.exC x.ca x.gt x.tk x.mo) I.kIn J e (fun z => nomatch z) fun tk => ⟨.bl b, H, I.kept (t' := tk) fun _ _ z => z, rfl, q⟩
theorem pe_cls {X : Cx} {Cn : Str → Option Addr} {c ty : Str} {C : Addr} {p : Pos} {a : Addr} {pn : List (Addr × Obj)} (hg : Gl X ty) (h : XSub X.K X.mg Cn c ty true) (hC : Cn c = some C) :
    ∃ (v : V) (cv : Value), (∀ u, RelV v u → u = cv) ∧ PySem.W.kitOne X.K (.ref C) cv = some true ∧ PE (X.suite a pn) (.Name ty p) (tC v) := by
  obtain ⟨C', v, u, h1, h2, h3, h4, h5, h6, h7⟩ := h
  rw [hC] at h1
  cases h1
  refine ⟨v, u, h3, h7 rfl, ?_⟩
  rcases h5 with h5 | ⟨h5, h8, h9⟩
  · exact pe_glob (X := X.suite a pn) hg h5 h2 h4
  · exact pe_bltn (X := X.suite a pn) hg h5 h8 h2 h9 h4
section
variable {X : Cx} {Cn : Str → Option Addr} {c f n : Str} {C : Addr} {a : Addr} {oe : Obj} {d : Option Addr} {pn : List (Addr × Obj)} {i : Nat}
def tIs (i : Nat) (a : Addr) (d : Option Addr) : TT := fun σ H Q => σ[i]? = some (some (.ref a)) ∧ (∃ dd fs, d = some dd ∧ H dd = some (.xd fs)) ∧ Q true H
theorem pt_is {ty : Str} {p1 p2 p3 p4 : Pos} (x : XCls X.K C f) (hz : Zc (.ref C) d oe) (hf : ∃ vs, oe.data = .fields vs) (hC : Cn c = some C) (h : XSub X.K X.mg Cn c ty true) (hg : Gl X ty) (hg2 : Gl X "isinstance") (hb : X.mg "isinstance" = none)
    (hN : X.N[i]? = some n) (hv : Vis X.env.scope n) (hd : (n == ("__debug__" : Str)) = false) (hcd : (n == ("__classdict__" : Str)) = false) : PT (X.suite a ((a, oe) :: pn)) (.Call (.Name "isinstance" p1) [.Name n p2, .Name ty p3] [] p4) (tIs i a d) := by
  obtain ⟨v, cv, h1, h2, pe⟩ := pe_cls (p := p3) (a := a) (pn := (a, oe) :: pn) hg h hC
  have pc := pe_callB (pos := p4) (p := p1) (x := "isinstance") (call_isX (pn := pn) x hz hf) hg2 hb (by decide +kernel) (pa_cons (pe_var (X := X.suite a ((a, oe) :: pn)) (pos := p2) hN hv hd hcd) (pa_cons pe pa_nil rfl) rfl)
  refine ⟨fun pins s σ H Q I ⟨e, ⟨dd, fs, ed, ea⟩, q⟩ => (pt_truth pc (fun _ => rfl)).run pins s σ H Q I ?_⟩
  exact ⟨.ref a, e, v, cv, true, dd, fs, rfl, h1, h2, ed, ea, true, rfl, q⟩
end
theorem xsub_ref {K : PySem.W.Frag} {C D : Addr} {b : Bool} (h1 : PySem.W.subIn K (.ref D) (.type "BaseException") = some true) (h2 : PySem.W.isClsIn K D = true) (h3 : PySem.W.typeIn K (.ref D) = some (.type "type")) (h4 : PySem.W.subIn K (.ref C) (.ref D) = some b) :
    PySem.W.exmOne K (.ref C) (.ref D) = some b ∧ (b = true → PySem.W.kitOne K (.ref C) (.ref D) = some true) := by
  have e1 : (PySem.W.subIn K (.ref D) (.type "BaseException") == some true) = true := by rw [h1] <;> rfl
  have e2 : ((PySem.W.clsIn K D).isSome && PySem.W.typeIn K (.ref D) == some (.type "type")) = true := by
    have h2' : (PySem.W.clsIn K D).isSome = true := h2
    rw [h2', h3] <;> rfl
  have e3 : PySem.W.kitCls K (.ref C) (.ref D) = some b := by
    show (if ((PySem.W.clsIn K D).isSome && PySem.W.typeIn K (.ref D) == some (.type "type")) = true then PySem.W.subIn K (.ref C) (.ref D) else none) = some b
    rw [if_pos e2]; exact h4
  refine ⟨?_, fun hb => ?_⟩
  · unfold PySem.W.exmOne
    rw [if_pos e1]; exact e3
  · subst hb
    unfold PySem.W.kitOne
    split
    · rfl
    · exact e3
theorem xsub_ty {K : PySem.W.Frag} {C : Addr} {T : String} {b : Bool} (h1 : (fastBuiltinMro T).map (·.contains (.type "BaseException")) = some true) (h2 : PySem.W.kitMeta T = true) (h4 : PySem.W.subIn K (.ref C) (.type T) = some b) :
    PySem.W.exmOne K (.ref C) (.type T) = some b ∧ (b = true → PySem.W.kitOne K (.ref C) (.type T) = some true) := by
  have e1 : (PySem.W.subIn K (.type T) (.type "BaseException") == some true) = true := by show ((fastBuiltinMro T).map (·.contains (.type "BaseException")) == some true) = true; rw [h1] <;> rfl
  have e3 : PySem.W.kitCls K (.ref C) (.type T) = some b := by
    show (if PySem.W.kitMeta T = true then PySem.W.subIn K (.ref C) (.type T) else none) = some b
    rw [if_pos h2]; exact h4
  refine ⟨?_, fun hb => ?_⟩
  · unfold PySem.W.exmOne
    rw [if_pos e1]; exact e3
  · subst hb
    unfold PySem.W.kitOne
    split
    · rfl
    · exact e3
def chkInit (b f : Str) (t : Bool) (body : List Stmt) : Bool := match body with
  | [.Expr (.Call (.Attribute (.Name b' _) m ap) [.Name s1 _, e] [] p) _, .Assign [.Attribute (.Name s2 _) f' _] (.Name f'' _) _] =>
    decide (b' = b) && decide (m = "__init__") && decide (s1 = "self") && decide (s2 = "self") && decide (f' = f) && decide (f'' = f) && (ap.endLine == p.line) && match e with
      | .Constant (.str _) _ _ => true
      | .BinOp (.Constant (.str s) _ _) .Add (.Name y _) _ => t && decide (y = f) && decide (s.length ≤ 1000)
      | _ => false
  | _ => false
end PL
set_option autoImplicit false
set_option linter.all false
set_option maxRecDepth 100000
set_option Elab.async false
namespace PL
open PySem PySem.Spec PyProof.Rows L2
theorem bindOk {α β : Type} {r : R α} {f : α → Store → R β} {b : β} {S' : Store} (h : r.bind f = .ok b S') : ∃ a S1, r = .ok a S1 ∧ f a S1 = .ok b S' := by
  cases r with
  | ok a S1 => exact ⟨a, S1, rfl, h⟩
  | ex x S1 => cases h
  | no => cases h
theorem ofOk {α : Type} {o : Option α} {b : α} {S S' : Store} (h : ofO o S = .ok b S') : o = some b ∧ S' = S := by
  cases o with
  | none => cases h
  | some a => cases h; exact ⟨rfl, rfl⟩
def ResB (K : PySem.W.Frag) (Cn : Str → Option Addr) (W : Wd) (H : Hp) (S : Store) (d : D) (Q : VK) : Prop :=
  ∀ (v : V) (W' : Wd) (H' : Hp), Gr W H W' H' → StOk K Cn W' S H' → BRep K W' H' v d → Q v H'
def XRep (K : PySem.W.Frag) (Cn : Str → Option Addr) (W : Wd) (H : Hp) (x : XD) (cls : Value) (d : Option Addr) : Prop :=
  ∃ (C dx : Addr) (fs : List (Str × V)), Cn x.cls = some C ∧ cls = .ref C ∧ d = some dx ∧ H dx = some (.xd fs) ∧ FRep K W fs x.fs
def ResX (K : PySem.W.Frag) (Cn : Str → Option Addr) (W : Wd) (H : Hp) (S : Store) (x : XD) (E : XK) : Prop :=
  ∀ cls d W' H', Gr W H W' H' → StOk K Cn W' S H' → XRep K Cn W' H' x cls d → E cls d H'
def RunF (K : PySem.W.Frag) (Cn : Str → Option Addr) (W : Wd) (H : Hp) (Q : VK) (E : XK) : R D → Prop
  | .ok d S' => Res K Cn W H S' d Q
  | .ex x S' => ResX K Cn W H S' x E
  | .no => False
def spOf (K : PySem.W.Frag) (Cn : Str → Option Addr) (F : FnS) : Sp := fun vs H Q E =>
  ∃ (W : Wd) (S : Store) (ds : List D), StOk K Cn W S H ∧ RepL K W vs ds ∧ RunF K Cn W H Q E (F ds S)
theorem sp_ok {K : PySem.W.Frag} {Cn : Str → Option Addr} {F : FnS} {vs : List V} {H : Hp} {Q : VK} {E : XK} {W : Wd} {S S' : Store} {ds : List D} {d : D} (so : StOk K Cn W S H) (r : RepL K W vs ds) (ev : F ds S = .ok d S') (q : Res K Cn W H S' d Q) : spOf K Cn F vs H Q E :=
  ⟨W, S, ds, so, r, by rw [ev]; exact q⟩
structure GFn (P : Program) (w : World) (K : PySem.W.Frag) (mg : Str → Option Value) (base : Heap) (k : Nat) (f : Addr) (fd : FuncData) (ps : List Str) (sp : Sp) : Prop where
  len : ∀ vs H Q E, sp vs H Q E → vs.length = ps.length
  run : ∀ (A : Around) (outer : List PySem.Env) (s : Shared) (H : Hp) (args : Args) (us : List Value) (vs : List V) (Q : VK) (E : XK), A.guards = some [] → Room k A → Env0 P w K mg base A outer s H → BindsTo s fd args (ps.zip us) → Vals vs us → sp vs H Q E →
    codeAny (model P w) A (.call (.ref f) args) (CR (L2.CX P w) outer P w H s Q E) s
def NoE : XK := fun _ _ _ => False
theorem passes_no {X : Cx} : Passes (L2.CX X.prog X.w) X NoE := fun _ _ _ _ _ _ _ h => by
  obtain ⟨_, _, _, _, _, _, _, _, _, _, _, _, z⟩ := h
  exact z.elim
def Bn : List Str := ["len", "abs", "int", "str", "sum", "max", "min", "sorted", "tuple", "list", "all", "any", "repr", "isinstance", "range", "zip", "dict", "set", "bool"]
structure At (P : Program) (w : World) (K : PySem.W.Frag) (mg : Str → Option Value) (base : Heap) (Cn : Str → Option Addr) (k : Nat) (a : Addr) (F : FnS) : Prop where
  ex : ∃ (fd : FuncData) (ps : List Str), GFn P w K mg base k a fd ps (spOf K Cn F) ∧ Binds K fd ps []
structure GX (Φ : Fns) (Cn : Str → Option Addr) (k : Nat) (X : Cx) : Prop where
  calm : X.calm = true
  nd : X.N.Nodup
  gu : X.A.guards = some []
  room : Room (k + 1) X.A
  blt : ∀ x ∈ Bn, X.mg x = none
  fn : ∀ f F, Φ.fn f = some F → ∃ a, X.mg f = some (.ref a) ∧ PySem.W.keepIn X.K (.ref a) = true ∧ At X.prog X.w X.K X.mg X.base Cn k a F
  mt : ∀ c m F, Φ.mt c m = some F → ∃ C a, Cn c = some C ∧ Cls X.K C ∧ Meth X.K C m a ∧ At X.prog X.w X.K X.mg X.base Cn k a F
  nw : ∀ c F, Φ.nw c = some F → ∃ C a, Cn c = some C ∧ X.mg c = some (.ref C) ∧ Mk X.K C a ∧ At X.prog X.w X.K X.mg X.base Cn k a F
  fl : ∀ c f, Φ.fl c f = true → ∃ C, Cn c = some C ∧ Cls X.K C ∧ NoAttr X.K C f
  xn : ∀ c f t, Φ.xn c = some (f, t) → XMk X.prog X.w X.K X.mg X.base Cn k c f t
  xs : ∀ c d b, Φ.xs c d = some b → XSub X.K X.mg Cn c d b
section
variable (Φ : Fns) (Cn : Str → Option Addr) (X : Cx)
def SE (e : Expr) (c : CE) : Prop := ∃ t : TE, PE X e t ∧ ∀ {W : Wd} {S : Store} {H : Hp} {σ : L2.St} {Γ : Env} {Hb : Hp} {d : D} {S' : Store} {Q : VK}, StOk X.K Cn W S H → EnvOk X.K Hb W Γ σ H → evE Φ c Γ S = .ok d S' → Res X.K Cn W H S' d Q → t σ H Q
def SEB (e : Expr) (c : CE) : Prop := ∃ t : TE, PE X e t ∧ ∀ {W : Wd} {S : Store} {H : Hp} {σ : L2.St} {Γ : Env} {Hb : Hp} {d : D} {S' : Store} {Q : VK}, StOk X.K Cn W S H → EnvOk X.K Hb W Γ σ H → evE Φ c Γ S = .ok d S' → ResB X.K Cn W H S' d Q → t σ H Q
def SEO (e : Expr) (c : CE) : Prop := ∃ t : TE, PE X e t ∧ ∀ {W : Wd} {S : Store} {H : Hp} {σ : L2.St} {Γ : Env} {Hb : Hp} {d : D} {S' : Store} {Q : VK}, StOk X.K Cn W S H → EnvOk X.K Hb W Γ σ H → evE Φ c Γ S = .ok d S' → Out X.K Cn W H S' d Q → t σ H Q
def ST (e : Expr) (c : CE) : Prop := ∃ t : TT, PT X e t ∧ ∀ {W : Wd} {S : Store} {H : Hp} {σ : L2.St} {Γ : Env} {Hb : Hp} {d : D} {S' : Store} {b : Bool} {Q : Bool → Hp → Prop}, StOk X.K Cn W S H → EnvOk X.K Hb W Γ σ H → evE Φ c Γ S = .ok d S' → tru S' d = some b →
  (∀ W' H', Gr W H W' H' → StOk X.K Cn W' S' H' → Q b H') → t σ H Q
def SA (es : List Expr) (cs : List CE) : Prop := ∃ t : TA, PA X es t ∧ ∀ {W : Wd} {S : Store} {H : Hp} {σ : L2.St} {Γ : Env} {Hb : Hp} {ds : List D} {S' : Store} {Q : List V → Hp → Prop}, StOk X.K Cn W S H → EnvOk X.K Hb W Γ σ H → evEs Φ cs Γ S = .ok ds S' →
  (∀ vs W' H', Gr W H W' H' → StOk X.K Cn W' S' H' → RepL X.K W' vs ds → Q vs H') → t σ H Q
def SO_ (e : Option Expr) (c : Option CE) : Prop := ∃ t : TO, PO X e t ∧ ∀ {W : Wd} {S : Store} {H : Hp} {σ : L2.St} {Γ : Env} {Hb : Hp} {o : Option Int} {S' : Store} {Q : Option Int → Hp → Prop}, StOk X.K Cn W S H → EnvOk X.K Hb W Γ σ H → evO Φ c Γ S = .ok o S' →
  (∀ W' H', Gr W H W' H' → StOk X.K Cn W' S' H' → Q o H') → t σ H Q
end
section
variable {Φ : Fns} {Cn : Str → Option Addr} {X : Cx} {k : Nat} {e a b c : Expr} {ce ca cb cc : CE} {pos : Pos}
theorem ResB.res {K : PySem.W.Frag} {W : Wd} {H : Hp} {S : Store} {d : D} {Q : VK} (q : ResB K Cn W H S d Q) : Res K Cn W H S d Q := fun v W' H' g s r => q v W' H' g s (.inl r)
theorem ResB.shift {K : PySem.W.Frag} {W W1 : Wd} {H H1 : Hp} {S : Store} {d : D} {Q : VK} (g : Gr W H W1 H1) (p : ResB K Cn W H S d Q) : ResB K Cn W1 H1 S d Q := fun v W' H' g2 s r => p v W' H' (g.trans g2) s r
theorem SEO.se (h : SEO Φ Cn X e ce) : SE Φ Cn X e ce := by
  obtain ⟨t, p, f⟩ := h
  exact ⟨t, p, fun so en ev q => f so en ev q.out⟩
theorem SE.seb (h : SE Φ Cn X e ce) : SEB Φ Cn X e ce := by
  obtain ⟨t, p, f⟩ := h
  exact ⟨t, p, fun so en ev q => f so en ev q.res⟩
theorem GX.un (g : GX Φ Cn k X) : X.A.units + 66 < cLine := by have := g.room.un; omega
theorem se_var {i : Nat} {x : Str} (hN : X.N[i]? = some x) (hv : Vis X.env.scope x) (hd : (x == ("__debug__" : Str)) = false) (hcd : (x == ("__classdict__" : Str)) = false) : SE Φ Cn X (.Name x pos) (.var i) := by
  refine ⟨tVar i, pe_var hN hv hd hcd, fun {W S H σ Γ Hb d S' Q} so en ev q => ?_⟩
  rw [evE] at ev
  split at ev
  · rename_i d' hd'
    cases ev
    obtain ⟨v, h1, h2⟩ := en.pure i d hd'
    exact ⟨v, h1, q v W H (Gr.refl W H) so h2⟩
  · cases ev
theorem seb_bor {i : Nat} {x : Str} (hN : X.N[i]? = some x) (hv : Vis X.env.scope x) (hd : (x == ("__debug__" : Str)) = false) (hcd : (x == ("__classdict__" : Str)) = false) : SEB Φ Cn X (.Name x pos) (.bor i) := by
  refine ⟨tVar i, pe_var hN hv hd hcd, fun {W S H σ Γ Hb d S' Q} so en ev q => ?_⟩
  rw [evE] at ev
  split at ev
  · rename_i d' hd'
    cases ev
    obtain ⟨v, h1, h2⟩ := en.pure i d hd'
    exact ⟨v, h1, q v W H (Gr.refl W H) so (.inl h2)⟩
  · rename_i xs hd'
    cases ev
    obtain ⟨l, vs, h1, h2, h3, h4, h5, h6⟩ := en.own i xs hd'
    exact ⟨_, h1, q _ W H (Gr.refl W H) so (.inr ⟨l, vs, xs, rfl, rfl, h3, h5, h6⟩)⟩
  · cases ev
theorem seo_c {v : V} {d0 : D} (h : PE X e (tC v)) (r : ∀ W, Rep X.K W v d0) (n : ∀ xs, d0 ≠ .list xs) : SEO Φ Cn X e (.lit d0) :=
  ⟨tC v, h, fun {W S H σ Γ Hb d S' Q} so en ev q => by
    rw [evE] at ev
    cases ev
    exact q.flat so (r W) n⟩
theorem seo_bin {o : BOp} (ha : SEB Φ Cn X a ca) (hb : SEB Φ Cn X b cb) : SEO Φ Cn X (.BinOp a (bop o) b pos) (.bin o ca cb) := by
  obtain ⟨ta, pa, fa⟩ := ha
  obtain ⟨tb, pb, fb⟩ := hb
  refine ⟨tOp (rB X.K Cn o) ta tb, pe_op (opB_ok o) pa pb, fun {W S H σ Γ Hb d S' Q} so en ev q => ?_⟩
  rw [evE] at ev
  obtain ⟨x, S1, e1, ev⟩ := bindOk ev
  obtain ⟨y, S2, e2, ev⟩ := bindOk ev
  obtain ⟨e3, rfl⟩ := ofOk ev
  exact fa so en e1 fun v1 W1 H1 g1 so1 b1 => fb so1 (en.mono g1) e2 fun v2 W2 H2 g2 so2 b2 => ⟨W2, _, x, y, d, so2, b1.mono g2, b2, e3, q.shift (g1.trans g2)⟩
theorem seo_neg (ha : SEB Φ Cn X a ca) : SEO Φ Cn X (.UnaryOp .USub a pos) (.neg ca) := by
  obtain ⟨ta, pa, fa⟩ := ha
  refine ⟨_, pe_un un_neg pa, fun {W S H σ Γ Hb d S' Q} so en ev q => ?_⟩
  rw [evE] at ev
  obtain ⟨x, S1, e1, ev⟩ := bindOk ev
  split at ev
  · rename_i i
    cases ev
    refine fa so en e1 fun v1 W1 H1 g1 so1 b1 => ?_
    obtain rfl := b1.int
    exact ⟨i, rfl, (q.shift g1).flat so1 (.int _) (by intro _ h; cases h)⟩
  · cases ev
theorem seo_cmp {o : COp} (g : GX Φ Cn k X) (ha : SEB Φ Cn X a ca) (hb : SEB Φ Cn X b cb) (hm : behindInMarks (cop o) b = false) : SEO Φ Cn X (.Compare a [cop o] [b] pos) (.cmp o ca cb) := by
  obtain ⟨ta, pa, fa⟩ := ha
  obtain ⟨tb, pb, fb⟩ := hb
  refine ⟨_, pe_cmpR (opC_ok (Cn := Cn) (by have := g.un; omega) o) pa pb hm, fun {W S H σ Γ Hb d S' Q} so en ev q => ?_⟩
  rw [evE] at ev
  obtain ⟨x, S1, e1, ev⟩ := bindOk ev
  obtain ⟨y, S2, e2, ev⟩ := bindOk ev
  obtain ⟨e3, rfl⟩ := ofOk ev
  rw [Option.map_eq_some_iff] at e3
  obtain ⟨r, e3, rfl⟩ := e3
  exact fa so en e1 fun v1 W1 H1 g1 so1 b1 => fb so1 (en.mono g1) e2 fun v2 W2 H2 g2 so2 b2 => ⟨W2, _, x, y, r, so2, b1.mono g2, b2, e3, fun H3 g3 so3 => (q.shift ((g1.trans g2).trans g3)).flat so3 (.bl _) (by intro _ h; cases h)⟩
theorem st_cmp {o : COp} (g : GX Φ Cn k X) (ha : SEB Φ Cn X a ca) (hb : SEB Φ Cn X b cb) (hm : behindInMarks (cop o) b = false) : ST Φ Cn X (.Compare a [cop o] [b] pos) (.cmp o ca cb) := by
  obtain ⟨ta, pa, fa⟩ := ha
  obtain ⟨tb, pb, fb⟩ := hb
  refine ⟨_, pt_cmpR (opC_ok (Cn := Cn) (by have := g.un; omega) o) pa pb hm, fun {W S H σ Γ Hb d S' b0 Q} so en ev tr q => ?_⟩
  rw [evE] at ev
  obtain ⟨x, S1, e1, ev⟩ := bindOk ev
  obtain ⟨y, S2, e2, ev⟩ := bindOk ev
  obtain ⟨e3, rfl⟩ := ofOk ev
  rw [Option.map_eq_some_iff] at e3
  obtain ⟨r, e3, rfl⟩ := e3
  cases tr
  exact fa so en e1 fun v1 W1 H1 g1 so1 b1 => fb so1 (en.mono g1) e2 fun v2 W2 H2 g2 so2 b2 => ⟨W2, _, x, y, b0, so2, b1.mono g2, b2, e3, fun H3 g3 so3 => ⟨b0, rfl, q W2 H3 ((g1.trans g2).trans g3) so3⟩⟩
theorem chain_run {o o' : COp} {ta tb tc : TE} (fa : ∀ {W : Wd} {S : Store} {H : Hp} {σ : L2.St} {Γ : Env} {Hb : Hp} {d : D} {S' : Store} {Q : VK}, StOk X.K Cn W S H → EnvOk X.K Hb W Γ σ H → evE Φ ca Γ S = .ok d S' → ResB X.K Cn W H S' d Q → ta σ H Q)
    (fb : ∀ {W : Wd} {S : Store} {H : Hp} {σ : L2.St} {Γ : Env} {Hb : Hp} {d : D} {S' : Store} {Q : VK}, StOk X.K Cn W S H → EnvOk X.K Hb W Γ σ H → evE Φ cb Γ S = .ok d S' → ResB X.K Cn W H S' d Q → tb σ H Q)
    (fc : ∀ {W : Wd} {S : Store} {H : Hp} {σ : L2.St} {Γ : Env} {Hb : Hp} {d : D} {S' : Store} {Q : VK}, StOk X.K Cn W S H → EnvOk X.K Hb W Γ σ H → evE Φ cc Γ S = .ok d S' → ResB X.K Cn W H S' d Q → tc σ H Q)
    {W : Wd} {S : Store} {H : Hp} {σ : L2.St} {Γ : Env} {Hb : Hp} {d : D} {S' : Store} {Q : VK} (so : StOk X.K Cn W S H) (en : EnvOk X.K Hb W Γ σ H) (ev : evE Φ (.chain o o' ca cb cc) Γ S = .ok d S') :
    ∃ r : Bool, d = .bool r ∧ ((∀ W' H', Gr W H W' H' → StOk X.K Cn W' S' H' → Q (.bl r) H') → tChain (rC X.K Cn o) (rC X.K Cn o') ta tb tc σ H Q) := by
  rw [evE] at ev
  obtain ⟨x, S1, e1, ev⟩ := bindOk ev
  obtain ⟨y, S2, e2, ev⟩ := bindOk ev
  split at ev
  · rename_i e3
    obtain ⟨z, S3, e4, ev⟩ := bindOk ev
    obtain ⟨e5, rfl⟩ := ofOk ev
    rw [Option.map_eq_some_iff] at e5
    obtain ⟨r, e5, rfl⟩ := e5
    refine ⟨r, rfl, fun q => ?_⟩
    exact fa so en e1 fun v1 W1 H1 g1 so1 b1 => fb so1 (en.mono g1) e2 fun v2 W2 H2 g2 so2 b2 => ⟨W2, _, x, y, true, so2, b1.mono g2, b2, e3, fun H3 g3 so3 => ⟨true, rfl, by
      rw [if_pos rfl]
      exact fc so3 (en.mono ((g1.trans g2).trans g3)) e4 fun v4 W4 H4 g4 so4 b4 => ⟨W4, _, y, z, r, so4, b2.mono (g3.trans g4), b4, e5, fun H5 g5 so5 => q W4 H5 ((((g1.trans g2).trans g3).trans g4).trans g5) so5⟩⟩⟩
  · rename_i e3
    cases ev
    refine ⟨false, rfl, fun q => ?_⟩
    exact fa so en e1 fun v1 W1 H1 g1 so1 b1 => fb so1 (en.mono g1) e2 fun v2 W2 H2 g2 so2 b2 => ⟨W2, _, x, y, false, so2, b1.mono g2, b2, e3, fun H3 g3 so3 => ⟨false, rfl, by
      rw [if_neg Bool.false_ne_true]
      exact q W2 H3 ((g1.trans g2).trans g3) so3⟩⟩
  · cases ev
theorem seo_chain {o o' : COp} (g : GX Φ Cn k X) (ha : SEB Φ Cn X a ca) (hb : SEB Φ Cn X b cb) (hc : SEB Φ Cn X c cc) (hm : lastMarks [cop o, cop o'] [b, c] = false) : SEO Φ Cn X (.Compare a [cop o, cop o'] [b, c] pos) (.chain o o' ca cb cc) := by
  obtain ⟨ta, pa, fa⟩ := ha
  obtain ⟨tb, pb, fb⟩ := hb
  obtain ⟨tc, pc, fc⟩ := hc
  have hu : X.A.units + 65 < cLine := by have := g.un; omega
  refine ⟨_, pe_chain (opC_ok (Cn := Cn) hu o) (opC_ok (Cn := Cn) hu o') pa pb pc hm, fun {W S H σ Γ Hb d S' Q} so en ev q => ?_⟩
  obtain ⟨r, rfl, h⟩ := chain_run fa fb fc (Q := Q) so en ev
  exact h fun W' H' g' so' => (q.shift g').flat so' (.bl _) (by intro _ h; cases h)
theorem st_chain {o o' : COp} (g : GX Φ Cn k X) (ha : SEB Φ Cn X a ca) (hb : SEB Φ Cn X b cb) (hc : SEB Φ Cn X c cc) (hm : lastMarks [cop o, cop o'] [b, c] = false) : ST Φ Cn X (.Compare a [cop o, cop o'] [b, c] pos) (.chain o o' ca cb cc) := by
  obtain ⟨ta, pa, fa⟩ := ha
  obtain ⟨tb, pb, fb⟩ := hb
  obtain ⟨tc, pc, fc⟩ := hc
  have hu : X.A.units + 65 < cLine := by have := g.un; omega
  refine ⟨_, pt_chain (opC_ok (Cn := Cn) hu o) (opC_ok (Cn := Cn) hu o') pa pb pc hm, fun {W S H σ Γ Hb d S' b0 Q} so en ev tr q => ?_⟩
  obtain ⟨r, rfl, h⟩ := chain_run fa fb fc (Q := fun x H' => ∃ k, x = .bl k ∧ Q k H') so en ev
  cases tr
  exact h fun W' H' g' so' => ⟨_, rfl, q W' H' g' so'⟩
theorem st_val (ha : SEB Φ Cn X a ca) (he : ∀ whole, isTrue a X.env whole = (do let v ← whole; standAt a.pos; holding [v] (truthy v))) : ST Φ Cn X a ca := by
  obtain ⟨ta, pa, fa⟩ := ha
  refine ⟨_, pt_truth pa he, fun {W S H σ Γ Hb d S' b0 Q} so en ev tr q => ?_⟩
  exact fa so en ev fun v1 W1 H1 g1 so1 b1 => ⟨b0, truV so1 b1 tr, q W1 H1 g1 so1⟩
theorem truOk {S S' : Store} {d : D} {b : Bool} (h : truR S d = .ok b S') : tru S d = some b ∧ S' = S := ofOk h
theorem st_not (ha : ST Φ Cn X a ca) : ST Φ Cn X (.UnaryOp .Not a pos) (.not ca) := by
  obtain ⟨ta, pa, fa⟩ := ha
  refine ⟨_, pt_not pa, fun {W S H σ Γ Hb d S' b0 Q} so en ev tr q => ?_⟩
  rw [evE] at ev
  obtain ⟨x, S1, e1, ev⟩ := bindOk ev
  obtain ⟨t, S2, e2, ev2⟩ := bindOk ev
  obtain ⟨e3, rfl⟩ := truOk e2
  cases ev2
  cases tr
  exact fa so en e1 e3 fun W1 H1 g1 so1 => q W1 H1 g1 so1
theorem seo_not (ha : SEB Φ Cn X a ca) : SEO Φ Cn X (.UnaryOp .Not a pos) (.not ca) := by
  obtain ⟨ta, pa, fa⟩ := ha
  refine ⟨_, pe_notT pa, fun {W S H σ Γ Hb d S' Q} so en ev q => ?_⟩
  rw [evE] at ev
  obtain ⟨x, S1, e1, ev⟩ := bindOk ev
  obtain ⟨t, S2, e2, ev2⟩ := bindOk ev
  obtain ⟨e3, rfl⟩ := truOk e2
  cases ev2
  exact fa so en e1 fun v1 W1 H1 g1 so1 b1 => ⟨t, truV so1 b1 e3, (q.shift g1).flat so1 (.bl _) (by intro _ h; cases h)⟩
theorem se_ite (hc : ST Φ Cn X c cc) (ha : SE Φ Cn X a ca) (hb : SE Φ Cn X b cb) : SE Φ Cn X (.IfExp c a b pos) (.ite cc ca cb) := by
  obtain ⟨tc, pc, fc⟩ := hc
  obtain ⟨ta, pa, fa⟩ := ha
  obtain ⟨tb, pb, fb⟩ := hb
  refine ⟨_, pe_ifExp pc pa pb, fun {W S H σ Γ Hb d S' Q} so en ev q => ?_⟩
  rw [evE] at ev
  obtain ⟨x, S1, e1, ev1⟩ := bindOk ev
  clear ev
  obtain ⟨t, S2, e2, ev⟩ := bindOk ev1
  clear ev1
  obtain ⟨e2, rfl⟩ := truOk e2
  refine fc so en e1 e2 fun W1 H1 g1 so1 => ?_
  cases t with
  | true =>
    rw [if_pos rfl] at ev ⊢
    exact fa so1 (en.mono g1) ev (q.shift g1)
  | false =>
    rw [if_neg Bool.false_ne_true] at ev ⊢
    exact fb so1 (en.mono g1) ev (q.shift g1)
theorem seb_ite (hc : ST Φ Cn X c cc) (ha : SEB Φ Cn X a ca) (hb : SEB Φ Cn X b cb) : SEB Φ Cn X (.IfExp c a b pos) (.ite cc ca cb) := by
  obtain ⟨tc, pc, fc⟩ := hc
  obtain ⟨ta, pa, fa⟩ := ha
  obtain ⟨tb, pb, fb⟩ := hb
  refine ⟨_, pe_ifExp pc pa pb, fun {W S H σ Γ Hb d S' Q} so en ev q => ?_⟩
  rw [evE] at ev
  obtain ⟨x, S1, e1, ev1⟩ := bindOk ev
  clear ev
  obtain ⟨t, S2, e2, ev⟩ := bindOk ev1
  clear ev1
  obtain ⟨e2, rfl⟩ := truOk e2
  refine fc so en e1 e2 fun W1 H1 g1 so1 => ?_
  cases t with
  | true =>
    rw [if_pos rfl] at ev ⊢
    exact fa so1 (en.mono g1) ev (q.shift g1)
  | false =>
    rw [if_neg Bool.false_ne_true] at ev ⊢
    exact fb so1 (en.mono g1) ev (q.shift g1)
theorem se_and {rest : List Expr} (ha : SE Φ Cn X a ca) (hb : SE Φ Cn X (.BoolOp .And (b :: rest) pos) cb) : SE Φ Cn X (.BoolOp .And (a :: b :: rest) pos) (.and ca cb) := by
  obtain ⟨ta, pa, fa⟩ := ha
  obtain ⟨tb, pb, fb⟩ := hb
  refine ⟨_, pe_andT pa pb, fun {W S H σ Γ Hb d S' Q} so en ev q => ?_⟩
  rw [evE] at ev
  obtain ⟨x, S1, e1, ev1⟩ := bindOk ev
  clear ev
  obtain ⟨t, S2, e2, ev⟩ := bindOk ev1
  clear ev1
  obtain ⟨e2, rfl⟩ := truOk e2
  refine fa so en e1 fun v1 W1 H1 g1 so1 b1 => ⟨t, truV so1 (.inl b1) e2, ?_⟩
  cases t with
  | true =>
    rw [if_pos rfl] at ev ⊢
    exact fb so1 (en.mono g1) ev (q.shift g1)
  | false =>
    rw [if_neg Bool.false_ne_true] at ev ⊢
    cases ev
    exact q v1 W1 H1 g1 so1 b1
theorem se_or {rest : List Expr} (ha : SE Φ Cn X a ca) (hb : SE Φ Cn X (.BoolOp .Or (b :: rest) pos) cb) : SE Φ Cn X (.BoolOp .Or (a :: b :: rest) pos) (.or ca cb) := by
  obtain ⟨ta, pa, fa⟩ := ha
  obtain ⟨tb, pb, fb⟩ := hb
  refine ⟨_, pe_orT pa pb, fun {W S H σ Γ Hb d S' Q} so en ev q => ?_⟩
  rw [evE] at ev
  obtain ⟨x, S1, e1, ev1⟩ := bindOk ev
  clear ev
  obtain ⟨t, S2, e2, ev⟩ := bindOk ev1
  clear ev1
  obtain ⟨e2, rfl⟩ := truOk e2
  refine fa so en e1 fun v1 W1 H1 g1 so1 b1 => ⟨t, truV so1 (.inl b1) e2, ?_⟩
  cases t with
  | true =>
    rw [if_pos rfl] at ev ⊢
    cases ev
    exact q v1 W1 H1 g1 so1 b1
  | false =>
    rw [if_neg Bool.false_ne_true] at ev ⊢
    exact fb so1 (en.mono g1) ev (q.shift g1)
theorem se_one {op : PySem.BoolOp} (ha : SE Φ Cn X a ca) : SE Φ Cn X (.BoolOp op [a] pos) ca := by
  obtain ⟨ta, pa, fa⟩ := ha
  exact ⟨_, pe_one pa, fa⟩
def SW (e : Expr) (c : CE) (Φ : Fns) (Cn : Str → Option Addr) (X : Cx) : Prop := ∃ t : TT, PW X e t ∧ ∀ {W : Wd} {S : Store} {H : Hp} {σ : L2.St} {Γ : Env} {Hb : Hp} {d : D} {S' : Store} {b : Bool} {Q : Bool → Hp → Prop}, StOk X.K Cn W S H → EnvOk X.K Hb W Γ σ H → evE Φ c Γ S = .ok d S' → tru S' d = some b →
  (∀ W' H', Gr W H W' H' → StOk X.K Cn W' S' H' → Q b H') → t σ H Q
theorem SW.st (h : SW e ce Φ Cn X) : ST Φ Cn X e ce := by
  obtain ⟨t, p, f⟩ := h
  exact ⟨t, p.pt, f⟩
theorem sw_one {op : PySem.BoolOp} (ha : ST Φ Cn X a ca) : SW (.BoolOp op [a] pos) ca Φ Cn X := by
  obtain ⟨ta, pa, fa⟩ := ha
  cases op with
  | And => exact ⟨_, pw_and1 pa, fa⟩
  | Or => exact ⟨_, pw_or1 pa, fa⟩
theorem sw_and {rest : List Expr} (ha : ST Φ Cn X a ca) (hb : SW (.BoolOp .And (b :: rest) pos) cb Φ Cn X) : SW (.BoolOp .And (a :: b :: rest) pos) (.and ca cb) Φ Cn X := by
  obtain ⟨ta, pa, fa⟩ := ha
  obtain ⟨tb, pb, fb⟩ := hb
  refine ⟨_, pw_and pa pb, fun {W S H σ Γ Hb d S' b0 Q} so en ev tr q => ?_⟩
  rw [evE] at ev
  obtain ⟨x, S1, e1, ev1⟩ := bindOk ev
  clear ev
  obtain ⟨t, S2, e2, ev⟩ := bindOk ev1
  clear ev1
  obtain ⟨e2, rfl⟩ := truOk e2
  refine fa so en e1 e2 fun W1 H1 g1 so1 => ?_
  cases t with
  | true =>
    rw [if_pos rfl] at ev ⊢
    exact fb so1 (en.mono g1) ev tr fun W2 H2 g2 so2 => q W2 H2 (g1.trans g2) so2
  | false =>
    rw [if_neg Bool.false_ne_true] at ev ⊢
    cases ev
    rw [e2] at tr
    cases tr
    exact q W1 H1 g1 so1
theorem sw_or {rest : List Expr} (ha : ST Φ Cn X a ca) (hb : SW (.BoolOp .Or (b :: rest) pos) cb Φ Cn X) : SW (.BoolOp .Or (a :: b :: rest) pos) (.or ca cb) Φ Cn X := by
  obtain ⟨ta, pa, fa⟩ := ha
  obtain ⟨tb, pb, fb⟩ := hb
  refine ⟨_, pw_or pa pb, fun {W S H σ Γ Hb d S' b0 Q} so en ev tr q => ?_⟩
  rw [evE] at ev
  obtain ⟨x, S1, e1, ev1⟩ := bindOk ev
  clear ev
  obtain ⟨t, S2, e2, ev⟩ := bindOk ev1
  clear ev1
  obtain ⟨e2, rfl⟩ := truOk e2
  refine fa so en e1 e2 fun W1 H1 g1 so1 => ?_
  cases t with
  | true =>
    rw [if_pos rfl] at ev ⊢
    cases ev
    rw [e2] at tr
    cases tr
    exact q W1 H1 g1 so1
  | false =>
    rw [if_neg Bool.false_ne_true] at ev ⊢
    exact fb so1 (en.mono g1) ev tr fun W2 H2 g2 so2 => q W2 H2 (g1.trans g2) so2
theorem sa_nil : SA Φ Cn X [] [] := ⟨_, pa_nil, fun {W S H σ Γ Hb d S' Q} so en ev q => by
  rw [evEs] at ev
  cases ev
  exact q [] W H (Gr.refl W H) so .nil⟩
theorem sa_cons {es : List Expr} {cs : List CE} (ha : SE Φ Cn X a ca) (hr : SA Φ Cn X es cs) (hs : starEach (a :: es) X.env = (false, eval a X.env) :: starEach es X.env) : SA Φ Cn X (a :: es) (ca :: cs) := by
  obtain ⟨ta, pa, fa⟩ := ha
  obtain ⟨tr, pr, fr⟩ := hr
  refine ⟨_, pa_cons pa pr hs, fun {W S H σ Γ Hb d S' Q} so en ev q => ?_⟩
  rw [evEs] at ev
  obtain ⟨x, S1, e1, ev⟩ := bindOk ev
  obtain ⟨xs, S2, e2, ev⟩ := bindOk ev
  cases ev
  exact fa so en e1 fun v1 W1 H1 g1 so1 b1 => fr so1 (en.mono g1) e2 fun vs W2 H2 g2 so2 b2 => q (v1 :: vs) W2 H2 (g1.trans g2) so2 (.cons (b1.mono g2.gw) b2)
theorem evEs_len {cs : List CE} : ∀ {Γ : Env} {S S' : Store} {ds : List D}, evEs Φ cs Γ S = .ok ds S' → ds.length = cs.length := by
  induction cs with
  | nil => intro Γ S S' ds h; rw [evEs] at h; cases h; rfl
  | cons c cs ih =>
    intro Γ S S' ds h
    rw [evEs] at h
    obtain ⟨x, S1, e1, h⟩ := bindOk h
    obtain ⟨xs, S2, e2, h⟩ := bindOk h
    cases h
    rw [List.length_cons, List.length_cons, ih e2]
theorem seo_tup {es : List Expr} {cs : List CE} {x1 : Nat} (hs : SA Φ Cn X es cs) (hl : cs.length ≤ 1000) : SEO Φ Cn X (.Tuple es x1 pos) (.tup cs) := by
  obtain ⟨ta, pa, fa⟩ := hs
  refine ⟨_, pe_tup pa, fun {W S H σ Γ Hb d S' Q} so en ev q => ?_⟩
  rw [evE] at ev
  obtain ⟨xs, S1, e1, ev⟩ := bindOk ev
  cases ev
  refine fa so en e1 fun vs W1 H1 g1 so1 b1 => ⟨?_, fun p hp => (q.shift g1).tup so1 hp b1⟩
  rw [b1.length, evEs_len e1]
  exact line_le (by omega)
theorem seo_lst {es : List Expr} {cs : List CE} (hs : SA Φ Cn X es cs) (hl : cs.length ≤ 1000) : SEO Φ Cn X (.List es pos) (.lst cs) := by
  obtain ⟨ta, pa, fa⟩ := hs
  refine ⟨_, pe_lst pa, fun {W S H σ Γ Hb d S' Q} so en ev q => ?_⟩
  rw [evE] at ev
  obtain ⟨xs, S1, e1, ev⟩ := bindOk ev
  cases ev
  refine fa so en e1 fun vs W1 H1 g1 so1 b1 => ⟨?_, fun p hp => (q.shift g1).lst so1 hp b1⟩
  rw [b1.length, evEs_len e1]
  exact line_le (by omega)
theorem se_sub (g : GX Φ Cn k X) (ha : SEB Φ Cn X a ca) (hb : SEB Φ Cn X b cb) (hs : PlainIx b) : SE Φ Cn X (.Subscript a b pos) (.sub ca cb) := by
  obtain ⟨ta, pa, fa⟩ := ha
  obtain ⟨tb, pb, fb⟩ := hb
  refine ⟨_, pe_ix (getD_ok (Cn := Cn) (by have := g.un; omega)) pa pb hs, fun {W S H σ Γ Hb d S' Q} so en ev q => ?_⟩
  rw [evE] at ev
  obtain ⟨x, S1, e1, ev⟩ := bindOk ev
  obtain ⟨y, S2, e2, ev⟩ := bindOk ev
  obtain ⟨e3, rfl⟩ := ofOk ev
  exact fa so en e1 fun v1 W1 H1 g1 so1 b1 => fb so1 (en.mono g1) e2 fun v2 W2 H2 g2 so2 b2 => ⟨W2, _, x, y, d, so2, b1.mono g2, b2, e3, fun v H3 g3 so3 r => q v W2 H3 ((g1.trans g2).trans g3) so3 r⟩
theorem so_none : SO_ Φ Cn X none none := ⟨_, po_none, fun {W S H σ Γ Hb o S' Q} so en ev q => by
  rw [evO] at ev
  cases ev
  exact q W H (Gr.refl W H) so⟩
theorem so_some (ha : SEB Φ Cn X a ca) : SO_ Φ Cn X (some a) (some ca) := by
  obtain ⟨ta, pa, fa⟩ := ha
  refine ⟨_, po_some pa, fun {W S H σ Γ Hb o S' Q} so en ev q => ?_⟩
  rw [evO] at ev
  obtain ⟨x, S1, e1, ev⟩ := bindOk ev
  split at ev
  · rename_i i
    cases ev
    refine fa so en e1 fun v1 W1 H1 g1 so1 b1 => ?_
    obtain rfl := b1.int
    exact ⟨i, rfl, q W1 H1 g1 so1⟩
  · cases ev
theorem seo_slice {lo hi : Option Expr} {cl ch : Option CE} {p2 : Pos} (ha : SEB Φ Cn X a ca) (hl : SO_ Φ Cn X lo cl) (hh : SO_ Φ Cn X hi ch) : SEO Φ Cn X (.Subscript a (.Slice lo hi none p2) pos) (.slice ca cl ch) := by
  obtain ⟨ta, pa, fa⟩ := ha
  obtain ⟨tl, pl, fl⟩ := hl
  obtain ⟨th, ph, fh⟩ := hh
  refine ⟨_, pe_slice (cutD_ok (Cn := Cn)) pa pl ph, fun {W S H σ Γ Hb d S' Q} so en ev q => ?_⟩
  rw [evE] at ev
  obtain ⟨x, S1, e1, ev⟩ := bindOk ev
  obtain ⟨l, S2, e2, ev⟩ := bindOk ev
  obtain ⟨h, S3, e3, ev⟩ := bindOk ev
  obtain ⟨e4, rfl⟩ := ofOk ev
  exact fa so en e1 fun v1 W1 H1 g1 so1 b1 => fl so1 (en.mono g1) e2 fun W2 H2 g2 so2 => fh so2 (en.mono (g1.trans g2)) e3 fun W3 H3 g3 so3 =>
    ⟨W3, _, x, d, so3, b1.mono (g2.trans g3), e4, q.shift ((g1.trans g2).trans g3)⟩
theorem seo_rev {k0 : Nat} {p1 p2 p3 : Pos} (ha : SEB Φ Cn X a ca) : SEO Φ Cn X (.Subscript a (.Slice none none (some (.UnaryOp .USub (.Constant (.int 1) k0 p1) p2)) p3) pos) (.rev ca) := by
  obtain ⟨ta, pa, fa⟩ := ha
  refine ⟨_, pe_revL pa, fun {W S H σ Γ Hb d S' Q} so en ev q => ?_⟩
  rw [evE] at ev
  obtain ⟨x, S1, e1, ev⟩ := bindOk ev
  obtain ⟨e4, rfl⟩ := ofOk ev
  refine fa so en e1 fun v1 W1 H1 g1 so1 b1 => ?_
  unfold revD at e4
  rw [Option.map_eq_some_iff] at e4
  obtain ⟨xs, e5, rfl⟩ := e4
  obtain ⟨l, vs, rfl, hL, r⟩ := lstOf_rep so1 b1 e5
  exact ⟨l, vs, rfl, SqL.of hL, fun p hp => (q.shift g1).lst so1 hp r.reverse⟩
end
end PL
set_option autoImplicit false
set_option linter.all false
set_option maxRecDepth 100000
set_option Elab.async false
namespace PL
open PySem PySem.Spec PyProof.Rows L2
def tE (Φ : Fns) (Cn : Str → Option Addr) (K : PySem.W.Frag) (c : CE) : TE := fun σ H Q =>
  ∃ (W : Wd) (S : Store) (Γ : Env) (Hb : Hp) (d : D) (S' : Store), StOk K Cn W S H ∧ EnvOk K Hb W Γ σ H ∧ evE Φ c Γ S = .ok d S' ∧ Res K Cn W H S' d Q
def tTst (Φ : Fns) (Cn : Str → Option Addr) (K : PySem.W.Frag) (c : CE) : TT := fun σ H Q =>
  ∃ (W : Wd) (S : Store) (Γ : Env) (Hb : Hp) (d : D) (S' : Store) (b : Bool), StOk K Cn W S H ∧ EnvOk K Hb W Γ σ H ∧ evE Φ c Γ S = .ok d S' ∧ tru S' d = some b ∧ ∀ W' H', Gr W H W' H' → StOk K Cn W' S' H' → Q b H'
mutual
def slT : CT → List Nat
  | .nm i => [i]
  | .tp ts => slTs ts
def slTs : List CT → List Nat
  | [] => []
  | t :: ts => slT t ++ slTs ts
end
def gC (Cn : Str → Option Addr) (K : PySem.W.Frag) (c : CT) : TG := fun v σ H Q =>
  ∃ (W : Wd) (S : Store) (Γ : Env) (Hb : Hp) (d : D) (Γ' : Env), StOk K Cn W S H ∧ EnvOk K Hb W Γ σ H ∧ Rep K W v d ∧ asgT c d Γ = some Γ' ∧
    ∀ σ', EnvOk K Hb W Γ' σ' H → σ'.length = σ.length → (∀ i, i ∉ slT c → σ'[i]? = σ[i]?) → Q σ' H
def gCs (Cn : Str → Option Addr) (K : PySem.W.Frag) (cs : List CT) : TGs := fun vs σ H Q =>
  ∃ (W : Wd) (S : Store) (Γ : Env) (Hb : Hp) (ds : List D) (Γ' : Env), StOk K Cn W S H ∧ EnvOk K Hb W Γ σ H ∧ RepL K W vs ds ∧ asgTs cs ds Γ = some Γ' ∧
    ∀ σ', EnvOk K Hb W Γ' σ' H → σ'.length = σ.length → (∀ i, i ∉ slTs cs → σ'[i]? = σ[i]?) → Q σ' H
section
variable {Φ : Fns} {Cn : Str → Option Addr} {X : Cx} {k : Nat} {e a b c : Expr} {ce ca cb cc : CE} {pos : Pos}
theorem SE.pe (h : SE Φ Cn X e ce) : PE X e (tE Φ Cn X.K ce) := by
  obtain ⟨t, p, f⟩ := h
  exact ⟨fun pins s σ H Q I ⟨W, S, Γ, Hb, d, S', so, en, ev, q⟩ => p.run pins s σ H Q I (f so en ev q)⟩
theorem ST.pt (h : ST Φ Cn X e ce) : PT X e (tTst Φ Cn X.K ce) := by
  obtain ⟨t, p, f⟩ := h
  exact ⟨fun pins s σ H Q I ⟨W, S, Γ, Hb, d, S', b, so, en, ev, tr, q⟩ => p.run pins s σ H Q I (f so en ev tr q)⟩
theorem pg_nm {i : Nat} {x : Str} (hN : X.N.Nodup) (hi : X.N[i]? = some x) (hx : Loc X.env.scope x) (hf : X.fn x = true ∨ X.env.scope.names.lookup x = some .local) : PG X (.Name x pos) (gC Cn X.K (.nm i)) := by
  have p := pg_name (pos := pos) hN hi hx hf
  refine ⟨fun pins s σ H v u Q I r ⟨W, S, Γ, Hb, d, Γ', so, en, rr, e, q⟩ => p.run pins s σ H v u Q I r ?_⟩
  rw [asgT] at e
  cases e
  exact q _ (en.setP rr) (List.length_set ..) fun j hj => List.getElem?_set_ne (fun e => hj (by rw [slT, e]; exact List.mem_singleton.mpr rfl))
theorem pgs_n : PGs X [] (gCs Cn X.K []) := by
  refine ⟨fun pins s σ H vs us Q I r ⟨W, S, Γ, Hb, ds, Γ', so, en, rr, e, q⟩ => pgs_nil.run pins s σ H vs us Q I r ?_⟩
  cases rr with
  | nil =>
    rw [asgTs] at e
    cases e
    exact ⟨rfl, q σ en rfl fun _ _ => rfl⟩
  | cons h t => rw [asgTs] at e; cases e; all_goals (intros; contradiction)
theorem pgs_c {es : List Expr} {ct : CT} {cts : List CT} (h1 : PG X e (gC Cn X.K ct)) (h2 : PGs X es (gCs Cn X.K cts)) (hs : (assignEach (e :: es) X.env).map (·.2) = assign e X.env :: (assignEach es X.env).map (·.2)) : PGs X (e :: es) (gCs Cn X.K (ct :: cts)) := by
  refine ⟨fun pins s σ H vs us Q I r ⟨W, S, Γ, Hb, ds, Γ', so, en, rr, e, q⟩ => (pgs_cons h1 h2 hs).run pins s σ H vs us Q I r ?_⟩
  cases rr with
  | nil => rw [asgTs] at e; cases e; all_goals (intros; contradiction)
  | @cons v vs d ds hv ht =>
    rw [asgTs, Option.bind_eq_some_iff] at e
    obtain ⟨Γ1, e1, e2⟩ := e
    refine ⟨v, vs, rfl, W, S, Γ, Hb, d, Γ1, so, en, hv, e1, fun σ1 en1 l1 k1 => ?_⟩
    exact ⟨W, S, Γ1, Hb, ds, Γ', so, en1, ht, e2, fun σ2 en2 l2 k2 => q σ2 en2 (l2.trans l1) fun i hi => by
      rw [slTs, List.mem_append, not_or] at hi
      rw [k2 i hi.2, k1 i hi.1]⟩
theorem asgTs_len : ∀ {cs : List CT} {ds : List D} {Γ Γ' : Env}, asgTs cs ds Γ = some Γ' → ds.length = cs.length
  | [], [], _, _, _ => rfl
  | [], _ :: _, _, _, h => by rw [asgTs] at h; cases h; all_goals (intros; contradiction)
  | _ :: _, [], _, _, h => by rw [asgTs] at h; cases h; all_goals (intros; contradiction)
  | c :: cs, d :: ds, _, _, h => by
    rw [asgTs, Option.bind_eq_some_iff] at h
    obtain ⟨Γ1, _, e2⟩ := h
    rw [List.length_cons, List.length_cons, asgTs_len e2]
theorem pg_tp {es : List Expr} {kk : Nat} {cts : List CT} (hc : X.calm = true) (h : PGs X es (gCs Cn X.K cts)) (hl : es.length = cts.length) (hn : (assignEach es X.env).length = es.length) (hst : (assignEach es X.env).findIdx? (·.1) = none) : PG X (.Tuple es kk pos) (gC Cn X.K (.tp cts)) := by
  have p := pg_tup (k := kk) (pos := pos) hc h hn hst
  refine ⟨fun pins s σ H v u Q I r ⟨W, S, Γ, Hb, d, Γ', so, en, rr, e, q⟩ => p.run pins s σ H v u Q I r ?_⟩
  unfold asgT at e
  split at e
  · rename_i xs
    obtain ⟨l, vs, e1, hL, r1⟩ := BRep.tup so (.inl rr)
    exact ⟨l, vs, e1, hL, by rw [r1.length, asgTs_len e, hl], W, S, Γ, Hb, xs, Γ', so, en, r1, e, fun σ' en' l' k' => q σ' en' l' fun i hi => k' i (by rw [slT] at hi; exact hi)⟩
  · cases e
end
structure Gs (W : Wd) (H : Hp) (W' : Wd) (H' : Hp) : Prop where
  gw : Gw W W'
  frz : ∀ a o u, H a = some (.frz o u) → H' a = some (.frz o u)
theorem Gr.gs {W W' : Wd} {H H' : Hp} (g : Gr W H W' H') : Gs W H W' H' := ⟨g.gw, g.frz⟩
theorem Gs.refl (W : Wd) (H : Hp) : Gs W H W H := ⟨Gw.refl W, fun _ _ _ h => h⟩
theorem Gs.trans {W W1 W2 : Wd} {H H1 H2 : Hp} (x : Gs W H W1 H1) (y : Gs W1 H1 W2 H2) : Gs W H W2 H2 := ⟨x.gw.trans y.gw, fun a o u h => y.frz a o u (x.frz a o u h)⟩
structure WkOk (K : PySem.W.Frag) (Cn : Str → Option Addr) (W : Wd) (H : Hp) (J : It) (xs : List D) (c : Option (Nat × SO)) (G : Hp → Prop) (Y : Nat → Hp → V → Hp → Prop) : Prop where
  w : Walk J xs.length G Y
  g : ∀ (W2 : Wd) (S2 : Store) (H2 : Hp), Gs W H W2 H2 → StOk K Cn W2 S2 H2 → gOk c S2 → G H2
  y : ∀ (i : Nat) (x : V) (W2 : Wd) (S2 : Store) (H2 H3 : Hp), i < xs.length → Gs W H W2 H2 → StOk K Cn W2 S2 H2 → gOk c S2 → Y i H2 x H3 → ∃ W3, Gr W2 H2 W3 H3 ∧ StOk K Cn W3 S2 H3 ∧ ∃ d, xs[i]? = some d ∧ Rep K W3 x d
section
variable (Φ : Fns) (Cn : Str → Option Addr) (X : Cx)
def SI (tg it : Expr) (c : CI) : Prop := ∃ wi : TI, PI X tg it wi ∧ ∀ {W : Wd} {S : Store} {H : Hp} {σ : L2.St} {Γ : Env} {Hb : Hp} {its : Its} {S' : Store} {R : It → Hp → Prop}, StOk X.K Cn W S H → EnvOk X.K Hb W Γ σ H → evI Φ c Γ S = .ok its S' →
  (∀ J W' H' G Y, Gr W H W' H' → StOk X.K Cn W' S' H' → WkOk X.K Cn W' H' J its.xs its.g G Y → R J H') → wi σ H R
end
section
variable {Φ : Fns} {Cn : Str → Option Addr} {X : Cx} {k : Nat} {e a b c tg : Expr} {ce ca cb cc : CE} {pos : Pos}
theorem pi_or {wi wi' : TI} (h : PI X tg e wi) (h' : PI X tg e wi') : PI X tg e (fun σ H R => wi σ H R ∨ wi' σ H R) :=
  ⟨fun pins s σ H R I q => q.elim (fun q => h.run pins s σ H R I q) fun q => h'.run pins s σ H R I q⟩
theorem wk_list {K : PySem.W.Frag} {W : Wd} {H : Hp} {l : Addr} {vs : List V} {xs : List D} (hl : SqL K W.Hf l vs) (r : RepL K W vs xs) : WkOk K Cn W H (Itl K l) xs none (fun H => SqL K H l vs) (YAt vs) where
  w := by rw [← r.length]; exact walk_list
  g := fun W2 S2 H2 g so _ => sqL_mono (fun a o h => so.sub a o (g.gw.hf a o h)) hl
  y := fun i x W2 S2 H2 H3 hi g so _ ⟨e, hx⟩ => by
    subst e
    obtain ⟨d, h1, h2⟩ := r.get hx
    exact ⟨W2, Gr.refl W2 _, so, d, h1, h2.mono g.gw⟩
theorem wk_tup {K : PySem.W.Frag} {W : Wd} {H : Hp} {l : Addr} {vs : List V} {xs : List D} (hl : SqT K W.Hf l vs) (r : RepL K W vs xs) : WkOk K Cn W H (Itt K l) xs none (fun H => SqT K H l vs) (YAt vs) where
  w := by rw [← r.length]; exact walk_tup
  g := fun W2 S2 H2 g so _ => sqT_mono (fun a o h => so.sub a o (g.gw.hf a o h)) hl
  y := fun i x W2 S2 H2 H3 hi g so _ ⟨e, hx⟩ => by
    subst e
    obtain ⟨d, h1, h2⟩ := r.get hx
    exact ⟨W2, Gr.refl W2 _, so, d, h1, h2.mono g.gw⟩
theorem wk_str {K : PySem.W.Frag} {W : Wd} {H : Hp} {z : Str} : WkOk K Cn W H (L2.Its z) (z.cps.toList.map fun c => PyData.str ⟨#[c]⟩) none (fun _ => True) (fun i H x H' => H' = H ∧ ∃ c, z.cps[i]? = some c ∧ x = .str ⟨#[c]⟩) where
  w := by
    have hl : (z.cps.toList.map fun c => PyData.str ⟨#[c]⟩).length = z.cps.size := by rw [List.length_map, Array.length_toList]
    rw [hl]
    exact ⟨fun i _ hi _ => hi, fun _ _ => Nat.le_refl _, fun _ _ _ _ _ _ y => y⟩
  g := fun _ _ _ _ _ _ => True.intro
  y := fun i x W2 S2 H2 H3 hi g so _ ⟨e, c, h1, h2⟩ => by
    subst e h2
    refine ⟨W2, Gr.refl W2 _, so, .str ⟨#[c]⟩, ?_, .str _⟩
    rw [List.getElem?_map, Array.getElem?_toList, h1]; rfl
theorem wk_store {K : PySem.W.Frag} {W : Wd} {H : Hp} {a : Addr} {n : Nat} {xs : List D} (h : W.A[n]? = some a) : WkOk K Cn W H (Itl K a) xs (some (n, .lst xs)) (fun H => ∃ vs, SqL K H a vs ∧ vs.length = xs.length ∧ H a = some (.lst vs)) (fun i H x H' => H' = H ∧ ∀ vs, SqL K H a vs → vs[i]? = some x) where
  w := ⟨fun i H hi ⟨vs, q, l, _⟩ => ⟨vs, vs[i], q, by simp [l, hi]⟩, fun H ⟨vs, q, l, _⟩ => ⟨vs, q, by rw [l]; exact Nat.le_refl _⟩, fun _ _ _ _ _ _ y => y⟩
  g := fun W2 S2 H2 g so c => by
    obtain ⟨vs, h1, h2⟩ := so.obj n a _ (g.gw.a n a h) c
    exact ⟨vs, SqL.of h1, h2.length, h1⟩
  y := fun i x W2 S2 H2 H3 hi g so c ⟨e, hx⟩ => by
    subst e
    obtain ⟨vs, h1, h2⟩ := so.obj n a _ (g.gw.a n a h) c
    obtain ⟨d, k1, k2⟩ := h2.get (hx vs (SqL.of h1))
    exact ⟨W2, Gr.refl W2 _, so, d, k1, k2⟩
theorem DRep.key {κ : Type} {K : PySem.W.Frag} {W : Wd} {kd : κ → D} {r : List (κ × V)} {m : List (D × D)} (h : DRep K W kd r m) : ∀ (i : Nat) (k : κ) (v : V), r[i]? = some (k, v) → (m.map (·.1))[i]? = some (kd k) := by
  induction h with
  | nil => intro i k v e; simp at e
  | cons _ _ ih =>
    intro i k v e
    cases i with
    | zero => simp at e; rw [← e.1]; rfl
    | succ i => exact ih i k v (by simpa using e)
theorem rep_key {K : PySem.W.Frag} {W : Wd} (k : Key) : Rep K W (kV k) (kD k) := by
  cases k with
  | inl i => exact .int i
  | inr s => exact .str s
theorem wk_dictK {K : PySem.W.Frag} {W : Wd} {H : Hp} {a : Addr} {n : Nat} {o : Obj} {kvs : List (Key × V)} {m : List (D × D)} (hd : H a = some (.frz o (.dK kvs))) (r : DRep K W kD kvs m) : WkOk K Cn W H (Itk a o kvs) (m.map (·.1)) (some (n, .loc m)) (fun H => H a = some (.frz o (.dK kvs))) (fun i H x H' => H' = H ∧ ∃ k v, kvs[i]? = some (k, v) ∧ x = kV k) where
  w := by rw [List.length_map, ← r.len]; exact walk_keys
  g := fun W2 S2 H2 g so _ => g.frz _ _ _ hd
  y := fun i x W2 S2 H2 H3 hi g so _ ⟨e, k, v, h1, h2⟩ => by
    subst e h2
    exact ⟨W2, Gr.refl W2 _, so, kD k, r.key i k v h1, rep_key k⟩
theorem wk_dictT {K : PySem.W.Frag} {W : Wd} {H : Hp} {a : Addr} {n : Nat} {o : Obj} (hd : H a = some (.frz o (.dT []))) : WkOk K Cn W H (Itkt a o []) ([] : List D) (some (n, .loc [])) (fun H => H a = some (.frz o (.dT []))) (fun i H x H' => H' = H ∧ ∃ (k : List Key) (v : V) (q : Addr), ([] : List (List Key × V))[i]? = some (k, v) ∧ x = .ref q ∧ H q = some (.tup (k.map kV))) where
  w := walk_keysT
  g := fun W2 S2 H2 g so _ => g.frz _ _ _ hd
  y := fun i x W2 S2 H2 H3 hi g so _ _ => by exact (Nat.not_lt_zero _ hi).elim
theorem si_e (ha : SE Φ Cn X a ca) : SI Φ Cn X tg a (.e ca) := by
  obtain ⟨ta, pa, fa⟩ := ha
  refine ⟨_, pi_or (pi_list pa) (pi_or (pi_tup pa) (pi_or (pi_str pa) (pi_keys pa))), fun {W S H σ Γ Hb its S' R} so en ev q => ?_⟩
  rw [evI] at ev
  obtain ⟨x, S1, e1, ev1⟩ := bindOk ev
  clear ev
  obtain ⟨e2, rfl⟩ := ofOk ev1
  unfold iterOf at e2
  split at e2
  · rename_i z
    cases e2
    refine .inr (.inr (.inl (fa so en e1 fun v W1 H1 g1 so1 r1 => ?_)))
    cases r1
    exact ⟨z, rfl, q _ W1 H1 _ _ g1 so1 wk_str⟩
  · cases e2
    refine .inr (.inl (fa so en e1 fun v W1 H1 g1 so1 r1 => ?_))
    cases r1 with
    | @tup l vs _ h r =>
      have hT : SqT X.K W1.Hf l vs := SqT.of h
      exact ⟨l, rfl, ⟨vs, sqT_mono so1.sub hT⟩, q _ W1 H1 _ _ g1 so1 (wk_tup hT r)⟩
  · cases e2
    refine .inl (fa so en e1 fun v W1 H1 g1 so1 r1 => ?_)
    cases r1 with
    | @lst l vs _ h r =>
      have hT : SqL X.K W1.Hf l vs := SqL.of h
      exact ⟨l, rfl, ⟨vs, sqL_mono so1.sub hT⟩, q _ W1 H1 _ _ g1 so1 (wk_list hT r)⟩
  · rename_i ys
    cases e2
    refine .inl (fa so en e1 fun v W1 H1 g1 so1 r1 => ?_)
    generalize hd : PyData.dict [(PyData.bool true, PyData.list ys)] = d at r1
    cases r1 with
    | @scr l vs zs h r =>
      simp only [scr, PyData.dict.injEq, List.cons.injEq, Prod.mk.injEq, PyData.list.injEq, and_true, true_and] at hd
      subst hd
      exact ⟨l, rfl, ⟨vs, sqL_mono so1.sub h⟩, q _ W1 H1 _ _ g1 so1 (wk_list h r)⟩
    | ref e h => rw [← hd] at e; cases e
    | _ => cases hd
  · split at e2
    · rename_i n ys hn
      cases e2
      refine .inl (fa so en e1 fun v W1 H1 g1 so1 r1 => ?_)
      obtain ⟨b, rfl, hb, vs, h1, h2⟩ := Rep.at so1 hn r1
      exact ⟨b, rfl, ⟨vs, SqL.of h1⟩, q _ W1 H1 _ _ g1 so1 (wk_store hb)⟩
    · rename_i n m hn
      split at e2
      · rename_i hk
        cases e2
        refine .inr (.inr (.inr (fa so en e1 fun v W1 H1 g1 so1 r1 => ?_)))
        obtain ⟨b, rfl, hb, od, u, h1, h2⟩ := Rep.at so1 hn r1
        rcases h2 with ⟨kvs, rfl, h2⟩ | ⟨kvs, rfl, h2⟩
        · exact ⟨b, od, rfl, .inl ⟨kvs, h1, q _ W1 H1 _ _ g1 so1 (wk_dictK h1 h2)⟩⟩
        · have em := all_both hk h2.tups
          subst em
          cases h2
          exact ⟨b, od, rfl, .inr ⟨[], h1, q _ W1 H1 _ _ g1 so1 (wk_dictT h1)⟩⟩
      · cases e2
    · cases e2
theorem rngL_at {a b : Int} {i : Nat} (h : i < (b - a).toNat) : (rngL a b)[i]? = some (.int (a + (i : Int))) := by
  unfold rngL
  rw [List.getElem?_map, List.getElem?_range h]; rfl
theorem rngL_len (a b : Int) : (rngL a b).length = (b - a).toNat := by unfold rngL; rw [List.length_map, List.length_range]
theorem wk_rng {K : PySem.W.Frag} {W : Wd} {H : Hp} {a b : Int} : WkOk K Cn W H (Itr a (b - a).toNat) (rngL a b) none (fun _ => True) (YFn fun i => .int (a + i)) where
  w := by rw [rngL_len]; exact walk_range
  g := fun _ _ _ _ _ _ => True.intro
  y := fun i x W2 S2 H2 H3 hi g so _ ⟨e, h2⟩ => by
    subst e h2
    rw [rngL_len] at hi
    exact ⟨W2, Gr.refl W2 _, so, _, rngL_at hi, .int _⟩
theorem rng2_of {x y : D} {xs : List D} (h : rng2 x y = some xs) : ∃ a b, x = .int a ∧ y = .int b ∧ -1000000000000 ≤ a ∧ a ≤ 1000000000000 ∧ -1000000000000 ≤ b ∧ b ≤ 1000000000000 ∧ (b - a).toNat ≤ 1000000 ∧ xs = rngL a b := by
  unfold rng2 at h
  split at h
  · rename_i a b
    split at h
    · rename_i hh
      cases h
      simp only [Bool.and_eq_true, smallI, decide_eq_true_eq] at hh
      exact ⟨a, b, rfl, rfl, hh.1.1.1, hh.1.1.2, hh.1.2.1, hh.1.2.2, hh.2, rfl⟩
    · cases h
  · cases h
theorem si_r1 {p : Pos} (hg : Gl X "range") (hm : X.mg "range" = none) (ha : SE Φ Cn X a ca) (hs : starEach [a] X.env = [(false, eval a X.env)]) : SI Φ Cn X tg (.Call (.Name "range" p) [a] [] pos) (.r1 ca) := by
  obtain ⟨ta, pa, fa⟩ := ha
  refine ⟨_, pi_range1 hg hm (pa_cons pa pa_nil hs) hs, fun {W S H σ Γ Hb its S' R} so en ev q => ?_⟩
  rw [evI] at ev
  obtain ⟨x, S1, e1, ev1⟩ := bindOk ev
  clear ev
  obtain ⟨e2, rfl⟩ := ofOk ev1
  rw [Option.map_eq_some_iff] at e2
  obtain ⟨xs, e2, rfl⟩ := e2
  obtain ⟨a0, j, ha0, rfl, h1, h2, h3, h4, h5, rfl⟩ := rng2_of e2
  cases ha0
  refine fa so en e1 fun v W1 H1 g1 so1 r1 => ?_
  cases r1
  refine ⟨j, rfl, by omega, by omega, ?_⟩
  have := q (Itr 0 (j - 0).toNat) W1 H1 _ _ g1 so1 wk_rng
  rwa [Int.sub_zero] at this
theorem si_r2 {p : Pos} (hg : Gl X "range") (hm : X.mg "range" = none) (ha : SE Φ Cn X a ca) (hb : SE Φ Cn X b cb) (hs : starEach [a, b] X.env = [(false, eval a X.env), (false, eval b X.env)]) (hs2 : starEach [b] X.env = [(false, eval b X.env)]) :
    SI Φ Cn X tg (.Call (.Name "range" p) [a, b] [] pos) (.r2 ca cb) := by
  obtain ⟨ta, pa, fa⟩ := ha
  obtain ⟨tb, pb, fb⟩ := hb
  refine ⟨_, pi_range2 hg hm (pa_cons pa (pa_cons pb pa_nil hs2) (by rw [hs, hs2])) hs hs2, fun {W S H σ Γ Hb its S' R} so en ev q => ?_⟩
  rw [evI] at ev
  obtain ⟨x, S1, e1, ev1⟩ := bindOk ev
  clear ev
  obtain ⟨y, S2, e3, ev⟩ := bindOk ev1
  clear ev1
  obtain ⟨e2, rfl⟩ := ofOk ev
  rw [Option.map_eq_some_iff] at e2
  obtain ⟨xs, e2, rfl⟩ := e2
  obtain ⟨i, j, rfl, rfl, h1, h2, h3, h4, h5, rfl⟩ := rng2_of e2
  refine fa so en e1 fun v W1 H1 g1 so1 r1 => fb so1 (en.mono g1) e3 fun v2 W2 H2 g2 so2 r2 => ?_
  cases r1
  cases r2
  exact ⟨i, j, rfl, ⟨by omega, by omega, by omega, by omega⟩, q _ W2 H2 _ _ (g1.trans g2) so2 wk_rng⟩
theorem walk_zipT {K : PySem.W.Frag} {a b : Addr} {xs ys : List V} {n : Nat} (hn : n = min xs.length ys.length) : Walk (RZ.ItzT K a b) n (fun H => SqT K H a xs ∧ SqT K H b ys) (YPair (fun i => xs[i]?) (fun i => ys[i]?)) where
  goes := fun i H hi q => by
    have h1 : i < xs.length := by omega
    have h2 : i < ys.length := by omega
    exact ⟨xs, ys, xs[i], ys[i], q.1, q.2, List.getElem?_eq_getElem h1, List.getElem?_eq_getElem h2⟩
  stops := fun H q => ⟨xs, ys, q.1, q.2, by omega⟩
  yields := fun i H v H' hi q y => by
    obtain ⟨T, x, z, e1, e2, e3, e4, e5⟩ := y
    exact ⟨T, x, z, e1, e2, e3, e4 xs q.1, e5 ys q.2⟩
theorem wk_zipT {K : PySem.W.Frag} {W : Wd} {H : Hp} {l m : Addr} {vs us : List V} {xs ys : List D} (hl : SqT K W.Hf l vs) (hm : SqT K W.Hf m us) (r : RepL K W vs xs) (r' : RepL K W us ys) :
    WkOk K Cn W H (RZ.ItzT K l m) (zipD xs ys) none (fun H => SqT K H l vs ∧ SqT K H m us) (YPair (fun i => vs[i]?) (fun i => us[i]?)) where
  w := walk_zipT (by unfold zipD; rw [List.length_zipWith, r.length, r'.length])
  g := fun W2 S2 H2 g so _ => ⟨sqT_mono (fun a o h => so.sub a o (g.gw.hf a o h)) hl, sqT_mono (fun a o h => so.sub a o (g.gw.hf a o h)) hm⟩
  y := fun i x W2 S2 H2 H3 hi g so _ y => by
    obtain ⟨T, v, u, rfl, hT, rfl, hv, hu⟩ := y
    obtain ⟨d, d1, d2⟩ := r.get hv
    obtain ⟨e, e1, e2⟩ := r'.get hu
    refine ⟨_, Gr.fz hT so, so.fz hT, .tuple [d, e], ?_, .tup upd_same (.cons ((d2.mono g.gw).mono (Gr.fz hT so).gw) (.cons ((e2.mono g.gw).mono (Gr.fz hT so).gw) .nil))⟩
    unfold zipD
    rw [List.getElem?_zipWith, d1, e1]
theorem si_zip {p tpos : Pos} {elts : List Expr} {kk : Nat} (hg : Gl X "zip") (hm : X.mg "zip" = none) (ha : SE Φ Cn X a ca) (hb : SE Φ Cn X b cb) (hs : starEach [a, b] X.env = [(false, eval a X.env), (false, eval b X.env)]) (hs2 : starEach [b] X.env = [(false, eval b X.env)]) :
    SI Φ Cn X (.Tuple elts kk tpos) (.Call (.Name "zip" p) [a, b] [] pos) (.zip ca cb) := by
  obtain ⟨ta, pa, fa⟩ := ha
  obtain ⟨tb, pb, fb⟩ := hb
  refine ⟨_, RZ.pi_zipA hg hm (pa_cons pa (pa_cons pb pa_nil hs2) (by rw [hs, hs2])) (by rw [hs, hs2]) (by rw [hs2]; rfl), fun {W S H σ Γ Hb its S' R} so en ev q => ?_⟩
  rw [evI] at ev
  obtain ⟨x, S1, e1, ev1⟩ := bindOk ev
  clear ev
  obtain ⟨y, S2, e3, ev⟩ := bindOk ev1
  clear ev1
  split at ev
  · rename_i xs ys
    cases ev
    refine fa so en e1 fun v W1 H1 g1 so1 r1 => fb so1 (en.mono g1) e3 fun v2 W2 H2 g2 so2 r2 => ?_
    cases r1 with
    | @tup l vs _ h r =>
      cases r2 with
      | @tup m us _ h' r' =>
        have hT : SqT X.K W2.Hf l vs := SqT.of (g2.gw.hf _ _ h)
        have hT' : SqT X.K W2.Hf m us := SqT.of h'
        exact ⟨l, m, vs, us, rfl, .inr ⟨sqT_mono so2.sub hT, sqT_mono so2.sub hT', q _ W2 H2 _ _ (g1.trans g2) so2 (wk_zipT hT hT' (r.mono g2.gw) r')⟩⟩
  · cases ev
def SC (Φ : Fns) (Cn : Str → Option Addr) (X : Cx) (ifs : List Expr) (c : Option CE) : Prop := match ifs, c with
  | [], none => True
  | [e], some c => ST Φ Cn X e c
  | _, _ => False
def tCd (Φ : Fns) (Cn : Str → Option Addr) (K : PySem.W.Frag) : Option CE → TT
  | none => tYes
  | some c => tTst Φ Cn K c
theorem sc_pts {ifs : List Expr} {c : Option CE} (h : SC Φ Cn X ifs c) : PTs X ifs (tCd Φ Cn X.K c) := by
  unfold SC at h
  split at h
  · exact pts_nil
  · exact pts_one h.pt
  · exact h.elim
noncomputable def lcBody (Φ : Fns) (vs : List Nat) (tg : CT) (c : Option CE) (elt : CE) (Γ : Env) (x : D) (S : Store) : R (Option D) := match asgT tg x (PL.wipe Γ vs) with
  | some Γ' => (evC Φ c Γ' S).bind fun t S2 => if t then (evE Φ elt Γ' S2).bind fun y S3 => .ok (some y) S3 else .ok none S2
  | none => .no
theorem noXok {α : Type} {r : R α} {a : α} {S : Store} (h : noX r = .ok a S) : r = .ok a S := by
  cases r with
  | ok b S1 => exact h
  | ex x S1 => cases h
  | no => cases h
theorem onOk {α : Type} {g : Option (Nat × SO)} {S S' : Store} {r : R α} {a : α} (h : onG g S r = .ok a S') : gOk g S ∧ r = .ok a S' := by
  unfold onG at h
  split at h
  · exact ⟨by assumption, h⟩
  · cases h
theorem wipe_wipe (σ : L2.St) (vs : List Nat) : L2.wipe (L2.wipe σ vs) vs = L2.wipe σ vs :=
  wipe_same (wipe_length σ vs) fun i hi => by
    induction vs with
    | nil => rfl
    | cons v vs ih =>
      unfold L2.wipe
      rw [List.mem_cons, not_or] at hi
      rw [List.getElem?_set_ne (fun e => hi.1 e.symm)]
      exact ih hi.2
theorem tCd_run {c : Option CE} {W : Wd} {S : Store} {H : Hp} {σ : L2.St} {Γ : Env} {Hb : Hp} {b : Bool} {S' : Store} {K : PySem.W.Frag} {Q : Bool → Hp → Prop} (so : StOk K Cn W S H) (en : EnvOk K Hb W Γ σ H) (ev : evC Φ c Γ S = .ok b S')
    (q : ∀ W' H', Gr W H W' H' → StOk K Cn W' S' H' → Q b H') : tCd Φ Cn K c σ H Q := by
  cases c with
  | none =>
    rw [evC] at ev
    cases ev
    exact q W H (Gr.refl W H) so
  | some c =>
    rw [evC] at ev
    obtain ⟨x, S1, e1, ev⟩ := bindOk ev
    obtain ⟨e2, rfl⟩ := truOk ev
    exact ⟨W, S, Γ, Hb, x, _, b, so, en, e1, e2, q⟩
def LcAt (Φ : Fns) (Cn : Str → Option Addr) (K : PySem.W.Frag) (vs : List Nat) (ct : CT) (c : Option CE) (ce : CE) (Γ : Env) (W1 : Wd) (H1 : Hp) (D : Addr) (g0 : Option (Nat × SO)) (xs ys : List PL.D) (S2 : Store) (i : Nat) (H' : Hp) : Prop :=
  ∃ (W2 : Wd) (Sx : Store) (acc : List V) (ds rest : List PL.D), Gr W1 H1 W2 H' ∧ StOk K Cn W2 Sx H' ∧ H' D = some (.lst acc) ∧ D ∉ W2.A ∧ W2.Hf D = none ∧ RepL K W2 acc ds ∧ lcLoop g0 (lcBody Φ vs ct c ce Γ) (xs.drop i) Sx = .ok rest S2 ∧ ys = ds ++ rest
theorem seo_lc {elt iter : Expr} {ifs : List Expr} {scope : Scope} {own : List (Str × Nat)} {ct : CT} {ci : CI} {c : Option CE} (g : GX Φ Cn k X) (hi : SI Φ Cn X tg iter ci) (ok : BlkOk X.N X.env.scope scope own) (hsl : ∀ i ∈ slT ct, i ∈ own.map (·.2))
    (hg : ∀ (s : Shared) (H : Hp) (C : Addr) (cl : List (Str × Addr)) (fp : List Addr), PG (X.blk s H scope (compEnvC scope cl C X.env) fp) tg (gC Cn X.K ct))
    (ht : ∀ (s : Shared) (H : Hp) (C : Addr) (cl : List (Str × Addr)) (fp : List Addr), SC Φ Cn (X.blk s H scope (compEnvC scope cl C X.env) fp) ifs c)
    (he : ∀ (s : Shared) (H : Hp) (C : Addr) (cl : List (Str × Addr)) (fp : List Addr), SE Φ Cn (X.blk s H scope (compEnvC scope cl C X.env) fp) elt ce)
    (hs : ∀ x, foldedSetIterable iter X.env x = pure x) :
    ∃ wi : TI, PI X tg iter wi ∧ ∀ {W : Wd} {S : Store} {H : Hp} {σ : L2.St} {Γ : Env} {Hb : Hp} {d : PL.D} {S' : Store} {Q : VK}, StOk X.K Cn W S H → EnvOk X.K Hb W Γ σ H → evE Φ (.lc (own.map (·.2)) ct ci c ce) Γ S = .ok d S' → Out X.K Cn W H S' d Q →
      tLc wi (gC Cn X.K ct) (tCd Φ Cn X.K c) (tE Φ Cn X.K ce) (own.map (·.2)) σ H Q := by
  obtain ⟨wi, pi, fi⟩ := hi
  refine ⟨wi, pi, fun {W S H σ Γ Hb d S' Q} so en ev q => ?_⟩
  rw [evE] at ev
  obtain ⟨⟨xs, g0⟩, S1, e1, ev1⟩ := bindOk ev
  clear ev
  obtain ⟨ys, S2, e2, ev⟩ := bindOk ev1
  clear ev1
  have e2' : lcLoop g0 (lcBody Φ (own.map (·.2)) ct c ce Γ) xs S1 = .ok ys S2 := e2
  clear e2
  split at ev
  · rename_i hlen
    cases ev
    refine fi so en e1 fun J W1 H1 G Y g1 so1 wk D hD => ?_
    have hDA : D ∉ W1.A := fun m => by
      obtain ⟨u, hu, _⟩ := so1.dom m
      exact some_ne hu hD
    have hDf : W1.Hf D = none := by
      cases z : W1.Hf D with
      | none => rfl
      | some u => exact (some_ne (so1.sub D u z) hD).elim
    refine lc_it wk.w (LcAt Φ Cn X.K (own.map (·.2)) ct c ce Γ W1 H1 D g0 xs ys S') ?_ ?_ ?_ ?_
    · exact ⟨W1, S1, [], [], ys, Gr.made hD, so1.made hD, upd_same, hDA, hDf, .nil, by rw [List.drop_zero]; exact e2', rfl⟩
    · rintro i H' _ ⟨W2, Sx, acc, ds, rest, gr, so2, hv, ha, hf, rr, lp, ey⟩
      refine wk.g W2 Sx H' gr.gs so2 ?_
      generalize xs.drop i = zs at lp
      cases zs with
      | nil => rw [lcLoop] at lp; exact (onOk lp).1
      | cons z zs => rw [lcLoop] at lp; exact (onOk lp).1
    · rintro i x H' H'' hin ⟨W2, Sx, acc, ds, rest, gr, so2, hv, ha, hf, rr, lp, ey⟩ hy
      have hl0 : i < xs.length := hin
      rw [List.drop_eq_getElem_cons hl0, lcLoop] at lp
      obtain ⟨c0, lp0⟩ := onOk lp
      clear lp
      obtain ⟨W3, gy, so3, d, hd, rd⟩ := wk.y i x W2 Sx H' H'' hin gr.gs so2 c0 hy
      obtain ⟨hl, hd'⟩ := List.getElem?_eq_some_iff.mp hd
      rw [hd'] at lp0
      obtain ⟨o, S3, e3, lp1⟩ := bindOk lp0
      clear lp0
      obtain ⟨zs, S4, e4, lp⟩ := bindOk lp1
      clear lp1
      have e3 := noXok e3
      unfold lcBody at e3
      split at e3
      · rename_i Γ' hΓ
        obtain ⟨t, S5, e5, e6⟩ := bindOk e3
        have en3 := (en.mono (g1.trans (gr.trans gy))).wipe (own.map (·.2))
        refine ⟨W3, Sx, _, Hb, d, Γ', so3, en3, rd, hΓ, fun σ' en' l' k' => ⟨?_, ?_⟩⟩
        · rw [wipe_same l' fun j hj => k' j fun m => hj (hsl j m)]
          exact wipe_wipe σ _
        · refine tCd_run so3 en' e5 fun W4 H4 g4 so4 => ?_
          have keep : ∀ {W5 : Wd} {H5 : Hp}, Gr W2 H' W5 H5 → H5 D = some (.lst acc) ∧ D ∉ W5.A ∧ W5.Hf D = none := fun {W5 H5} g5 => by
            refine ⟨g5.keep D _ hv ha, fun m => ?_, ?_⟩
            · rcases g5.newA D m with z | z
              · exact ha z
              · exact some_ne hv z
            · cases z : W5.Hf D with
              | none => rfl
              | some u =>
                rcases g5.new D u z with z | z
                · rw [hf] at z; cases z
                · exact (some_ne hv z).elim
          cases t with
          | true =>
            rw [if_pos rfl] at e6 ⊢
            obtain ⟨y, S6, e7, e8⟩ := bindOk e6
            cases e8
            cases lp
            refine ⟨W4, S5, Γ', Hb, y, _, so4, en'.mono g4, e7, fun v W5 H5 g5 so5 r5 => ?_⟩
            have gg : Gr W2 H' W5 H5 := (gy.trans g4).trans g5
            obtain ⟨k1, k2, k3⟩ := keep gg
            refine ⟨acc, k1, ?_, W5, _, acc ++ [v], ds ++ [y], zs, (gr.trans gg).own hD, so5.own k3 k2, upd_same, k2, k3, (rr.mono gg.gw).append (.cons r5 .nil), e4, ?_⟩
            · rw [rr.length]
              rw [ey, List.length_append, List.length_cons] at hlen
              exact line_lt (by omega)
            · rw [ey, List.append_assoc]; rfl
          | false =>
            rw [if_neg Bool.false_ne_true] at e6 ⊢
            cases e6
            cases lp
            have gg : Gr W2 H' W4 H4 := gy.trans g4
            obtain ⟨k1, k2, k3⟩ := keep gg
            exact ⟨W4, _, acc, ds, zs, gr.trans gg, so4, k1, k2, k3, rr.mono gg.gw, e4, ey⟩
      · cases e3
    · rintro H' ⟨W2, Sx, acc, ds, rest, gr, so2, hv, ha, hf, rr, lp, ey⟩
      rw [List.drop_length, lcLoop] at lp
      obtain ⟨_, lp⟩ := onOk lp
      cases lp
      rw [List.append_nil] at ey
      subst ey
      exact q D acc W2 H' (g1.trans gr) so2 (g1.dom D hD) hf ha hv rr
  · cases ev
theorem seo_lcE {elt iter : Expr} {ifs : List Expr} {scope : Scope} {own : List (Str × Nat)} {ct : CT} {ci : CI} {c : Option CE} (g : GX Φ Cn k X) (hi : SI Φ Cn X tg iter ci) (ok : BlkOk X.N X.env.scope scope own) (hsl : ∀ i ∈ slT ct, i ∈ own.map (·.2))
    (hg : ∀ (s : Shared) (H : Hp) (C : Addr) (cl : List (Str × Addr)) (fp : List Addr), PG (X.blk s H scope (compEnvC scope cl C X.env) fp) tg (gC Cn X.K ct))
    (ht : ∀ (s : Shared) (H : Hp) (C : Addr) (cl : List (Str × Addr)) (fp : List Addr), SC Φ Cn (X.blk s H scope (compEnvC scope cl C X.env) fp) ifs c)
    (he : ∀ (s : Shared) (H : Hp) (C : Addr) (cl : List (Str × Addr)) (fp : List Addr), SE Φ Cn (X.blk s H scope (compEnvC scope cl C X.env) fp) elt ce)
    (hs : ∀ x, foldedSetIterable iter X.env x = pure x) : SEO Φ Cn X (.ListComp elt [⟨tg, iter, ifs, 0⟩] scope pos) (.lc (own.map (·.2)) ct ci c ce) := by
  obtain ⟨wi, pi, f⟩ := seo_lc g hi ok hsl hg ht he hs
  exact ⟨_, pe_lc g.calm g.nd pi ok hg (fun s H C cl fp => sc_pts (ht s H C cl fp)) (fun s H C cl fp => (he s H C cl fp).pe) hs, f⟩
theorem seo_lock {i : Nat} (h : SEO Φ Cn X e ce) : SEO Φ Cn X e (.lock i ce) := by
  obtain ⟨t, p, f⟩ := h
  refine ⟨tLockE t, pe_lock p, fun {W S H σ Γ Hb d S' Q} so en ev q => ?_⟩
  rw [evE] at ev
  split at ev
  · rename_i x hx
    split at ev
    · rename_i n m hn
      obtain ⟨y, S1, e1, ev⟩ := bindOk ev
      split at ev
      · rename_i m' hm'
        cases ev
        obtain ⟨v, hv, rv⟩ := en.pure i x hx
        obtain ⟨a, e0, ha, hd⟩ := Rep.at so hn rv
        have fin : ∀ u, H a = some u → Mut (some u) → (∀ x y, u ≠ .frz x y) → ((∃ kvs, u = .dK kvs ∧ DRep X.K W kD kvs m) ∨ ∃ kvs, u = .dT kvs ∧ DRep X.K W kT kvs m) → tLockE t σ H Q := by
          intro u hu mu nf hr
          refine ⟨a, u, hu, mu, fun od => ?_⟩
          have g1 : Gr W H W (upd H a (.frz od u)) := Gr.put so ha hu nf
          have so1 := StOk.put (o := .frz od u) (so := .loc m) so ha ⟨od, u, upd_same, hr⟩
          have ne : ∀ b, upd H a (.frz od u) b = none → b ≠ a ∧ H b = none := fun b hb => by
            have hne : b ≠ a := fun e => by subst e; rw [upd_same] at hb; cases hb
            rw [upd_ne hne] at hb
            exact ⟨hne, hb⟩
          have back : ∀ W' H', Gr W (upd H a (.frz od u)) W' H' → StOk X.K Cn W' S1 H' → H' a = some (.frz od u) ∧ Gr W H W' (upd H' a u) ∧ StOk X.K Cn W' (S1.set n (.dic m')) (upd H' a u) := by
            intro W' H' g s
            have ha' := g.frz a od u upd_same
            refine ⟨ha', ⟨g.gw, fun b o h => ?_, fun b h => ?_, fun b o hb hn => ?_, fun b hb => ?_, fun b o w hb => ?_⟩, ?_⟩
            · rcases g.new b o h with z | z
              · exact .inl z
              · exact .inr (ne b z).2
            · rcases g.newA b h with z | z
              · exact .inl z
              · exact .inr (ne b z).2
            · have hne : b ≠ a := fun e => hn (by subst e; exact List.mem_of_getElem? ha)
              rw [upd_ne hne]
              exact g.keep b o (by rw [upd_ne hne]; exact hb) hn
            · have hne : b ≠ a := fun e => by subst e; rw [upd_same] at hb; cases hb
              rw [upd_ne hne] at hb
              exact (ne b (g.dom b hb)).2
            · have hne : b ≠ a := fun e => by subst e; rw [hu] at hb; exact nf o w (Option.some.inj hb)
              rw [upd_ne hne]
              exact g.frz b o w (by rw [upd_ne hne]; exact hb)
            · obtain ⟨od', u', h1, h2⟩ := s.obj n a _ (g.gw.a n a ha) hm'
              rw [ha'] at h1
              cases h1
              refine StOk.put (so := .dic m') s (g.gw.a n a ha) ?_
              rcases h2 with ⟨kvs, rfl, h2⟩ | ⟨kvs, rfl, h2⟩
              · exact .inl ⟨kvs, upd_same, h2⟩
              · exact .inr ⟨kvs, upd_same, h2⟩
          refine f so1 (en.mono g1) e1 ?_
          unfold Out at q ⊢
          split at q
          · intro l vs W' H' g s hl hf hA hv r
            obtain ⟨b1, b2, b3⟩ := back W' H' g s
            obtain ⟨n1, n2⟩ := ne l hl
            exact ⟨b1, q l vs W' _ b2 b3 n2 hf hA (by rw [upd_ne n1]; exact hv) r⟩
          · intro v W' H' g s r
            obtain ⟨b1, b2, b3⟩ := back W' H' g s
            exact ⟨b1, q v W' _ b2 b3 r⟩
        rcases hd with ⟨kvs, h1, h2⟩ | ⟨kvs, h1, h2⟩
        · exact fin _ h1 trivial (fun _ _ z => nomatch z) (.inl ⟨kvs, rfl, h2⟩)
        · exact fin _ h1 trivial (fun _ _ z => nomatch z) (.inr ⟨kvs, rfl, h2⟩)
      · cases ev
    · cases ev
  · cases ev
end
end PL
set_option autoImplicit false
set_option linter.all false
set_option maxRecDepth 100000
set_option Elab.async false
namespace PL
open PySem PySem.Spec PyProof.Rows L2
def notStar : Expr → Bool
  | .Starred _ _ => false
  | _ => true
theorem star_cons {e : Expr} (h : notStar e = true) (es : List Expr) (env : PySem.Env) : starEach (e :: es) env = (false, eval e env) :: starEach es env := by
  cases e <;> first | rfl | cases h
theorem star_all : ∀ {es : List Expr}, es.all notStar = true → ∀ (pos : Pos) (env : PySem.Env), (backTo pos (starEach es env)).any (·.1) = false ∧ (backTo pos (starEach es env)).all (fun x => !x.1) = true
  | [], _, _, _ => ⟨rfl, rfl⟩
  | e :: es, h, pos, env => by
    rw [List.all_cons, Bool.and_eq_true] at h
    rw [star_cons h.1]
    obtain ⟨h1, h2⟩ := star_all h.2 pos env
    exact ⟨by show (false || (backTo pos (starEach es env)).any (·.1)) = false; rw [h1]; rfl, by show ((!false) && (backTo pos (starEach es env)).all (fun x => !x.1)) = true; rw [h2]; rfl⟩
def plainBase : Expr → Bool
  | .Call (.Name _ _) [] [] _ => false
  | _ => true
theorem base_ok {o : Expr} (h : plainBase o = true) (a : Str) (env : PySem.Env) (w : Sem Value) : attributeBase o a env w = w := by
  unfold attributeBase
  split
  · cases h
  · rfl
section
variable {Φ : Fns} {Cn : Str → Option Addr} {X : Cx} {k : Nat} {e a b c : Expr} {ce ca cb cc : CE} {pos p : Pos} {es : List Expr} {cs : List CE} {x f m : Str}
def bn1 : B1 → Str
  | .len => "len"
  | .abs => "abs"
  | .int => "int"
  | .str => "str"
  | .sum => "sum"
  | .max => "max"
  | .min => "min"
  | .sorted => "sorted"
  | .tuple => "tuple"
  | .list => "list"
  | .all => "all"
  | .any => "any"
  | .repr => "repr"
  | .sset => "sorted"
  | .lset => "len"
def simple1 : B1 → Bool
  | .sset => false
  | .lset => false
  | _ => true
theorem c1_ok (g : GX Φ Cn k X) {b : B1} (h : simple1 b = true) : CallR X (bv b) (r1 X.K Cn b) := by
  have hu := g.un
  cases b with
  | len => exact c_len
  | abs => exact c_abs
  | int => exact c_int
  | str => exact c_str
  | sum => exact c_sum g.calm
  | max => exact c_max g.calm (by omega)
  | min => exact c_min g.calm (by omega)
  | sorted => exact c_sorted g.calm hu
  | tuple => exact c_tuple
  | list => exact c_list
  | all => exact c_all g.calm
  | any => exact c_any g.calm
  | repr => exact c_repr g.gu hu
  | sset => cases h
  | lset => cases h
theorem pe_callV {u : Value} {r : List V → Hp → VK → Prop} {t : TA} (hu : (∃ id, u = .builtin id) ∨ ∃ T, u = .type T) (hc : CallR X u r) (hg : Gl X x) (hm : X.mg x = none) (hv : bootBuiltins x = some u) (ha : PA X (e :: es) t) (hn : x ≠ "__name__") (hdb : (x == ("__debug__" : Str)) = false)
    (he : starEach (e :: es) X.env = (false, eval e X.env) :: starEach es X.env) (hpl : (backTo pos (starEach es X.env)).any (·.1) = false) : PE X (.Call (.Name x p) (e :: es) [] pos) (tCB r t) := by
  rcases hu with ⟨id, rfl⟩ | ⟨T, rfl⟩
  · exact pe_callB hc hg hm hv ha hn hdb he hpl
  · exact pe_callTy hc hg hm hv ha hn hdb he hpl
theorem seo_c1 (g : GX Φ Cn k X) {b : B1} (h : simple1 b = true) (hg : Gl X (bn1 b)) (ha : SEB Φ Cn X a ca) (hs : notStar a = true) : SEO Φ Cn X (.Call (.Name (bn1 b) p) [a] [] pos) (.c1 b ca) := by
  obtain ⟨ta, pa, fa⟩ := ha
  have hs' := star_cons hs [] X.env
  refine ⟨_, pe_callV (u := bv b) (by cases b <;> first | exact .inl ⟨_, rfl⟩ | exact .inr ⟨_, rfl⟩) (c1_ok (Cn := Cn) g h) hg (g.blt _ (by cases b <;> decide)) (by cases b <;> decide +kernel) (pa_cons pa pa_nil hs') (by cases b <;> decide) (by cases b <;> decide) hs' rfl, fun {W S H σ Γ Hb d S' Q} so en ev q => ?_⟩
  rw [evE] at ev
  obtain ⟨x, S1, e1, ev⟩ := bindOk ev
  obtain ⟨e2, rfl⟩ := ofOk ev
  exact fa so en e1 fun v W1 H1 g1 so1 b1 => ⟨W1, _, v, x, d, rfl, so1, b1, e2, q.shift g1⟩
def bn2 : B2 → Str
  | .max => "max"
  | .min => "min"
theorem seo_c2 (g : GX Φ Cn k X) {o : B2} (hg : Gl X (bn2 o)) (ha : SEB Φ Cn X a ca) (hb : SEB Φ Cn X b cb) (hs : notStar a = true) (hs2 : notStar b = true) : SEO Φ Cn X (.Call (.Name (bn2 o) p) [a, b] [] pos) (.c2 o ca cb) := by
  obtain ⟨ta, pa, fa⟩ := ha
  obtain ⟨tb, pb, fb⟩ := hb
  have h1 := star_cons hs [b] X.env
  have h2 := star_cons hs2 [] X.env
  refine ⟨_, pe_callV (u := bv2 o) (by cases o <;> exact .inl ⟨_, rfl⟩) (c2_ok (Cn := Cn) g.calm o) hg (g.blt _ (by cases o <;> decide)) (by cases o <;> decide +kernel) (pa_cons pa (pa_cons pb pa_nil h2) h1) (by cases o <;> decide) (by cases o <;> decide) h1 (by rw [h2]; rfl), fun {W S H σ Γ Hb d S' Q} so en ev q => ?_⟩
  rw [evE] at ev
  obtain ⟨x, S1, e1, ev⟩ := bindOk ev
  obtain ⟨y, S2, e2, ev⟩ := bindOk ev
  obtain ⟨e3, rfl⟩ := ofOk ev
  exact fa so en e1 fun v W1 H1 g1 so1 b1 => fb so1 (en.mono g1) e2 fun v2 W2 H2 g2 so2 b2 => ⟨W2, _, v, v2, x, y, d, rfl, so2, b1.mono g2, b2, e3, q.shift (g1.trans g2)⟩
def tyNames : List String := ["int", "bool", "str", "tuple", "list", "dict"]
theorem seo_isi (g : GX Φ Cn k X) {ty : String} {p2 : Pos} (hg : Gl X "isinstance") (hg2 : Gl X (Str.ofString ty)) (hty : ty ∈ tyNames) (ha : SEB Φ Cn X a ca) (hs : notStar a = true) : SEO Φ Cn X (.Call (.Name "isinstance" p) [a, .Name (Str.ofString ty) p2] [] pos) (.isi ca ty) := by
  obtain ⟨ta, pa, fa⟩ := ha
  have h1 := star_cons hs [.Name (Str.ofString ty) p2] X.env
  have hm : X.mg (Str.ofString ty) = none := g.blt _ (by
    simp only [tyNames, List.mem_cons, List.not_mem_nil, or_false] at hty
    rcases hty with h | h | h | h | h | h <;> subst h <;> decide)
  have hv : bootBuiltins (Str.ofString ty) = some (.type ty) := by
    simp only [tyNames, List.mem_cons, List.not_mem_nil, or_false] at hty
    rcases hty with h | h | h | h | h | h <;> subst h <;> decide +kernel
  have hn : Str.ofString ty ≠ "__name__" := by
    simp only [tyNames, List.mem_cons, List.not_mem_nil, or_false] at hty
    rcases hty with h | h | h | h | h | h <;> subst h <;> decide
  have hd : (Str.ofString ty == ("__debug__" : Str)) = false := by
    simp only [tyNames, List.mem_cons, List.not_mem_nil, or_false] at hty
    rcases hty with h | h | h | h | h | h <;> subst h <;> decide
  have pt : PE X (.Name (Str.ofString ty) p2) (tC (.ty ty)) := pe_bltn hg2 hm hv rfl hn hd
  refine ⟨_, pe_callB (isi_ok (Cn := Cn)) hg (g.blt _ (by decide)) (by decide +kernel) (pa_cons pa (pa_cons pt pa_nil rfl) h1) (by decide) (by decide) h1 rfl, fun {W S H σ Γ Hb d S' Q} so en ev q => ?_⟩
  rw [evE] at ev
  obtain ⟨x, S1, e1, ev⟩ := bindOk ev
  obtain ⟨e2, rfl⟩ := ofOk ev
  rw [Option.map_eq_some_iff] at e2
  obtain ⟨r, e2, rfl⟩ := e2
  exact fa so en e1 fun v W1 H1 g1 so1 b1 => ⟨W1, _, v, x, ty, r, rfl, so1, b1, e2, (q.shift g1).flat so1 (.bl _) (by intro _ h; cases h)⟩
theorem at_run {pins : List (Addr × Obj)} {σ : L2.St} {H : Hp} {s : Shared} {Q : VK} {us : List Value} {vs : List V} {ad : Addr} {F : FnS} (hA : At X.prog X.w X.K X.mg X.base Cn k ad F) (g : X.A.guards = some []) (rm : Room k X.A) (I : Inv X pins σ H s) (r : Vals vs us)
    (h : spOf X.K Cn F vs H Q NoE) : wpAny (model X.prog X.w) X.A (call (.ref ad) us) (EP X pins σ Q) X.xe s := by
  obtain ⟨fd, ps, G, hb⟩ := hA.ex
  have hl : (us ++ []).length = ps.length := by rw [List.append_nil, ← r.length]; exact G.len _ _ _ _ h
  have hbd := hb s us I.kIn hl
  rw [List.append_nil] at hbd
  refine wpAny_call (codeAny_mono (G.run X.A X.stack s H ⟨us, []⟩ us vs Q NoE g rm I.env0 hbd r h) fun res s' hq => ?_)
  match res, hq with
  | .error e, hq => exact passes_no pins σ H s e s' I hq
  | .ok (.ret u), hq => exact I.after hq
  | .ok .next, hq => exact hq.elim
  | .ok .brk, hq => exact hq.elim
  | .ok .cont, hq => exact hq.elim
theorem se_call (g : GX Φ Cn k X) {F : FnS} (hF : Φ.fn f = some F) (hg : Gl X f) (ha : SA Φ Cn X (e :: es) cs) (hs : (e :: es).all notStar = true) (hdb : (f == ("__debug__" : Str)) = false) : SE Φ Cn X (.Call (.Name f p) (e :: es) [] pos) (.call f cs) := by
  obtain ⟨ta, pa, fa⟩ := ha
  obtain ⟨ad, hm, hk, hA⟩ := g.fn f F hF
  refine ⟨fun σ H Q => ta σ H fun vs H1 => spOf X.K Cn F vs H1 Q NoE, ⟨fun pins s σ H Q I h => ?_⟩, fun {W S H σ Γ Hb d S' Q} so en ev q => ?_⟩
  · refine wpAny_Call_Name_kw (ld_glob I hg hm ?_ hdb)
    rw [List.all_cons, Bool.and_eq_true] at hs
    exact PySem.W.callWith_K (h₀ := X.base) I.ok.mod.kin hk (thn (pa.run pos pins s σ H _ I h) fun us s1 ⟨vs, H1, I1, r, q⟩ => ⟨I1.kIn, at_run hA g.gu (g.room.mono (Nat.le_succ k)) I1 r q⟩) (star_cons hs.1 es X.env) (star_all hs.2 pos X.env).1
  · rw [evE] at ev
    split at ev
    · rename_i F' hF'
      rw [hF] at hF'
      cases hF'
      obtain ⟨xs, S1, e1, ev⟩ := bindOk ev
      exact fa so en e1 fun vs W1 H1 g1 so1 r1 => sp_ok so1 r1 ev (q.shift g1)
    · cases ev
theorem se_call0 (g : GX Φ Cn k X) {F : FnS} (hF : Φ.fn f = some F) (hg : Gl X f) (hdb : (f == ("__debug__" : Str)) = false) : SE Φ Cn X (.Call (.Name f p) [] [] pos) (.call f []) := by
  obtain ⟨ad, hm, hk, hA⟩ := g.fn f F hF
  refine ⟨fun σ H Q => spOf X.K Cn F [] H Q NoE, ⟨fun pins s σ H Q I h => ?_⟩, fun {W S H σ Γ Hb d S' Q} so en ev q => ?_⟩
  · refine wpAny_Call_Name_kw (ld_glob I hg hm ?_ hdb)
    exact PySem.W.callWith_K0 I.kIn hk (at_run hA g.gu (g.room.mono (Nat.le_succ k)) I .nil h)
  · rw [evE] at ev
    split at ev
    · rename_i F' hF'
      rw [hF] at hF'
      cases hF'
      rw [evEs] at ev
      exact sp_ok so .nil ev q
    · cases ev
theorem meth_text {o : Expr} {apos : Pos} (hb : plainBase o = true) (hs : es.all notStar = true) (hl : es.length < 30) (hline : (apos.endLine == pos.line) = true) : ∃ pl : Sem Bool, eval (.Call (.Attribute o m apos) es [] pos) X.env = (do
      let ov ← eval o X.env
      standAt apos.atName
      let (f, first) ← holding [ov] (getMethod ov m pl)
      callWith pos f first (backTo pos (starEach es X.env)) (backToKw pos (keywordEach [] X.env))) := by
  have hform : methodCallForm (es.length + ([] : List Keyword).length) (backTo pos (starEach es X.env)) (backToKw pos (keywordEach [] X.env)) = true := by
    unfold methodCallForm
    rw [(star_all hs pos X.env).2]
    show decide (es.length + 0 + 0 < 30) = true
    exact decide_eq_true (by omega)
  have hpos : methodCallPos true o X.env apos pos = pure pos := by
    unfold methodCallPos
    rw [hline]; rfl
  refine ⟨(do return (← importBound o X.env).getD true), ?_⟩
  rw [arm_eval_Call, base_ok hb]
  unfold methodCall
  rw [hform, hpos]
  simp only [calleeOf, pure_bind, if_true]
theorem se_mcall (g : GX Φ Cn k X) {F : FnS} {cl : Str} {apos : Pos} (hF : Φ.mt cl m = some F) (ho : SE Φ Cn X a ca) (ha : SA Φ Cn X (e :: es) cs) (hb : plainBase a = true) (hs : (e :: es).all notStar = true) (hl : (e :: es).length < 30) (hline : (apos.endLine == pos.line) = true) :
    SE Φ Cn X (.Call (.Attribute a m apos) (e :: es) [] pos) (.mcall cl ca m cs) := by
  obtain ⟨to, po, fo⟩ := ho
  obtain ⟨ta, pa, fa⟩ := ha
  obtain ⟨C, ad, hC, cC, hm, hA⟩ := g.mt cl m F hF
  obtain ⟨pl, ht⟩ := meth_text (X := X) (m := m) (pos := pos) (apos := apos) hb hs hl hline
  refine ⟨fun σ H Q => to σ H fun x H1 => ∃ (b : Addr) (dx : Addr) (fs : List (Str × V)), x = .ref b ∧ H1 b = some (.ins C dx fs) ∧ fs.lookup m = none ∧ ta σ H1 fun vs H2 => spOf X.K Cn F (x :: vs) H2 Q NoE, ⟨fun pins s σ H Q I h => ?_⟩, fun {W S H σ Γ Hb d S' Q} so en ev q => ?_⟩
  · refine PySem.W.methodCall_KW (pl := pl) (thn (po.run pins s σ H _ I h) fun u s1 ⟨x, H1, I1, rx, b, dx, fs, ex, ea, l, q⟩ => ?_) ht
    subst ex
    cases rx
    rw [List.all_cons, Bool.and_eq_true] at hs
    refine getmeth_ok I1 ea cC hm l ?_
    refine PySem.W.callWith_K (first := [.ref b]) (h₀ := X.base) I.ok.mod.kin hm.kp (thn (pa.run pos pins s1 σ H1 _ I1 q) fun us s2 ⟨vs, H2, I2, r, q2⟩ => ⟨I2.kIn, ?_⟩) (star_cons hs.1 es X.env) (star_all hs.2 pos X.env).1
    exact at_run (us := .ref b :: us) (vs := .ref b :: vs) hA g.gu (g.room.mono (Nat.le_succ k)) I2 (.cons rfl r) q2
  · rw [evE, hF] at ev
    obtain ⟨x, S1, e1, ev1⟩ := bindOk ev
    clear ev
    split at ev1
    · rename_i n c' fs hn
      split at ev1
      · rename_i hc
        obtain ⟨hc, hl0⟩ := hc
        subst hc
        obtain ⟨xs, S2, e2, ev⟩ := bindOk ev1
        refine fo so en e1 fun v W1 H1 g1 so1 r1 => ?_
        obtain ⟨b, rfl, hb1, C', dx, fs', hC', hi, rf⟩ := Rep.at so1 hn r1
        rw [hC] at hC'
        cases hC'
        have hlk := rf.look m
        rw [hl0] at hlk
        refine ⟨b, dx, fs', rfl, hi, hlk, ?_⟩
        exact fa so1 (en.mono g1) e2 fun vs W2 H2 g2 so2 r2 => sp_ok so2 (.cons (r1.mono g2.gw) r2) ev (q.shift (g1.trans g2))
      · cases ev1
    · cases ev1
theorem se_mcall0 (g : GX Φ Cn k X) {F : FnS} {cl : Str} {apos : Pos} (hF : Φ.mt cl m = some F) (ho : SE Φ Cn X a ca) (hb : plainBase a = true) (hline : (apos.endLine == pos.line) = true) :
    SE Φ Cn X (.Call (.Attribute a m apos) [] [] pos) (.mcall cl ca m []) := by
  obtain ⟨to, po, fo⟩ := ho
  obtain ⟨C, ad, hC, cC, hm, hA⟩ := g.mt cl m F hF
  obtain ⟨pl, ht⟩ := meth_text (X := X) (m := m) (pos := pos) (apos := apos) (es := []) hb rfl (by decide) hline
  refine ⟨fun σ H Q => to σ H fun x H1 => ∃ (b : Addr) (dx : Addr) (fs : List (Str × V)), x = .ref b ∧ H1 b = some (.ins C dx fs) ∧ fs.lookup m = none ∧ spOf X.K Cn F [x] H1 Q NoE, ⟨fun pins s σ H Q I h => ?_⟩, fun {W S H σ Γ Hb d S' Q} so en ev q => ?_⟩
  · refine PySem.W.methodCall_KW (pl := pl) (thn (po.run pins s σ H _ I h) fun u s1 ⟨x, H1, I1, rx, b, dx, fs, ex, ea, l, q⟩ => ?_) ht
    subst ex
    cases rx
    refine getmeth_ok I1 ea cC hm l ?_
    exact PySem.W.callWith_K0 (first := [.ref b]) I1.kIn hm.kp (at_run (us := [.ref b]) (vs := [.ref b]) hA g.gu (g.room.mono (Nat.le_succ k)) I1 (.cons rfl .nil) q)
  · rw [evE, hF] at ev
    obtain ⟨x, S1, e1, ev1⟩ := bindOk ev
    clear ev
    split at ev1
    · rename_i n c' fs hn
      split at ev1
      · rename_i hc
        obtain ⟨hc, hl0⟩ := hc
        subst hc
        rw [evEs] at ev1
        refine fo so en e1 fun v W1 H1 g1 so1 r1 => ?_
        obtain ⟨b, rfl, hb1, C', dx, fs', hC', hi, rf⟩ := Rep.at so1 hn r1
        rw [hC] at hC'
        cases hC'
        have hlk := rf.look m
        rw [hl0] at hlk
        exact ⟨b, dx, fs', rfl, hi, hlk, sp_ok so1 (.cons r1 .nil) ev1 (q.shift g1)⟩
      · cases ev1
    · cases ev1
theorem se_attr (g : GX Φ Cn k X) (ho : SE Φ Cn X a ca) (hb : plainBase a = true) : SE Φ Cn X (.Attribute a f pos) (.attr ca f) := by
  obtain ⟨to, po, fo⟩ := ho
  refine ⟨_, pe_fld po (base_ok hb f X.env _), fun {W S H σ Γ Hb d S' Q} so en ev q => ?_⟩
  rw [evE] at ev
  obtain ⟨x, S1, e1, ev⟩ := bindOk ev
  split at ev
  · rename_i n c' fs hn
    split at ev
    · rename_i hfl
      obtain ⟨e2, rfl⟩ := ofOk ev
      refine fo so en e1 fun v W1 H1 g1 so1 r1 => ?_
      obtain ⟨b, rfl, hb1, C, dx, fs', hC, hi, rf⟩ := Rep.at so1 hn r1
      obtain ⟨C', hC', cC, na⟩ := g.fl c' f hfl
      rw [hC] at hC'
      cases hC'
      have hlk := rf.look f
      rw [e2] at hlk
      obtain ⟨w, h1, h2⟩ := hlk
      exact ⟨b, C, dx, fs', w, rfl, hi, cC, na, h1, q w W1 H1 g1 so1 h2⟩
    · cases ev
  · cases ev
theorem under_guards {A : Around} {C : Addr} {us : List Value} (h : A.guards = some []) : (A.under (.builtin "type.__call__" ⟨.ref C :: us, []⟩)).guards = some [] := by
  show pushGuards (Code.guards (.builtin "type.__call__" ⟨.ref C :: us, []⟩)) A.guards = some []
  have e : Code.guards (.builtin "type.__call__" ⟨.ref C :: us, []⟩) = [] := by
    have : Code.isGuard (.builtin "type.__call__" ⟨.ref C :: us, []⟩) = false := by
      show guardIds.contains "type.__call__" = false
      decide
    unfold Code.guards
    rw [this]; rfl
  rw [e]
  exact h
theorem new_run {pins : List (Addr × Obj)} {σ : L2.St} {H : Hp} {s : Shared} {Q : VK} {us : List Value} {vs : List V} {C ad : Addr} {F : FnS} (mk : Mk X.K C ad) (hA : At X.prog X.w X.K X.mg X.base Cn k ad F) (gu : X.A.guards = some []) (rm : Room (k + 1) X.A) (I : Inv X pins σ H s) (r : Vals vs us)
    (h : ∀ x dx, H x = none → H dx = none → dx ≠ x → spOf X.K Cn F (.ref x :: vs) (upd (upd H dx (.own x)) x (.ins C dx [])) (fun v H2 => v = .non ∧ Q (.ref x) H2) NoE) :
    wpAny (model X.prog X.w) X.A (call (.ref C) us) (EP X pins σ Q) X.xe s := by
  obtain ⟨fd, ps, G, hb⟩ := hA.ex
  have q1 := h (s.heap.objs.size + 1) s.heap.objs.size (I.hok.fresh (Nat.le_succ _)) (I.hok.fresh (Nat.le_refl _)) (Nat.ne_of_lt (Nat.lt_succ_self _))
  have I2 := Inv.made (C := C) I
  have r2 : Vals (V.ref (s.heap.objs.size + 1) :: vs) (Value.ref (s.heap.objs.size + 1) :: us) := .cons rfl r
  have hl : (Value.ref (s.heap.objs.size + 1) :: us).length = ps.length := by rw [← r2.length]; exact G.len _ _ _ _ q1
  have hbd := hb { s with heap := (s.heap.push PySem.W.emptyDict).push (PySem.W.instObj C s.heap.objs.size) } (Value.ref (s.heap.objs.size + 1) :: us) I2.kIn (by rw [List.append_nil]; exact hl)
  rw [List.append_nil] at hbd
  refine wpAny_call (make_map (f := ad) I.kIn mk.makes mk.init (beq_iff_eq.mp mk.fn) (codeAny_mono (G.run _ X.stack _ _ ⟨Value.ref (s.heap.objs.size + 1) :: us, []⟩ _ _ _ NoE (under_guards gu) (rm.make C us []) (I2.env0.make C us []) hbd r2 q1) fun res s' hq => ?_))
  match res, hq with
  | .error e, hq => exact passes_no pins σ _ _ e s' I2 hq
  | .ok (.ret u), hq =>
    obtain ⟨v, H', I3, rv, ev, q3⟩ := I2.after hq
    subst ev
    exact ⟨rv, ⟨V.ref (s.heap.objs.size + 1), H', I3, rfl, q3⟩⟩
  | .ok .next, hq => exact hq.elim
  | .ok .brk, hq => exact hq.elim
  | .ok .cont, hq => exact hq.elim
theorem new_fin {W W1 : Wd} {S1 S' : Store} {H H1 : Hp} {Q : VK} {C : Addr} {F : FnS} {cl : Str} {vs : List V} {xs : List D} (g1 : Gr W H W1 H1) (so1 : StOk X.K Cn W1 S1 H1) (r1 : RepL X.K W1 vs xs) (hC : Cn cl = some C) (ev : F (ref S1.length :: xs) (S1 ++ [.ins cl []]) = .ok .none S')
    (q : Res X.K Cn W H S' (ref S1.length) Q) (x dx : Addr) (h1 : H1 x = none) (h2 : H1 dx = none) (hne : dx ≠ x) : spOf X.K Cn F (.ref x :: vs) (upd (upd H1 dx (.own x)) x (.ins C dx [])) (fun v H2 => v = .non ∧ Q (.ref x) H2) NoE := by
  have so2 := so1.made (o := .own x) h2
  have hx : upd H1 dx (.own x) x = none := by rw [upd_ne (Ne.symm hne)]; exact h1
  have ga : Gr W1 H1 (W1.al x) (upd (upd H1 dx (.own x)) x (.ins C dx [])) := (Gr.made h2).trans (Gr.al hx)
  refine sp_ok (so2.al (so := .ins cl []) hx ⟨C, dx, [], hC, upd_same, .nil⟩) (.cons (al_ref so1) (r1.mono (Gw.al W1 x))) ev fun v W' H' g2 so3 rv => ?_
  cases rv
  exact ⟨rfl, q (.ref x) W' H' ((g1.trans ga).trans g2) so3 ((al_ref so1).mono g2.gw)⟩
theorem se_new (g : GX Φ Cn k X) {F : FnS} {cl : Str} (hF : Φ.nw cl = some F) (hg : Gl X cl) (ha : SA Φ Cn X (e :: es) cs) (hs : (e :: es).all notStar = true) (hdb : (cl == ("__debug__" : Str)) = false) : SE Φ Cn X (.Call (.Name cl p) (e :: es) [] pos) (.new cl cs) := by
  obtain ⟨ta, pa, fa⟩ := ha
  obtain ⟨C, ad, hC, hm, mk, hA⟩ := g.nw cl F hF
  refine ⟨fun σ H Q => ta σ H fun vs H1 => ∀ x dx, H1 x = none → H1 dx = none → dx ≠ x → spOf X.K Cn F (.ref x :: vs) (upd (upd H1 dx (.own x)) x (.ins C dx [])) (fun v H2 => v = .non ∧ Q (.ref x) H2) NoE, ⟨fun pins s σ H Q I h => ?_⟩, fun {W S H σ Γ Hb d S' Q} so en ev q => ?_⟩
  · refine wpAny_Call_Name_kw (ld_glob I hg hm ?_ hdb)
    rw [List.all_cons, Bool.and_eq_true] at hs
    exact PySem.W.callWith_K (h₀ := X.base) I.ok.mod.kin mk.kp (thn (pa.run pos pins s σ H _ I h) fun us s1 ⟨vs, H1, I1, r, q⟩ => ⟨I1.kIn, new_run mk hA g.gu g.room I1 r q⟩) (star_cons hs.1 es X.env) (star_all hs.2 pos X.env).1
  · rw [evE, hF] at ev
    obtain ⟨xs, S1, e1, ev1⟩ := bindOk ev
    clear ev
    obtain ⟨z, S2, e2, ev⟩ := bindOk ev1
    clear ev1
    split at ev
    · cases ev
      exact fa so en e1 fun vs W1 H1 g1 so1 r1 => new_fin g1 so1 r1 hC e2 q
    · cases ev
theorem se_new0 (g : GX Φ Cn k X) {F : FnS} {cl : Str} (hF : Φ.nw cl = some F) (hg : Gl X cl) (hdb : (cl == ("__debug__" : Str)) = false) : SE Φ Cn X (.Call (.Name cl p) [] [] pos) (.new cl []) := by
  obtain ⟨C, ad, hC, hm, mk, hA⟩ := g.nw cl F hF
  refine ⟨fun σ H Q => ∀ x dx, H x = none → H dx = none → dx ≠ x → spOf X.K Cn F [.ref x] (upd (upd H dx (.own x)) x (.ins C dx [])) (fun v H2 => v = .non ∧ Q (.ref x) H2) NoE, ⟨fun pins s σ H Q I h => ?_⟩, fun {W S H σ Γ Hb d S' Q} so en ev q => ?_⟩
  · refine wpAny_Call_Name_kw (ld_glob I hg hm ?_ hdb)
    exact PySem.W.callWith_K0 I.kIn mk.kp (new_run mk hA g.gu g.room I .nil h)
  · rw [evE, hF, evEs] at ev
    obtain ⟨xs, S1, e1, ev1⟩ := bindOk ev
    clear ev
    cases e1
    obtain ⟨z, S2, e2, ev⟩ := bindOk ev1
    clear ev1
    split at ev
    · cases ev
      exact new_fin (Gr.refl W H) so .nil hC e2 q
    · cases ev
theorem se_box (ha : SEO Φ Cn X a ca) : SE Φ Cn X a (.box ca) := by
  obtain ⟨ta, pa, fa⟩ := ha
  refine ⟨ta, pa, fun {W S H σ Γ Hb d S' Q} so en ev q => ?_⟩
  rw [evE] at ev
  obtain ⟨x, S1, e1, ev1⟩ := bindOk ev
  clear ev
  split at ev1
  · rename_i xs
    cases ev1
    refine fa so en e1 fun l vs W' H' g1 so1 hl hf hA hv r => ?_
    exact q (.ref l) (W'.al l) H' (g1.adopt hl) (so1.adopt hA hf ⟨vs, hv, r.mono (Gw.al W' l)⟩) (al_ref so1)
  · cases ev1
theorem se_dict0 : SE Φ Cn X (.Dict [] [] pos) (.dict []) := by
  refine ⟨_, pe_dnewK, fun {W S H σ Γ Hb d S' Q} so en ev q p hp => ?_⟩
  rw [evE, evEs] at ev
  cases ev
  exact q (.ref p) (W.al p) _ (Gr.al hp) (so.al hp (.inl ⟨[], upd_same, .nil⟩)) (al_ref so)
def flatP (ps : List (V × V)) : List V := ps.flatMap fun p => [p.1, p.2]
def SPs (Φ : Fns) (Cn : Str → Option Addr) (X : Cx) (pos : Pos) (keys : List (Option Expr)) (values : List Expr) (cs : List CE) : Prop :=
  ∃ trs, PPs X pos keys values trs ∧ ∀ {W : Wd} {S : Store} {H : Hp} {σ : L2.St} {Γ : Env} {Hb : Hp} {ds : List D} {S' : Store} {Q : List (V × V) → Hp → Prop}, StOk X.K Cn W S H → EnvOk X.K Hb W Γ σ H → evEs Φ cs Γ S = .ok ds S' →
    (∀ ps W' H', Gr W H W' H' → StOk X.K Cn W' S' H' → RepL X.K W' (flatP ps) ds → Q ps H') → tPairs trs σ H Q
theorem sps_nil : SPs Φ Cn X pos [] [] [] := ⟨[], pps_nil, fun {W S H σ Γ Hb ds S' Q} so en ev q => by
  rw [evEs] at ev
  cases ev
  exact q [] W H (Gr.refl W H) so .nil⟩
theorem sps_cons {ks : List (Option Expr)} (ha : SE Φ Cn X a ca) (hb : SE Φ Cn X b cb) (hr : SPs Φ Cn X pos ks es cs) : SPs Φ Cn X pos (some a :: ks) (b :: es) (ca :: cb :: cs) := by
  obtain ⟨ta, pa, fa⟩ := ha
  obtain ⟨tb, pb, fb⟩ := hb
  obtain ⟨trs, pr, fr⟩ := hr
  refine ⟨_, pps_cons pa pb pr, fun {W S H σ Γ Hb ds S' Q} so en ev q => ?_⟩
  rw [evEs] at ev
  obtain ⟨x, S1, e1, ev1⟩ := bindOk ev
  clear ev
  obtain ⟨xs, S2, e2, ev⟩ := bindOk ev1
  clear ev1
  cases ev
  rw [evEs] at e2
  obtain ⟨y, S3, e3, ev1⟩ := bindOk e2
  clear e2
  obtain ⟨ys, S4, e4, ev⟩ := bindOk ev1
  clear ev1
  cases ev
  exact fa so en e1 fun v1 W1 H1 g1 so1 r1 => fb so1 (en.mono g1) e3 fun v2 W2 H2 g2 so2 r2 => fr so2 (en.mono (g1.trans g2)) e4 fun ps W3 H3 g3 so3 r3 =>
    q ((v1, v2) :: ps) W3 H3 ((g1.trans g2).trans g3) so3 (.cons (r1.mono (g2.trans g3).gw) (.cons (r2.mono g3.gw) r3))
theorem pairs_of {K : PySem.W.Frag} {W : Wd} : ∀ {ps : List (V × V)} {ds : List D} {qs : List (D × D)}, RepL K W (flatP ps) ds → twos ds = some qs → (qs.all fun p => flatKey p.1) = true →
    ∃ kvs : List (Key × V), ps = kvs.map (fun kv => (kV kv.1, kv.2)) ∧ kvs.length = qs.length ∧ ∀ (m : List (Key × V)) (r : List (D × D)), DRep K W kD m r → DRep K W kD (mergeK m kvs) (mergeD r qs)
  | [], _, qs, r, e, _ => by
    cases r
    rw [twos] at e
    cases e
    exact ⟨[], rfl, rfl, fun m r h => h⟩
  | (v1, v2) :: ps, _, qs, r, e, h => by
    have r' : RepL K W (v1 :: v2 :: flatP ps) _ := r
    cases r' with
    | cons r1 rr =>
      cases rr with
      | cons r2 rr =>
        rw [twos, Option.map_eq_some_iff] at e
        obtain ⟨qs', e1, rfl⟩ := e
        rw [List.all_cons, Bool.and_eq_true] at h
        obtain ⟨k, rfl, rfl⟩ := flat_key h.1 r1
        obtain ⟨kvs, e2, e3, e4⟩ := pairs_of rr e1 h.2
        refine ⟨(k, v2) :: kvs, by rw [e2]; rfl, by rw [List.length_cons, List.length_cons, e3], fun m r hm => ?_⟩
        exact e4 _ _ (hm.put kD_eqv k r2)
theorem se_dict {keys : List (Option Expr)} {values : List Expr} (h : SPs Φ Cn X pos keys values cs) (hall : keys.all (·.isSome) = true) (hl : keys.length = values.length) (h0 : keys ≠ []) (h15 : keys.length ≤ 15) : SE Φ Cn X (.Dict keys values pos) (.dict cs) := by
  obtain ⟨trs, pr, fr⟩ := h
  refine ⟨_, pe_disp pr hall hl h0 h15, fun {W S H σ Γ Hb d S' Q} so en ev q p hp => ?_⟩
  rw [evE] at ev
  obtain ⟨xs, S1, e1, ev1⟩ := bindOk ev
  clear ev
  split at ev1
  · rename_i qs hq
    split at ev1
    · rename_i hh
      cases ev1
      have hp1 : upd H p (.dK []) p = some (.dK []) := upd_same
      obtain ⟨hA, hf⟩ := so.freshA hp
      refine fr (so.made hp) (en.mono (Gr.made hp)) e1 fun ps W2 H2 g2 so2 r2 => ?_
      obtain ⟨k1, k2, k3⟩ := g2.keepN hp1 hA hf
      obtain ⟨kvs, e2, e3, e4⟩ := pairs_of r2 hq hh.2
      refine ⟨k1, kvs, e2, by rw [e3]; exact hh.1, ?_⟩
      have gg : Gr W H W2 H2 := (Gr.made hp).trans g2
      exact q (.ref p) (W2.al p) _ ((gg.own hp).adopt hp) ((so2.own k3 k2).adopt k2 k3 (.inl ⟨_, upd_same, (e4 [] [] .nil).mono (Gw.al W2 p)⟩)) (al_ref so2)
    · cases ev1
  · cases ev1
theorem pair_list {K : PySem.W.Frag} {W : Wd} : ∀ {vs : List V} {ys : List D} {qs : List (D × D)}, RepL K W vs ys → pairsD ys = some qs →
    ∃ (ps : List Addr) (kvs : List (Key × V)), vs = ps.map V.ref ∧ Paired (fun p kv => W.Hf p = some (.tup [kV kv.1, kv.2])) ps kvs ∧ ∀ (m : List (Key × V)) (r : List (D × D)), DRep K W kD m r → DRep K W kD (mergeK m kvs) (mergeD r qs) := by
  intro vs ys
  induction ys generalizing vs with
  | nil =>
    intro qs r e
    cases r
    cases e
    exact ⟨[], [], rfl, .nil, fun m r h => h⟩
  | cons y ys ih =>
    intro qs r e
    unfold pairsD at e
    split at e
    · rename_i h; cases h
    · rename_i h
      cases h
      rename_i k v
      split at e
      · rename_i hk
        rw [Option.map_eq_some_iff] at e
        obtain ⟨qs', e1, rfl⟩ := e
        cases r with
        | cons r1 rr =>
          cases r1 with
          | @tup a us _ h rl =>
            cases rl with
            | cons ra rl =>
              cases rl with
              | cons rb rl =>
                cases rl
                obtain ⟨key, rfl, rfl⟩ := flat_key hk ra
                obtain ⟨ps, kvs, e2, e3, e4⟩ := ih rr e1
                refine ⟨a :: ps, (key, _) :: kvs, by rw [e2]; rfl, .cons h e3, fun m r hm => ?_⟩
                exact e4 _ _ (hm.put kD_eqv key rb)
      · cases e
    · cases e
theorem paired_imp {α β : Type} {F G : α → β → Prop} (h : ∀ a b, F a b → G a b) : ∀ {l : List α} {m : List β}, Paired F l m → Paired G l m
  | _, _, .nil => .nil
  | _, _, .cons x y => .cons (h _ _ x) (paired_imp h y)
theorem se_dictp (g : GX Φ Cn k X) (hg : Gl X "dict") (ha : SEB Φ Cn X a ca) (hs : notStar a = true) : SE Φ Cn X (.Call (.Name "dict" p) [a] [] pos) (.dictp ca) := by
  obtain ⟨ta, pa, fa⟩ := ha
  have hs' := star_cons hs [] X.env
  refine ⟨_, pe_callV (u := .type "dict") (.inr ⟨_, rfl⟩) (call_dictP g.calm) hg (g.blt _ (by decide)) (by decide +kernel) (pa_cons pa pa_nil hs') (by decide) (by decide) hs' rfl, fun {W S H σ Γ Hb d S' Q} so en ev q => ?_⟩
  rw [evE] at ev
  obtain ⟨x, S1, e1, ev1⟩ := bindOk ev
  clear ev
  split at ev1
  · rename_i qs hq
    cases ev1
    rw [Option.bind_eq_some_iff] at hq
    obtain ⟨ys, hy, hq⟩ := hq
    refine fa so en e1 fun v W1 H1 g1 so1 b1 => ?_
    obtain ⟨l, vs, rfl, hl, rr⟩ := lstOf_rep so1 b1 hy
    obtain ⟨ps, kvs, rfl, e3, e4⟩ := pair_list rr hq
    refine ⟨l, ps, kvs, rfl, SqL.of hl, paired_imp (fun a kv h => sqT_mono so1.sub (SqT.of h)) e3, fun pp hp => ?_⟩
    exact q (.ref pp) (W1.al pp) _ (g1.trans (Gr.al hp)) (so1.al hp (.inl ⟨_, upd_same, (e4 [] [] .nil).mono (Gw.al W1 pp)⟩)) (al_ref so1)
  · cases ev1
theorem rg_rep {K : PySem.W.Frag} {W : Wd} (a b : Int) : RepL K W (rgV a b) (rngL a b) := by
  unfold rgV rngL
  generalize List.range (b - a).toNat = l
  induction l with
  | nil => exact .nil
  | cons i l ih => exact .cons (.int _) ih
def SRg (Φ : Fns) (Cn : Str → Option Addr) (X : Cx) (e : Expr) (c : CI) : Prop := ∃ t, PRg X e t ∧ ∀ {W : Wd} {S : Store} {H : Hp} {σ : L2.St} {Γ : Env} {Hb : Hp} {its : Its} {S' : Store} {Q : Int → Int → Hp → Prop}, StOk X.K Cn W S H → EnvOk X.K Hb W Γ σ H → evI Φ c Γ S = .ok its S' →
  (∀ i j W' H', Gr W H W' H' → StOk X.K Cn W' S' H' → its.xs = rngL i j → RgOk i j → Q i j H') → t σ H Q
theorem srg_1 {p2 : Pos} (g : GX Φ Cn k X) (hg : Gl X "range") (ha : SE Φ Cn X a ca) (hs : notStar a = true) : SRg Φ Cn X (.Call (.Name "range" p2) [a] [] pos) (.r1 ca) := by
  obtain ⟨ta, pa, fa⟩ := ha
  refine ⟨_, prg_1 hg (g.blt _ (by decide)) pa (star_cons hs [] X.env), fun {W S H σ Γ Hb its S' Q} so en ev q => ?_⟩
  rw [evI] at ev
  obtain ⟨x, S1, e1, ev1⟩ := bindOk ev
  clear ev
  obtain ⟨e2, rfl⟩ := ofOk ev1
  rw [Option.map_eq_some_iff] at e2
  obtain ⟨xs, e2, rfl⟩ := e2
  obtain ⟨i, j, hi, rfl, h1, h2, h3, h4, h5, rfl⟩ := rng2_of e2
  cases hi
  refine fa so en e1 fun v W1 H1 g1 so1 r1 => ?_
  cases r1
  exact ⟨j, rfl, q 0 j W1 H1 g1 so1 rfl ⟨by omega, by omega, by omega, by omega, by omega⟩⟩
theorem srg_2 {p2 : Pos} (g : GX Φ Cn k X) (hg : Gl X "range") (ha : SE Φ Cn X a ca) (hb : SE Φ Cn X b cb) (hs : notStar a = true) (hs2 : notStar b = true) : SRg Φ Cn X (.Call (.Name "range" p2) [a, b] [] pos) (.r2 ca cb) := by
  obtain ⟨ta, pa, fa⟩ := ha
  obtain ⟨tb, pb, fb⟩ := hb
  have h2' := star_cons hs2 [] X.env
  refine ⟨_, prg_2 hg (g.blt _ (by decide)) pa pb (star_cons hs [b] X.env) h2' (by rw [h2']; rfl), fun {W S H σ Γ Hb its S' Q} so en ev q => ?_⟩
  rw [evI] at ev
  obtain ⟨x, S1, e1, ev1⟩ := bindOk ev
  clear ev
  obtain ⟨y, S2, e3, ev⟩ := bindOk ev1
  clear ev1
  obtain ⟨e2, rfl⟩ := ofOk ev
  rw [Option.map_eq_some_iff] at e2
  obtain ⟨xs, e2, rfl⟩ := e2
  obtain ⟨i, j, rfl, rfl, h1, h2, h3, h4, h5, rfl⟩ := rng2_of e2
  refine fa so en e1 fun v W1 H1 g1 so1 r1 => fb so1 (en.mono g1) e3 fun v2 W2 H2 g2 so2 r2 => ?_
  cases r1
  cases r2
  exact ⟨i, j, rfl, rfl, q i j W2 H2 (g1.trans g2) so2 rfl ⟨by omega, by omega, by omega, by omega, by omega⟩⟩
theorem seo_rng {t : Bool} {ci : CI} (g : GX Φ Cn k X) (hg : Gl X (if t then "tuple" else "list")) (ha : SRg Φ Cn X a ci) (hs : notStar a = true) : SEO Φ Cn X (.Call (.Name (if t then "tuple" else "list") p) [a] [] pos) (.rng t ci) := by
  obtain ⟨ta, pa, fa⟩ := ha
  cases t with
  | true =>
    refine ⟨_, pe_tupRg g.calm hg (g.blt _ (by decide)) pa (star_cons hs [] X.env), fun {W S H σ Γ Hb d S' Q} so en ev q => ?_⟩
    rw [evE] at ev
    obtain ⟨⟨xs, g0⟩, S1, e1, ev1⟩ := bindOk ev
    clear ev
    cases ev1
    refine fa so en e1 fun i j W1 H1 g1 so1 ex ok => ⟨ok, fun p hp => ?_⟩
    have ex' : xs = rngL i j := ex
    subst ex'
    exact (q.shift g1).tup so1 hp (rg_rep i j)
  | false =>
    refine ⟨_, pe_listRg g.calm hg (g.blt _ (by decide)) pa (star_cons hs [] X.env), fun {W S H σ Γ Hb d S' Q} so en ev q => ?_⟩
    rw [evE] at ev
    obtain ⟨⟨xs, g0⟩, S1, e1, ev1⟩ := bindOk ev
    clear ev
    cases ev1
    refine fa so en e1 fun i j W1 H1 g1 so1 ex ok => ⟨ok, fun p hp => ?_⟩
    have ex' : xs = rngL i j := ex
    subst ex'
    exact (q.shift g1).lst so1 hp (rg_rep i j)
theorem few_ok (hs : es.all notStar = true) (hl : es.length < 30) : ((backTo pos (starEach es X.env)).all (fun x => !x.1) && (backToKw pos (keywordEach [] X.env)).all (fun x => x.1.isSome)
      && decide (es.length + ([] : List Keyword).length + (if ([] : List Keyword).isEmpty then 0 else 1) < 30)) = true := by
  rw [(star_all hs pos X.env).2]
  show decide (es.length + 0 + 0 < 30) = true
  exact decide_eq_true (by omega)
def rIdx (K : PySem.W.Frag) (Cn : Str → Option Addr) : V → List V → Hp → VK → Prop := fun x xs H Q => ∃ W S y d1 d2 d, xs = [y] ∧ StOk K Cn W S H ∧ BRep K W H x d1 ∧ BRep K W H y d2 ∧ meth1 S .index d1 d2 = some d ∧ Out K Cn W H S d Q
theorem index_at : ∀ {xs : List D} {d : D} {k j : Nat}, indexOf xs d k = some j → ∃ i z, j = k + i ∧ xs[i]? = some z ∧ PyData.eqv z d = true ∧ ∀ (m : Nat) (z' : D), m < i → xs[m]? = some z' → PyData.eqv z' d = false
  | [], d, k, j, h => by rw [indexOf] at h; cases h
  | x :: xs, d, k, j, h => by
    rw [indexOf] at h
    split at h
    · rename_i he
      cases h
      exact ⟨0, x, by omega, rfl, he, fun m _ hm => by omega⟩
    · rename_i he
      obtain ⟨i, z, e1, e2, e3, e4⟩ := index_at h
      refine ⟨i + 1, z, by omega, by rw [List.getElem?_cons_succ]; exact e2, e3, fun m z' hm hz => ?_⟩
      cases m with
      | zero =>
        rw [List.getElem?_cons_zero] at hz
        cases hz
        exact Bool.eq_false_iff.mpr he
      | succ m =>
        rw [List.getElem?_cons_succ] at hz
        exact e4 m z' (by omega) hz
theorem mt_idx (hu : X.A.units + 65 < cLine) : MtR X "list.index" (rIdx X.K Cn) := by
  intro pins s σ H x xs v us Q I rx rs h
  obtain ⟨W, S, y, d1, d2, d, rfl, so, b1, b2, e, q⟩ := h
  change (lstOf S d1).bind _ = some d at e
  rw [Option.bind_eq_some_iff] at e
  obtain ⟨ds, hd, e⟩ := e
  split at e
  · rename_i hs
    rw [Bool.and_eq_true] at hs
    rw [Option.map_eq_some_iff] at e
    obtain ⟨j, hj, rfl⟩ := e
    obtain ⟨i, z, e1, e2, e3, e4⟩ := index_at hj
    obtain ⟨l, vs, rfl, hL, rr⟩ := lstOf_rep so b1 hd
    have q' : Q (.int ((j : Nat) : Int)) H := q.flat so (.int _) (by intro _ h; cases h)
    rw [e1, Nat.zero_add] at q'
    exact mt_indexD hu pins s σ H _ _ v us Q I rx rs ⟨l, y, d2, ds, i, z, rfl, rfl, .lst (SqL.of hL) (rr.dpl so hs.2), b2.dp so hs.1, hs.2, hs.1, e2, e3, e4, q'⟩
  · cases e
theorem list_ty {K : PySem.W.Frag} {W : Wd} {S : Store} {H : Hp} {v : V} {x : D} {xs : List D} (so : StOk K Cn W S H) (b : BRep K W H v x) (h : lstOf S x = some xs) : tyV K "list" v H := by
  obtain ⟨l, vs, rfl, hL, _⟩ := lstOf_rep so b h
  exact .inl ⟨rfl, vs, SqL.of hL⟩
theorem dict_ty {K : PySem.W.Frag} {W : Wd} {S : Store} {H : Hp} {v : V} {x : D} {m : List (D × D)} (so : StOk K Cn W S H) (b : BRep K W H v x) (h : dicOf S x = some m) : tyV K "dict" v H := by
  obtain ⟨a, n, rfl, _, _, hd⟩ := dicOf_rep so b h
  rcases hd with ⟨kvs, h1, _⟩ | ⟨kvs, h1, _⟩
  · exact .inr (.inr (.inl ⟨rfl, .inl ⟨kvs, h1⟩⟩))
  · exact .inr (.inr (.inl ⟨rfl, .inr ⟨kvs, h1⟩⟩))
theorem seo_index (g : GX Φ Cn k X) {apos : Pos} (ha : SEB Φ Cn X a ca) (hb : SEB Φ Cn X b cb) (hbase : plainBase a = true) (hs : notStar b = true) (hline : (apos.endLine == pos.line) = true) : SEO Φ Cn X (.Call (.Attribute a "index" apos) [b] [] pos) (.m1 .index ca cb) := by
  obtain ⟨ta, pa, fa⟩ := ha
  obtain ⟨tb, pb, fb⟩ := hb
  have hs' := star_cons hs [] X.env
  refine ⟨_, pe_bm PySem.F.plainAttrs_list PySem.F.slot_list_index PySem.F.type_list_index (mt_idx (Cn := Cn) (by have := g.un; omega)) pa (pa_cons pb pa_nil hs') (base_ok hbase _ _ _) (few_ok (es := [b]) (by rw [List.all_cons, hs]; rfl) (show 1 < 30 by decide)) hline hs' rfl, fun {W S H σ Γ Hb d S' Q} so en ev q => ?_⟩
  rw [evE] at ev
  obtain ⟨x, S1, e1, ev1⟩ := bindOk ev
  clear ev
  split at ev1
  · rename_i hok
    obtain ⟨y, S2, e2, ev⟩ := bindOk ev1
    clear ev1
    obtain ⟨e3, rfl⟩ := ofOk ev
    obtain ⟨xs, hx⟩ := Option.isSome_iff_exists.mp hok
    exact fa so en e1 fun v W1 H1 g1 so1 b1 => ⟨list_ty so1 b1 hx, fb so1 (en.mono g1) e2 fun v2 W2 H2 g2 so2 b2 => ⟨W2, _, v2, x, y, d, rfl, so2, b1.mono g2, b2, e3, q.shift (g1.trans g2)⟩⟩
  · cases ev1
def rGet1 (K : PySem.W.Frag) (Cn : Str → Option Addr) : V → List V → Hp → VK → Prop := fun x xs H Q => ∃ W S y d1 d2 d, xs = [y] ∧ StOk K Cn W S H ∧ BRep K W H x d1 ∧ BRep K W H y d2 ∧ meth1 S .get d1 d2 = some d ∧ ∀ v H', Gr W H W H' → StOk K Cn W S H' → Rep K W v d → Q v H'
theorem mt_get1 (hu : X.A.units + 1 < cLine) : MtR X "dict.get" (rGet1 X.K Cn) := by
  intro pins s σ H x xs v us Q I rx rs h
  obtain ⟨W, S, y, d1, d2, d, rfl, so, b1, b2, e, q⟩ := h
  change (dicOf S d1).bind _ = some d at e
  rw [Option.bind_eq_some_iff] at e
  obtain ⟨m, hm, e⟩ := e
  split at e
  · rename_i ok
    cases e
    obtain ⟨a, n, H', rfl, hn, ho, I', so', g, f⟩ := fits I so b1 hm ok b2
    obtain ⟨o, hg, hf⟩ := f.get
    obtain ⟨u, rfl, ru⟩ := vals1 rs
    cases rx
    refine d_get1 hu I' hg ru fun w' s' I2 rw' => ⟨_, H', I2, rw', q _ H' g so' ?_⟩
    split at hf
    · rename_i d hd
      obtain ⟨w, rfl, hw⟩ := hf
      rw [hd]
      exact hw
    · rename_i hd
      subst hf
      rw [hd]
      exact .non
  · cases e
def rGet2 (K : PySem.W.Frag) (Cn : Str → Option Addr) : V → List V → Hp → VK → Prop := fun x xs H Q => ∃ W S y z d1 d2 d3 d, xs = [y, z] ∧ StOk K Cn W S H ∧ BRep K W H x d1 ∧ BRep K W H y d2 ∧ Rep K W z d3 ∧ meth2 S .get d1 d2 d3 = some d ∧ ∀ v H', Gr W H W H' → StOk K Cn W S H' → Rep K W v d → Q v H'
theorem mt_get2 (hu : X.A.units + 1 < cLine) : MtR X "dict.get" (rGet2 X.K Cn) := by
  intro pins s σ H x xs v us Q I rx rs h
  obtain ⟨W, S, y, z, d1, d2, d3, d, rfl, so, b1, b2, b3, e, q⟩ := h
  change (dicOf S d1).bind _ = some d at e
  rw [Option.bind_eq_some_iff] at e
  obtain ⟨m, hm, e⟩ := e
  split at e
  · rename_i ok
    cases e
    obtain ⟨a, n, H', rfl, hn, ho, I', so', g, f⟩ := fits I so b1 hm ok b2
    obtain ⟨o, hg, hf⟩ := f.get
    cases rs with
    | cons ru rs =>
      cases rs with
      | cons rz rs =>
        cases rs
        cases rx
        refine d_get2 hu I' hg ru rz fun w' s' I2 rw' => ⟨_, H', I2, rw', q _ H' g so' ?_⟩
        split at hf
        · rename_i d hd
          obtain ⟨w, rfl, hw⟩ := hf
          rw [hd]
          exact hw
        · rename_i hd
          subst hf
          rw [hd]
          exact b3
  · cases e
theorem se_get1 (g : GX Φ Cn k X) {apos : Pos} (ha : SEB Φ Cn X a ca) (hb : SEB Φ Cn X b cb) (hbase : plainBase a = true) (hs : notStar b = true) (hline : (apos.endLine == pos.line) = true) : SE Φ Cn X (.Call (.Attribute a "get" apos) [b] [] pos) (.m1 .get ca cb) := by
  obtain ⟨ta, pa, fa⟩ := ha
  obtain ⟨tb, pb, fb⟩ := hb
  have hs' := star_cons hs [] X.env
  refine ⟨_, pe_bm PySem.F.plainAttrs_dict PySem.F.slot_dict_get PySem.F.type_dict_get (mt_get1 (Cn := Cn) (by have := g.un; omega)) pa (pa_cons pb pa_nil hs') (base_ok hbase _ _ _) (few_ok (es := [b]) (by rw [List.all_cons, hs]; rfl) (show 1 < 30 by decide)) hline hs' rfl, fun {W S H σ Γ Hb d S' Q} so en ev q => ?_⟩
  rw [evE] at ev
  obtain ⟨x, S1, e1, ev1⟩ := bindOk ev
  clear ev
  split at ev1
  · rename_i hok
    obtain ⟨y, S2, e2, ev⟩ := bindOk ev1
    clear ev1
    obtain ⟨e3, rfl⟩ := ofOk ev
    obtain ⟨xs, hx⟩ := Option.isSome_iff_exists.mp hok
    exact fa so en e1 fun v W1 H1 g1 so1 b1 => ⟨dict_ty so1 b1 hx, fb so1 (en.mono g1) e2 fun v2 W2 H2 g2 so2 b2 => ⟨W2, _, v2, x, y, d, rfl, so2, b1.mono g2, b2, e3, fun w H3 g3 so3 r => q w W2 H3 ((g1.trans g2).trans g3) so3 r⟩⟩
  · cases ev1
theorem se_get2 (g : GX Φ Cn k X) {apos : Pos} (ha : SEB Φ Cn X a ca) (hb : SEB Φ Cn X b cb) (hc : SE Φ Cn X c cc) (hbase : plainBase a = true) (hs : notStar b = true) (hs2 : notStar c = true) (hline : (apos.endLine == pos.line) = true) : SE Φ Cn X (.Call (.Attribute a "get" apos) [b, c] [] pos) (.m2 .get ca cb cc) := by
  obtain ⟨ta, pa, fa⟩ := ha
  obtain ⟨tb, pb, fb⟩ := hb
  obtain ⟨tc, pc, fc⟩ := hc
  have hs' := star_cons hs [c] X.env
  have hs2' := star_cons hs2 [] X.env
  refine ⟨_, pe_bm PySem.F.plainAttrs_dict PySem.F.slot_dict_get PySem.F.type_dict_get (mt_get2 (Cn := Cn) (by have := g.un; omega)) pa (pa_cons pb (pa_cons pc pa_nil hs2') hs') (base_ok hbase _ _ _) (few_ok (es := [b, c]) (by rw [List.all_cons, List.all_cons, hs, hs2]; rfl) (show 2 < 30 by decide)) hline hs' (by rw [hs2']; rfl), fun {W S H σ Γ Hb d S' Q} so en ev q => ?_⟩
  rw [evE] at ev
  obtain ⟨x, S1, e1, ev1⟩ := bindOk ev
  clear ev
  split at ev1
  · rename_i hok
    obtain ⟨y, S2, e2, ev⟩ := bindOk ev1
    clear ev1
    obtain ⟨z, S3, e4, ev1⟩ := bindOk ev
    clear ev
    obtain ⟨e3, rfl⟩ := ofOk ev1
    obtain ⟨xs, hx⟩ := Option.isSome_iff_exists.mp hok
    exact fa so en e1 fun v W1 H1 g1 so1 b1 => ⟨dict_ty so1 b1 hx, fb so1 (en.mono g1) e2 fun v2 W2 H2 g2 so2 b2 => fc so2 (en.mono (g1.trans g2)) e4 fun v3 W3 H3 g3 so3 b3 =>
      ⟨W3, _, v2, v3, x, y, z, d, rfl, so3, b1.mono (g2.trans g3), b2.mono g3, b3, e3, fun w H4 g4 so4 r => q w W3 H4 (((g1.trans g2).trans g3).trans g4) so4 r⟩⟩
  · cases ev1
end
end PL
set_option autoImplicit false
set_option linter.all false
set_option maxRecDepth 100000
set_option maxHeartbeats 8000000
set_option Elab.async false
namespace PL
open PySem PySem.Spec PyProof.Rows L2
def noneIn (w : World) : Obj := { cls := .type "set", dict := none, data := .set #[] 0 (.fresh 0 0 (!w.params.followText "set-order")) }
section
variable {P : Program} {w : World} {A : Around} {E : Value → Shared → Prop} {s : Shared}
theorem set_of_list {l : Addr} {vs : Array Value} (ns : List Int) {Q : Value → Shared → Prop} (free : A.handled = none) (isl : s.heap.IsList l vs) (each : IntsAre vs.toList ns) (few : ns.length + 1 < scanBound)
    (goal : ∀ (h1 : Heap) (k1 c1 : Nat), SetR w h1 s.heap.objs.size (fun j => decide (j ∈ ns)) c1 → c1 ≤ ns.length → (∀ b o, s.heap.get? b = some o → h1.get? b = some o) → Q (.ref s.heap.objs.size) { s with heap := h1, toks := k1 }) :
    wpAny (model P w) A (call (.type "set") [.ref l]) Q E s := by
  have sz : vs.size = ns.length := by
    have q := IntsAre.length each
    rwa [Array.length_toList] at q
  obtain ⟨_, _, m0⟩ := F.called_set.mro
  have m1 := F.called_set.made
  have m2 := F.called_set.sub
  apply wpAny_call
  apply codeAny_of_tree
  show wpAny _ _ (callAny (.type "set") _) _ _ _
  apply wpAny_pure
  refine ⟨Code.quiet_builtin _ (by decide +kernel), codeAny_builtin F.entry_type_call ?_⟩
  rw [Around.under_plain (weight_type_call_type "set" [.ref l] []) rfl]
  have m3 := F.called_set.notType
  have m4 := F.called_set.canCreate
  have m5 := F.typeCall_set_1 (.ref l)
  repeat (any_goals (first | assumption | wp_step))
  apply codeAny_mono (code_set_led1 (.ref l) (E := E) (Q₁ := fun o1 s1 => o1 = .ref s.heap.objs.size ∧ s1 = { s with heap := s.heap.push (noneIn w) }) ⟨rfl, rfl⟩)
  intro r s1 hr
  match r, hr with
  | .error e, hr => exact hr
  | .ok (.ret ob), hr =>
    obtain ⟨rfl, rfl⟩ := hr
    have at0 : (s.heap.push (noneIn w)).get? s.heap.objs.size = some (noneIn w) := Heap.get?_push_size _ rfl
    have ty0 : Shared.TypeIs { s with heap := s.heap.push (noneIn w) } (.ref s.heap.objs.size) "set" := ⟨_, at0, rfl⟩
    have n1 := F.called_set.init.lookup
    have n2 := F.called_set.init.bind (.ref s.heap.objs.size)
    repeat (any_goals (first | assumption | wp_step))
    refine codeAny_mono (codeAny_call_builtin (R := wants (fun r2 s2 => r2 = .none ∧ ∃ h1 k1 c1, s2 = { s with heap := h1, toks := k1 } ∧ SetR w h1 s.heap.objs.size (fun j => decide (j ∈ ns)) c1 ∧ c1 ≤ ns.length ∧ ∀ b o, s.heap.get? b = some o → h1.get? b = some o) E)
      F.called_set.init.plain F.entry_set_init (check_set_init_1 ty0 ?_)) fun r2 s2 hr2 => ?_
    · obtain ⟨⟨c1, d1, x1, y1⟩, e1, e2, m, e3⟩ := isl
      simp only at e2 e3
      subst e2; subst e3
      have e1' : (s.heap.push (noneIn w)).get? l = some { cls := .type "list", dict := d1, data := .seq vs m, slots := y1 } := Heap.get?_push_of_some _ e1
      have t1 := F.sub_list_set
      have t2 := F.sub_list_frozenset
      have t3 : (Value.type "list" == Value.type "dict") = false := by decide
      have isl1 : (s.heap.push (noneIn w)).IsList l vs := ⟨_, e1', rfl, m, rfl⟩
      unfold Builtin.«set.__init__» noKeywords Builtin.Frozenset.updateFrom
      generalize gI : pyIter = PI
      wp_walk
      subst gI
      refine wpAny_pyIter_list isl1 (wpAny_bind (wpAny_runValue ?_))
      have lt0 : l < s.heap.objs.size := Heap.lt_size e1
      have fr : A.in1.in1.in1.handled = none := by simp [free]
      have sz1 : (s.heap.push (noneIn w)).objs.size = s.heap.objs.size + 1 := Heap.size_push ..
      have ne1 : l ≠ (s.heap.push (noneIn w)).objs.size := fun e => absurd (sz1 ▸ e ▸ lt0 : s.heap.objs.size + 1 < s.heap.objs.size) (by omega)
      have ne2 : s.heap.objs.size ∉ [(s.heap.push (noneIn w)).objs.size, l] := by
        intro hm
        rcases List.mem_cons.mp hm with e | e
        · have e' : s.heap.objs.size = s.heap.objs.size + 1 := e.trans sz1
          omega
        · have e' := List.mem_singleton.mp e
          exact absurd lt0 (e' ▸ Nat.lt_irrefl _)
      have vals : ∀ (i : Nat) (v : Value), vs[i]? = some v → ∃ k t, ns[i]? = some k ∧ v = .int k t := fun i v hv => by
        have hi : i < ns.length := sz ▸ (Array.getElem?_eq_some_iff.mp hv).1
        obtain ⟨t, e⟩ := IntsAre.int_at each i v (by rw [Array.getElem?_toList]; exact hv)
        exact ⟨ns[i], t, List.getElem?_eq_getElem hi, by rw [e, List.getD_eq_getElem?_getD, List.getElem?_eq_getElem hi]; rfl⟩
      refine set_update_ints ((Walks.list fr _ l ne1 vs).toS) s.heap.objs.size ne2 ns sz few vals (vs.size - 0) 0 _ (by omega) (Nat.zero_le _)
        ⟨⟨_, Heap.get?_push_size _ rfl, rfl, rfl⟩, isl1.push _⟩ ⟨0, Nat.le_refl 0, setR_new_at (Heap.get?_push_of_some _ at0)⟩ ?_
      rintro ⟨h1, g1, d1', k1, o1⟩ c1 mv hc1 hS1
      have q1 : g1 = s.gens := mv.gens
      have q2 : d1' = s.drawn := mv.drawn
      have q3 : o1 = s.os := mv.os
      subst q1; subst q2; subst q3
      show wpAny _ _ _ _ _ _
      apply wpAny_pure
      show wpAny _ _ (ret Value.none) _ _ _
      refine wpAny_pure ⟨rfl, h1, k1, c1, rfl, hS1, by omega, fun b o e => ?_⟩
      have b0 : b < s.heap.objs.size := Heap.lt_size e
      refine mv.heap b o ?_ (Heap.get?_push_of_some _ (Heap.get?_push_of_some _ e))
      intro hm
      rcases List.mem_cons.mp hm with e' | e'
      · exact absurd b0 (e' ▸ Nat.lt_irrefl _)
      · have e2 := (List.mem_singleton.mp e').trans sz1
        have b2 : s.heap.objs.size + 1 < s.heap.objs.size := e2 ▸ b0
        omega
    · match r2, hr2 with
      | .error e, hr2 => exact hr2
      | .ok (.ret r), hr2 =>
        obtain ⟨rfl, h1, k1, c1, rfl, hS1, hc1, keep⟩ := hr2
        repeat (any_goals (first | assumption | wp_step))
        exact goal _ _ _ hS1 hc1 keep
      | .ok .next, hr2 => exact hr2.elim
      | .ok .brk, hr2 => exact hr2.elim
      | .ok .cont, hr2 => exact hr2.elim
  | .ok .next, hr => exact hr.elim
  | .ok .brk, hr => exact hr.elim
  | .ok .cont, hr => exact hr.elim
end
section
variable {Φ : Fns} {Cn : Str → Option Addr} {X : Cx} {k : Nat} {a : Expr} {ca : CE} {p p2 q2 pos : Pos}
def rSetI (K : PySem.W.Frag) (w : World) : List V → Hp → VK → Prop := fun xs H Q => ∃ (l : Addr) (ns : List Int), xs = [V.ref l] ∧ SqL K H l (ns.map V.int) ∧ ns.length ≤ 1000 ∧
  ∀ (p : Addr) (c : Nat), H p = none → c ≤ ns.length → Q (.ref p) (upd H p (SetO w p (fun j => decide (j ∈ ns)) c))
theorem cr_setI (hc : X.calm = true) : CallR X (.type "set") (rSetI X.K X.w) := by
  intro pins s σ H xs us Q I r h
  obtain ⟨l, ns, rfl, hl, few, q⟩ := h
  rw [Vals.ref1 r]
  obtain ⟨its, rv, pl, _⟩ := I.list hl
  refine set_of_list ns (I.ok.hd hc) pl.isList (by simpa using ints_of_vals rv) (by unfold scanBound; omega) fun h1 k1 c1 R hc1 keep => ?_
  exact ⟨.ref s.heap.objs.size, upd H s.heap.objs.size (SetO X.w s.heap.objs.size (fun j => decide (j ∈ ns)) c1), I.laid (t' := k1) keep (Nat.le_refl _) (setO_new R), rfl, q _ c1 (I.hok.fresh (Nat.le_refl _)) hc1⟩
theorem seo_sset (g : GX Φ Cn k X) (hg : Gl X "sorted") (hg2 : Gl X "set") (ha : SEB Φ Cn X a ca) (hs : notStar a = true) : SEO Φ Cn X (.Call (.Name "sorted" p) [.Call (.Name "set" p2) [a] [] q2] [] pos) (.c1 .sset ca) := by
  obtain ⟨ta, pa, fa⟩ := ha
  have h1 := star_cons hs [] X.env
  have inner : PE X (.Call (.Name "set" p2) [a] [] q2) _ := pe_callV (u := .type "set") (.inr ⟨_, rfl⟩) (cr_setI g.calm) hg2 (g.blt _ (by decide)) (by decide +kernel) (pa_cons pa pa_nil h1) (by decide) (by decide) h1 rfl
  refine ⟨_, pe_callV (u := .builtin "sorted") (.inl ⟨_, rfl⟩) (cr_sortedSet g.calm) hg (g.blt _ (by decide)) (by decide +kernel) (pa_cons inner pa_nil rfl) (by decide) (by decide) rfl rfl, fun {W S H σ Γ Hb d S' Q} so en ev q => ?_⟩
  rw [evE] at ev
  obtain ⟨x, S1, e1, ev⟩ := bindOk ev
  obtain ⟨e2, rfl⟩ := ofOk ev
  refine fa so en e1 fun v W1 H1 g1 so1 b1 => ?_
  change (lstOf _ x).bind _ = some d at e2
  rw [Option.bind_eq_some_iff] at e2
  obtain ⟨ys, hy, e2⟩ := e2
  rw [Option.bind_eq_some_iff] at e2
  obtain ⟨ns, hn, e2⟩ := e2
  split at e2
  · rename_i h64
    cases e2
    obtain ⟨l, vs, rfl, hl, rr⟩ := lstOf_rep so1 b1 hy
    obtain rfl := rr.of_ints hn
    refine ⟨l, ns, rfl, SqL.of hl, by omega, fun pp c hp hc => ?_⟩
    refine ⟨pp, fun j => decide (j ∈ ns), c, rfl, upd_same, by omega, fun zs p' asc mem _ hp' => ?_⟩
    have e : zs = ssetI ns := asc_eq asc (ssetI_asc ns) fun z => by rw [mem z, ssetI_mem]; simp
    subst e
    exact ((q.shift g1).shift (Gr.made hp)).lst (so1.made hp) hp' (RepL.ints _)
  · cases e2
end
end PL
set_option autoImplicit false
set_option linter.all false
set_option maxRecDepth 100000
set_option Elab.async false
namespace PL
open PySem PySem.Spec PyProof.Rows L2
theorem Gs.own {W W' : Wd} {H H' : Hp} {l : Addr} {o u : HO} (g : Gs W H W' H') (hl : H' l = some u) (hu : ∀ x y, u ≠ .frz x y) : Gs W H W' (upd H' l o) :=
  ⟨g.gw, fun a x y h => by
    have h' := g.frz a x y h
    rw [upd_ne (fun e => by subst e; rw [hl] at h'; exact hu x y (Option.some.inj h'))]
    exact h'⟩
structure Now (K : PySem.W.Frag) (Cn : Str → Option Addr) (Wb : Wd) (Hb : Hp) (W : Wd) (H : Hp) (Γ : Env) (S : Store) (W' : Wd) (σ' : L2.St) (H' : Hp) : Prop where
  gr : Gr Wb Hb W' H'
  gs : Gs W H W' H'
  so : StOk K Cn W' S H'
  en : EnvOk K Hb W' Γ σ' H'
def EndOk (K : PySem.W.Frag) (Cn : Str → Option Addr) (Wb : Wd) (Hb : Hp) (W : Wd) (H : Hp) (S' : Store) (fl : Fl) (D : Ends) : Prop :=
  match fl with
  | .nx Γ' => ∀ σ' W' H', Now K Cn Wb Hb W H Γ' S' W' σ' H' → D.nx σ' H'
  | .ret d => ∀ v W' H', Gr Wb Hb W' H' → Gs W H W' H' → StOk K Cn W' S' H' → Rep K W' v d → D.rt v H'
  | .brk Γ' => ∀ σ' W' H', Now K Cn Wb Hb W H Γ' S' W' σ' H' → D.bk σ' H'
  | .ct Γ' => ∀ σ' W' H', Now K Cn Wb Hb W H Γ' S' W' σ' H' → D.ct σ' H'
theorem Now.step {K : PySem.W.Frag} {Cn : Str → Option Addr} {Wb W W1 W' : Wd} {Hb H H1 H' : Hp} {Γ : Env} {S : Store} {σ' : L2.St} (g : Gs W H W1 H1) (n : Now K Cn Wb Hb W1 H1 Γ S W' σ' H') : Now K Cn Wb Hb W H Γ S W' σ' H' := ⟨n.gr, g.trans n.gs, n.so, n.en⟩
theorem EndOk.shift {K : PySem.W.Frag} {Cn : Str → Option Addr} {Wb W W1 : Wd} {Hb H H1 : Hp} {S' : Store} {fl : Fl} {D : Ends} (g : Gs W H W1 H1) (q : EndOk K Cn Wb Hb W H S' fl D) : EndOk K Cn Wb Hb W1 H1 S' fl D := by
  cases fl with
  | nx Γ' => exact fun σ' W' H' n => q σ' W' H' (n.step g)
  | ret d => exact fun v W' H' a b c r => q v W' H' a (g.trans b) c r
  | brk Γ' => exact fun σ' W' H' n => q σ' W' H' (n.step g)
  | ct Γ' => exact fun σ' W' H' n => q σ' W' H' (n.step g)
structure GS (Φ : Fns) (Cn : Str → Option Addr) (k : Nat) (X : Cx) : Prop extends GX Φ Cn k X where
  hp : PassesOwn (model X.prog X.w) X.A X.env X.xe
  fnT : ∀ x, X.fn x = true
  kind : X.env.scope.kind = .function
  stk : X.stack = X.env :: X.outer
  frm : X.env.frame = some X.env.locals
def SS (Φ : Fns) (Cn : Str → Option Addr) (X : Cx) (st : Stmt) (c : CS) : Prop := ∃ t : TS, PS X st t ∧ ∀ {Wb : Wd} {Hb : Hp} {W : Wd} {S : Store} {H : Hp} {σ : L2.St} {Γ : Env} {fl : Fl} {S' : Store} {D : Ends}, Gr Wb Hb W H → StOk X.K Cn W S H → EnvOk X.K Hb W Γ σ H → exS Φ c Γ S = .ok fl S' →
  EndOk X.K Cn Wb Hb W H S' fl D → t D σ H
def SSs (Φ : Fns) (Cn : Str → Option Addr) (X : Cx) (sts : List Stmt) (cs : List CS) : Prop := ∃ t : TS, PSs X sts t ∧ ∀ {Wb : Wd} {Hb : Hp} {W : Wd} {S : Store} {H : Hp} {σ : L2.St} {Γ : Env} {fl : Fl} {S' : Store} {D : Ends}, Gr Wb Hb W H → StOk X.K Cn W S H → EnvOk X.K Hb W Γ σ H → exSs Φ cs Γ S = .ok fl S' →
  EndOk X.K Cn Wb Hb W H S' fl D → t D σ H
section
variable {Φ : Fns} {Cn : Str → Option Addr} {X : Cx} {k : Nat} {e a b c : Expr} {ce ca cb cc : CE} {pos p : Pos} {es : List Expr} {cs : List CE} {x f m : Str}
theorem mk_now {K : PySem.W.Frag} {Wb W W' : Wd} {Hb H H' : Hp} {Γ : Env} {σ : L2.St} {S' : Store} (g0 : Gr Wb Hb W H) (g : Gr W H W' H') (so : StOk K Cn W' S' H') (en : EnvOk K Hb W Γ σ H) : Now K Cn Wb Hb W H Γ S' W' σ H' := ⟨g0.trans g, g.gs, so, en.mono g⟩
def gLc (Φ : Fns) (Cn : Str → Option Addr) (K : PySem.W.Frag) (c : CL) : TG := fun v σ H Q =>
  ∃ (Wb : Wd) (Hb : Hp) (W : Wd) (S : Store) (Γ : Env) (d : D) (Γ' : Env) (S' : Store), Gr Wb Hb W H ∧ StOk K Cn W S H ∧ EnvOk K Hb W Γ σ H ∧ Rep K W v d ∧ asgL Φ c d Γ S = .ok Γ' S' ∧ ∀ σ' W' H', Now K Cn Wb Hb W H Γ' S' W' σ' H' → Q σ' H'
def gLs (Φ : Fns) (Cn : Str → Option Addr) (K : PySem.W.Frag) (cs : List CL) : TGs := fun vs σ H Q =>
  ∃ (Wb : Wd) (Hb : Hp) (W : Wd) (S : Store) (Γ : Env) (ds : List D) (Γ' : Env) (S' : Store), Gr Wb Hb W H ∧ StOk K Cn W S H ∧ EnvOk K Hb W Γ σ H ∧ RepL K W vs ds ∧ asgLs Φ cs ds Γ S = .ok Γ' S' ∧ ∀ σ' W' H', Now K Cn Wb Hb W H Γ' S' W' σ' H' → Q σ' H'
theorem lg_nm {i : Nat} (hN : X.N.Nodup) (hi : X.N[i]? = some x) (hx : Loc X.env.scope x) (hf : X.fn x = true) : PG X (.Name x pos) (gLc Φ Cn X.K (.nm i)) := by
  have pg := pg_name (pos := pos) hN hi hx (.inl hf)
  refine ⟨fun pins s σ H v u Q I r ⟨Wb, Hb, W, S, Γ, d, Γ', S', g0, so, en, rr, e, q⟩ => pg.run pins s σ H v u Q I r ?_⟩
  rw [asgL] at e
  cases e
  exact q _ W H ⟨g0, Gs.refl W H, so, en.setP rr⟩
theorem lgs_n : PGs X [] (gLs Φ Cn X.K []) := by
  refine ⟨fun pins s σ H vs us Q I r ⟨Wb, Hb, W, S, Γ, ds, Γ', S', g0, so, en, rr, e, q⟩ => pgs_nil.run pins s σ H vs us Q I r ?_⟩
  cases rr with
  | nil =>
    rw [asgLs] at e
    cases e
    exact ⟨rfl, q σ W H ⟨g0, Gs.refl W H, so, en⟩⟩
  | cons h t => rw [asgLs] at e; cases e; all_goals (intros; contradiction)
theorem lgs_c {cl : CL} {cls : List CL} (h1 : PG X e (gLc Φ Cn X.K cl)) (h2 : PGs X es (gLs Φ Cn X.K cls)) (hs : (assignEach (e :: es) X.env).map (·.2) = assign e X.env :: (assignEach es X.env).map (·.2)) : PGs X (e :: es) (gLs Φ Cn X.K (cl :: cls)) := by
  refine ⟨fun pins s σ H vs us Q I r ⟨Wb, Hb, W, S, Γ, ds, Γ', S', g0, so, en, rr, e, q⟩ => (pgs_cons h1 h2 hs).run pins s σ H vs us Q I r ?_⟩
  cases rr with
  | nil => rw [asgLs] at e; cases e; all_goals (intros; contradiction)
  | @cons v vs d ds hv ht =>
    rw [asgLs] at e
    obtain ⟨Γ1, S1, e1, e2⟩ := bindOk e
    refine ⟨v, vs, rfl, Wb, Hb, W, S, Γ, d, Γ1, S1, g0, so, en, hv, e1, fun σ1 W1 H1 n1 => ?_⟩
    exact ⟨Wb, Hb, W1, S1, Γ1, ds, Γ', S', n1.gr, n1.so, n1.en, ht.mono n1.gs.gw, e2, fun σ2 W2 H2 n2 => q σ2 W2 H2 (n2.step n1.gs)⟩
theorem asgLs_len : ∀ {cs : List CL} {ds : List D} {Γ Γ' : Env} {S S' : Store}, asgLs Φ cs ds Γ S = .ok Γ' S' → ds.length = cs.length
  | [], [], _, _, _, _, _ => rfl
  | [], _ :: _, _, _, _, _, h => by rw [asgLs] at h; cases h; all_goals (intros; contradiction)
  | _ :: _, [], _, _, _, _, h => by rw [asgLs] at h; cases h; all_goals (intros; contradiction)
  | c :: cs, d :: ds, _, _, _, _, h => by
    rw [asgLs] at h
    obtain ⟨Γ1, S1, _, e2⟩ := bindOk h
    rw [List.length_cons, List.length_cons, asgLs_len e2]
theorem lg_tp {kk : Nat} {cls : List CL} (hc : X.calm = true) (h : PGs X es (gLs Φ Cn X.K cls)) (hl : es.length = cls.length) (hn : (assignEach es X.env).length = es.length) (hst : (assignEach es X.env).findIdx? (·.1) = none) : PG X (.Tuple es kk pos) (gLc Φ Cn X.K (.tp cls)) := by
  have pg := pg_tup (k := kk) (pos := pos) hc h hn hst
  refine ⟨fun pins s σ H v u Q I r ⟨Wb, Hb, W, S, Γ, d, Γ', S', g0, so, en, rr, e, q⟩ => pg.run pins s σ H v u Q I r ?_⟩
  unfold asgL at e
  split at e
  · rename_i xs
    obtain ⟨l, vs, e1, hL, r1⟩ := BRep.tup so (.inl rr)
    exact ⟨l, vs, e1, hL, by rw [r1.length, asgLs_len e, hl], Wb, Hb, W, S, Γ, xs, Γ', S', g0, so, en, r1, e, q⟩
  · cases e
def rPut (K : PySem.W.Frag) (Cn : Str → Option Addr) : TSet := fun o i v H Q => ∃ W S d1 d2 d S', StOk K Cn W S H ∧ BRep K W H o d1 ∧ BRep K W H i d2 ∧ Rep K W v d ∧ putD S d1 d2 d = some S' ∧ ∀ H', Gr W H W H' → StOk K Cn W S' H' → Q H'
theorem put_len {m : List (D × D)} {k d : D} : (dput m k d).length ≤ m.length + 1 := by
  unfold dput
  split
  · rw [List.length_map]; omega
  · rw [List.length_append]; exact Nat.le_refl _
theorem set_put (hu : X.A.units + 1 < cLine) : PSet X (rPut X.K Cn) := by
  intro pins s σ H o i v ov iv u Q I ro ri rv h
  obtain ⟨W, S, d1, d2, d, S', so, b1, b2, r, e, q⟩ := h
  unfold putD at e
  split at e
  · rename_i n xs hn
    split at e
    · rename_i j
      rw [Option.map_eq_some_iff] at e
      obtain ⟨p, hp, rfl⟩ := e
      obtain rfl := b2.int
      obtain ⟨a, rfl, ha, vs, h1, h2⟩ := Rep.at so hn (b1.rep (by intro xs e; subst e; cases hn))
      refine set_list pins s σ H _ _ v ov iv u Q I ro ri rv ⟨a, vs, j, p, rfl, rfl, h1, by rw [h2.length]; exact hp, ?_⟩
      exact q _ (Gr.put so ha h1 (fun _ _ z => nomatch z)) (so.put ha ⟨_, upd_same, h2.set r p⟩)
    · cases e
  · rename_i n m hn
    split at e
    · rename_i ok
      obtain ⟨ok, hm⟩ := ok
      cases e
      have hd : dicOf S d1 = some m := by unfold dicOf; rw [hn]
      obtain ⟨a, n', H', rfl, ha, ho, I', so', g, f⟩ := fits I so b1 hd ok b2
      rw [hn] at ho
      cases ho
      cases ro
      rcases f with ⟨kvs, i', h1, h2, rfl, rfl⟩ | ⟨kvs, ks, b', h1, h2, rfl, hb, rfl⟩
      · refine d_setItem hu I' (.inl ⟨kvs, i', h1, rfl, by rw [h2.len]; exact line_lt hm, rfl⟩) ri rv fun s' I2 => ⟨_, I2, ?_⟩
        exact q _ (g.trans (Gr.put so' ha h1 (fun _ _ z => nomatch z))) (so'.put ha (.inl ⟨_, upd_same, h2.put kD_eqv i' r⟩))
      · refine d_setItem hu I' (.inr ⟨kvs, ks, b', h1, rfl, hb, by rw [h2.len]; exact line_lt hm, rfl⟩) ri rv fun s' I2 => ⟨_, I2, ?_⟩
        exact q _ (g.trans (Gr.put so' ha h1 (fun _ _ z => nomatch z))) (so'.put ha (.inr ⟨_, upd_same, h2.put kT_eqv ks r⟩))
    · cases e
  · cases e
theorem pset_or {t t' : TSet} (h : PSet X t) (h' : PSet X t') : PSet X (fun o i v H Q => t o i v H Q ∨ t' o i v H Q) := by
  intro pins s σ H o i v ov iv u Q I ro ri rv q
  rcases q with q | q
  · exact h pins s σ H o i v ov iv u Q I ro ri rv q
  · exact h' pins s σ H o i v ov iv u Q I ro ri rv q
theorem sub_text {pos : Pos} {o i : Expr} (h : PlainIx i) (hn : (match i with
    | .Slice _ _ none _ => true
    | _ => false) = false) (env : PySem.Env) (v : Value) : assign (.Subscript o i pos) env v = (do
      let ov ← holding [v] (eval o env)
      let iv ← holding [v, ov] (eval i env)
      standAt pos
      holding [v, ov, iv] (setItem ov iv v)
      release [v, ov, iv] []) := by
  cases i with
  | Slice lo hi st p =>
    cases st with
    | none => cases hn
    | some st => rfl
  | _ => rfl
theorem putS_ok {o i v : V} {W1 : Wd} {d1 d2 d : D} {Γ' : Env} {S1 S' : Store} {H1 : Hp} {Γ : Env} {Wb W : Wd} {Hb H : Hp} {σ : L2.St} {Q : L2.St → Hp → Prop} {K : PySem.W.Frag} (g0 : Gr Wb Hb W H) (g : Gr W H W1 H1) (en : EnvOk K Hb W Γ σ H) (so1 : StOk K Cn W1 S1 H1) (b1 : BRep K W1 H1 o d1) (b2 : BRep K W1 H1 i d2) (r : Rep K W1 v d)
    (e : ofS (putD S1 d1 d2 d) Γ = .ok Γ' S') (q : ∀ σ' W' H', Now K Cn Wb Hb W H Γ' S' W' σ' H' → Q σ' H') : rPut K Cn o i v H1 (fun H3 => Q σ H3) := by
  unfold ofS at e
  split at e
  · rename_i S3 h3
    cases e
    exact ⟨W1, S1, d1, d2, d, S', so1, b1, b2, r, h3, fun H3 g3 so3 => q σ W1 H3 (mk_now g0 (g.trans g3) so3 en)⟩
  · cases e
theorem lg_sub (g : GX Φ Cn k X) (ha : SEB Φ Cn X a ca) (hb : SEB Φ Cn X b cb) (hno : ∀ Γ, ownB ca Γ = none) (ht : ∀ v, assign (.Subscript a b pos) X.env v = (do
      let ov ← holding [v] (eval a X.env)
      let iv ← holding [v, ov] (eval b X.env)
      standAt pos
      holding [v, ov, iv] (setItem ov iv v)
      release [v, ov, iv] [])) : PG X (.Subscript a b pos) (gLc Φ Cn X.K (.sub ca cb)) := by
  obtain ⟨ta, pa, fa⟩ := ha
  obtain ⟨tb, pb, fb⟩ := hb
  have pg := pg_sub (pos := pos) pa pb (set_put (Cn := Cn) (by have := g.un; omega)) ht
  refine ⟨fun pins s σ H v u Q I r ⟨Wb, Hb, W, S, Γ, d, Γ', S', g0, so, en, rr, e, q⟩ => pg.run pins s σ H v u Q I r ?_⟩
  rw [asgL] at e
  obtain ⟨x, S1, e1, e'⟩ := bindOk e
  clear e
  obtain ⟨y, S2, e2, e⟩ := bindOk e'
  clear e'
  rw [hno] at e
  exact fa so en e1 fun v1 W1 H1 g1 so1 b1 => fb so1 (en.mono g1) e2 fun v2 W2 H2 g2 so2 b2 => putS_ok g0 (g1.trans g2) en so2 (b1.mono g2) b2 (rr.mono (g1.trans g2).gw) e q
theorem lg_subO {j : Nat} {p2 : Pos} (g : GX Φ Cn k X) (hN : X.N[j]? = some x) (hv : Vis X.env.scope x) (hd : (x == ("__debug__" : Str)) = false) (hcd : (x == ("__classdict__" : Str)) = false) (hb : SEB Φ Cn X b cb) (ht : ∀ v, assign (.Subscript (.Name x p2) b pos) X.env v = (do
      let ov ← holding [v] (eval (.Name x p2) X.env)
      let iv ← holding [v, ov] (eval b X.env)
      standAt pos
      holding [v, ov, iv] (setItem ov iv v)
      release [v, ov, iv] [])) : PG X (.Subscript (.Name x p2) b pos) (gLc Φ Cn X.K (.sub (.bor j) cb)) := by
  obtain ⟨tb, pb, fb⟩ := hb
  have pg := pg_sub (pos := pos) (pe_var (pos := p2) hN hv hd hcd) pb (pset_or set_list (set_put (Cn := Cn) (by have := g.un; omega))) ht
  refine ⟨fun pins s σ H v u Q I r ⟨Wb, Hb, W, S, Γ, d, Γ', S', g0, so, en, rr, e, q⟩ => pg.run pins s σ H v u Q I r ?_⟩
  rw [asgL, evE] at e
  cases hj : Γ[j]? with
  | none => rw [hj] at e; cases e
  | some sl =>
    cases sl with
    | none => rw [hj] at e; cases e
    | some sl =>
      cases sl with
      | pure dj =>
        rw [hj] at e
        obtain ⟨w, h1, h2⟩ := en.pure j dj hj
        have hno : ownB (.bor j) Γ = none := by simp only [ownB, hj]
        obtain ⟨y, S2, e2, e'⟩ := bindOk (show (evE Φ cb Γ S).bind _ = _ from e)
        clear e
        rw [hno] at e'
        exact ⟨w, h1, fb so en e2 fun v2 W2 H2 g2 so2 b2 => .inr (putS_ok g0 g2 en so2 (.inl (h2.mono g2.gw)) b2 (rr.mono g2.gw) e' q)⟩
      | own xs =>
        rw [hj] at e
        obtain ⟨l, vs, h1, h2, h3, h4, h5, h6⟩ := en.own j xs hj
        have hno : ownB (.bor j) Γ = some (j, xs) := by simp only [ownB, hj]
        obtain ⟨y, S2, e2, e'⟩ := bindOk (show (evE Φ cb Γ S).bind _ = _ from e)
        clear e
        rw [hno] at e'
        dsimp only at e'
        split at e'
        · rename_i kx
          obtain ⟨e3, rfl⟩ := ofOk e'
          rw [Option.map_eq_some_iff] at e3
          obtain ⟨pp, hp, rfl⟩ := e3
          refine ⟨_, h1, fb so en e2 fun v2 W2 H2 g2 so2 b2 => .inl ?_⟩
          obtain rfl := b2.int
          obtain ⟨k1, k2, k3⟩ := g2.keepN h5 h3 h2
          refine ⟨l, vs, kx, pp, rfl, rfl, k1, by rw [h6.length]; exact hp, ?_⟩
          exact q σ W2 _ ⟨(g0.trans g2).own h4, g2.gs.own k1 (fun _ _ z => nomatch z), so2.own k3 k2, (en.mono g2).chg hj h1 ((h6.mono g2.gw).set (rr.mono g2.gw) pp)⟩
        · cases e'
theorem pg_fld {ta : TE} (po : PE X a ta) : PG X (.Attribute a f pos) (fun v σ H Q => ta σ H fun x H2 => ∃ (b C dx : Addr) (fs : List (Str × V)), x = .ref b ∧ H2 b = some (.ins C dx fs) ∧ Cls X.K C ∧ NoAttr X.K C f ∧ fs.length < 1000 ∧ Q σ (upd H2 b (.ins C dx (putF f v fs)))) := by
  refine ⟨fun pins s σ H v u Q I r h => ?_⟩
  rw [assign_Attribute]
  refine wpAny_bind (wpAny_holding (thn (po.run pins s σ H _ I h) fun ov s1 ⟨x, H1, I1, rx, b, C, dx, fs, ex, ea, c, n, l, q⟩ => ?_))
  subst ex
  cases rx
  refine wpAny_bind (wpAny_standAt (wpAny_bind (wpAny_holding (setattr_ok I1 ea c n l r fun s2 I2 => ?_))))
  exact wpAny_release ⟨σ, _, I2, q⟩
theorem lg_attr (g : GX Φ Cn k X) (ha : SE Φ Cn X a ca) : PG X (.Attribute a f pos) (gLc Φ Cn X.K (.attr ca f)) := by
  obtain ⟨ta, pa, fa⟩ := ha
  have pg := pg_fld (f := f) (pos := pos) pa
  refine ⟨fun pins s σ H v u Q I r ⟨Wb, Hb, W, S, Γ, d, Γ', S', g0, so, en, rr, e, q⟩ => pg.run pins s σ H v u Q I r ?_⟩
  rw [asgL] at e
  obtain ⟨x, S1, e1, e'⟩ := bindOk e
  clear e
  refine fa so en e1 fun v1 W1 H1 g1 so1 r1 => ?_
  unfold ofS at e'
  split at e'
  · rename_i S3 h3
    cases e'
    unfold fldD at h3
    split at h3
    · rename_i n c' fs hn
      split at h3
      · rename_i hfl
        cases h3
        obtain ⟨hfl, hlen⟩ := hfl
        obtain ⟨b, rfl, hb1, C, dx, fs', hC, hi, rf⟩ := Rep.at so1 hn r1
        obtain ⟨C', hC', cC, na⟩ := g.fl c' f hfl
        rw [hC] at hC'
        cases hC'
        refine ⟨b, C, dx, fs', rfl, hi, cC, na, by rw [rf.length]; omega, ?_⟩
        have gp := Gr.put (o := .ins C dx (putF f v fs')) so1 hb1 hi (fun _ _ z => nomatch z)
        exact q σ W1 _ (mk_now g0 (g1.trans gp) (so1.put hb1 ⟨C, dx, _, hC, upd_same, rf.put f (rr.mono g1.gw)⟩) en)
      · cases h3
    · cases h3
  · cases e'
theorem ss_asg {tg : Expr} {cl : CL} (he : SE Φ Cn X e ce) (hg : PG X tg (gLc Φ Cn X.K cl)) (hs : swapsWithSole [tg] e pos.line X.env = pure false) (hw : swappedStores [tg] e X.env = pure none) (h1 : (assignEach [tg] X.env).map (·.2) = [assign tg X.env]) : SS Φ Cn X (.Assign [tg] e pos) (.asg cl ce) := by
  obtain ⟨te, pe, fe⟩ := he
  refine ⟨_, ps_asg pe hg hs hw h1, fun {Wb Hb W S H σ Γ fl S' D} g0 so en ev q => ?_⟩
  rw [exS] at ev
  try replace ev := noXok ev
  obtain ⟨x, S1, e1, ev1⟩ := bindOk ev
  clear ev
  obtain ⟨Γ1, S2, e2, ev⟩ := bindOk ev1
  clear ev1
  cases ev
  exact fe so en e1 fun v W1 H1 g1 so1 r1 => ⟨Wb, Hb, W1, S1, Γ, x, Γ1, S', g0.trans g1, so1, en.mono g1, r1, e2, fun σ' W' H' n => q σ' W' H' (n.step g1.gs)⟩
theorem own_now {K : PySem.W.Frag} {Wb W W' : Wd} {Hb H H' : Hp} {Γ : Env} {σ : L2.St} {S' : Store} {i : Nat} {l : Addr} {vs : List V} {xs : List D} (g0 : Gr Wb Hb W H) (en : EnvOk K Hb W Γ σ H) (g1 : Gr W H W' H') (so1 : StOk K Cn W' S' H') (hl : H l = none) (hf : W'.Hf l = none) (hA : l ∉ W'.A) (hv : H' l = some (.lst vs)) (r : RepL K W' vs xs) :
    Now K Cn Wb Hb W H (Γ.set i (some (.own xs))) S' W' (σ.set i (some (.ref l))) H' :=
  ⟨g0.trans g1, g1.gs, so1, (en.mono g1).setO (en.fresh hl) hf hA (g0.dom l hl) hv r⟩
theorem ss_own {i : Nat} (gs : GS Φ Cn k X) (he : SEO Φ Cn X e ce) {p2 : Pos} (hi : X.N[i]? = some x) (hx : Loc X.env.scope x) (hs : swapsWithSole [.Name x p2] e pos.line X.env = pure false) (hw : swappedStores [.Name x p2] e X.env = pure none) : SS Φ Cn X (.Assign [.Name x p2] e pos) (.own i ce) := by
  obtain ⟨te, pe, fe⟩ := he
  refine ⟨_, ps_asg pe (pg_name (pos := p2) gs.nd hi hx (.inl (gs.fnT x))) hs hw rfl, fun {Wb Hb W S H σ Γ fl S' D} g0 so en ev q => ?_⟩
  rw [exS] at ev
  try replace ev := noXok ev
  obtain ⟨d, S1, e1, ev1⟩ := bindOk ev
  clear ev
  split at ev1
  · rename_i xs
    cases ev1
    exact fe so en e1 fun l vs W' H' g1 so1 hl hf hA hv r => q _ W' H' (own_now g0 en g1 so1 hl hf hA hv r)
  · cases ev1
theorem ss_lc {tg elt iter : Expr} {ifs : List Expr} {scope : Scope} {own : List (Str × Nat)} {ct : CT} {ci : CI} {c : Option CE} {ce : CE} {i : Nat} {py spos : Pos} (gs : GS Φ Cn k X) (hi : SI Φ Cn X tg iter ci) (ok : BlkOk X.N X.env.scope scope own) (hsl : ∀ i ∈ slT ct, i ∈ own.map (·.2))
    (hg : ∀ (s : Shared) (H : Hp) (C : Addr) (cl : List (Str × Addr)) (fp : List Addr), PG (X.blk s H scope (compEnvC scope cl C X.env) fp) tg (gC Cn X.K ct))
    (ht : ∀ (s : Shared) (H : Hp) (C : Addr) (cl : List (Str × Addr)) (fp : List Addr), SC Φ Cn (X.blk s H scope (compEnvC scope cl C X.env) fp) ifs c)
    (he : ∀ (s : Shared) (H : Hp) (C : Addr) (cl : List (Str × Addr)) (fp : List Addr), SE Φ Cn (X.blk s H scope (compEnvC scope cl C X.env) fp) elt ce)
    (hs : ∀ x, foldedSetIterable iter X.env x = pure x) (hy : X.N[i]? = some x) (hyl : X.env.scope.names.lookup x = some .local) (hl : (py.line == pos.line) = true) (hn : (scope.names.any fun (n, k) => n == x && (k == .local || k == .cell)) = false) :
    SS Φ Cn X (.Assign [.Name x py] (.ListComp elt [⟨tg, iter, ifs, 0⟩] scope pos) spos) (.own i (.lc (own.map (·.2)) ct ci c ce)) ∧
    SS Φ Cn X (.Assign [.Name x py] (.ListComp elt [⟨tg, iter, ifs, 0⟩] scope pos) spos) (.asg (.nm i) (.lc (own.map (·.2)) ct ci c ce)) := by
  obtain ⟨wi, pi, fl⟩ := seo_lc gs.toGX hi ok hsl hg ht he hs
  have ps := ps_setLc (i := i) (y := x) (py := py) (pos := pos) (spos := spos) (tt := tCd Φ Cn X.K c) (te := tE Φ Cn X.K ce) gs.calm gs.nd hy hyl (sw_true gs.kind hyl hl hn) pi ok hg (fun s H C cl fp => sc_pts (ht s H C cl fp)) (fun s H C cl fp => (he s H C cl fp).pe) hs
  constructor
  · refine ⟨_, ps, fun {Wb Hb W S H σ Γ fl' S' D} g0 so en ev q => ?_⟩
    rw [exS] at ev
    try replace ev := noXok ev
    obtain ⟨d, S1, e1, ev1⟩ := bindOk ev
    clear ev
    split at ev1
    · rename_i xs
      cases ev1
      exact fl so en e1 fun l vs W' H' g1 so1 hl hf hA hv r => q _ W' H' (own_now g0 en g1 so1 hl hf hA hv r)
    · cases ev1
  · refine ⟨_, ps, fun {Wb Hb W S H σ Γ fl' S' D} g0 so en ev q => ?_⟩
    rw [exS] at ev
    try replace ev := noXok ev
    obtain ⟨d, S1, e1, ev1⟩ := bindOk ev
    clear ev
    rw [asgL] at ev1
    cases ev1
    refine fl so en e1 (Res.out fun v W1 H1 g1 so1 r1 => ?_)
    exact q _ W1 H1 ⟨g0.trans g1, g1.gs, so1, (en.mono g1).setP r1⟩
end
end PL
set_option autoImplicit false
set_option linter.all false
set_option maxRecDepth 100000
set_option Elab.async false
namespace PL
open PySem PySem.Spec PyProof.Rows L2
section
variable {Φ : Fns} {Cn : Str → Option Addr} {X : Cx} {k : Nat} {e a b c : Expr} {ce ca cb cc : CE} {pos p : Pos} {es : List Expr} {cs : List CE} {x y z f m : Str}
def ownVs : List (Bool × Nat) → List V → List V
  | (true, _) :: ts, v :: vs => v :: ownVs ts vs
  | (false, _) :: ts, _ :: vs => ownVs ts vs
  | _, _ => []
inductive ParV (K : PySem.W.Frag) (Hb : Hp) (W : Wd) (H : Hp) : List (Bool × Nat) → List V → List D → Prop
  | nil : ParV K Hb W H [] [] []
  | pure {i : Nat} {v : V} {d : D} {ts : List (Bool × Nat)} {vs : List V} {ds : List D} : Rep K W v d → ParV K Hb W H ts vs ds → ParV K Hb W H ((false, i) :: ts) (v :: vs) (d :: ds)
  | own {i : Nat} {l : Addr} {ws : List V} {xs : List D} {ts : List (Bool × Nat)} {vs : List V} {ds : List D} : W.Hf l = none → l ∉ W.A → Hb l = none → H l = some (.lst ws) → RepL K W ws xs → V.ref l ∉ ownVs ts vs → ParV K Hb W H ts vs ds → ParV K Hb W H ((true, i) :: ts) (.ref l :: vs) (.list xs :: ds)
def setS : List (Bool × Nat) → List V → L2.St → L2.St
  | (_, i) :: ts, v :: vs, σ => setS ts vs (σ.set i (some v))
  | _, _, σ => σ
theorem par_ok {K : PySem.W.Frag} {Hb : Hp} {W : Wd} {H : Hp} {ts : List (Bool × Nat)} {vs : List V} {ds : List D} (pv : ParV K Hb W H ts vs ds) : ∀ {Γ Γ' : Env} {σ : L2.St}, setPar ts ds Γ = some Γ' → EnvOk K Hb W Γ σ H →
    (∀ (j : Nat) (ys : List D) (l : Addr), Γ[j]? = some (some (.own ys)) → σ[j]? = some (some (.ref l)) → V.ref l ∉ ownVs ts vs) → EnvOk K Hb W Γ' (setS ts vs σ) H := by
  induction pv with
  | nil =>
    intro Γ Γ' σ e en _
    rw [setPar] at e
    cases e
    exact en
  | pure r h ih =>
    intro Γ Γ' σ e en hn
    rw [setPar] at e
    refine ih e (en.setP r) fun j ys l hj hs => ?_
    rcases set_get hj with ⟨_, q⟩ | ⟨ij, q⟩
    · cases q
    · rw [List.getElem?_set_ne ij] at hs
      exact hn j ys l q hs
  | @own i l ws xs ts vs ds hf hA hb hv rr hd h ih =>
    intro Γ Γ' σ e en hn
    rw [setPar] at e
    refine ih e (en.setO (fun j ys hj hs => ?_) hf hA hb hv rr) fun j ys l' hj hs => ?_
    · exact hn j ys l hj hs List.mem_cons_self
    · rcases set_get hj with ⟨ij, q⟩ | ⟨ij, q⟩
      · subst ij
        rcases set_get hs with ⟨_, q2⟩ | ⟨q2, _⟩
        · cases q2; exact hd
        · exact (q2 rfl).elim
      · rw [List.getElem?_set_ne ij] at hs
        exact fun m => hn j ys l' q hs (List.mem_cons_of_mem _ m)
def SPar (Φ : Fns) (Cn : Str → Option Addr) (X : Cx) (ts : List (Bool × Nat)) (es : List Expr) (cs : List CE) : Prop := ∃ t : TA, PA X es t ∧ ∀ {Wb : Wd} {Hb : Hp} {W : Wd} {S : Store} {H : Hp} {σ : L2.St} {Γ : Env} {ds : List D} {S' : Store} {Γ0 Γ1 : Env} {Q : List V → Hp → Prop},
  Gr Wb Hb W H → StOk X.K Cn W S H → EnvOk X.K Hb W Γ σ H → evEs Φ cs Γ S = .ok ds S' → setPar ts ds Γ0 = some Γ1 → (∀ vs W' H', Gr W H W' H' → StOk X.K Cn W' S' H' → ParV X.K Hb W' H' ts vs ds → (∀ v ∈ ownVs ts vs, ∃ l, v = .ref l ∧ H l = none) → Q vs H') → t σ H Q
theorem spar_nil : SPar Φ Cn X [] [] [] := ⟨_, pa_nil, fun {Wb Hb W S H σ Γ ds S' Γ0 Γ1 Q} g0 so en ev sp q => by
  rw [evEs] at ev
  cases ev
  exact q [] W H (Gr.refl W H) so .nil (fun v hv => by simp [ownVs] at hv)⟩
theorem setPar_false {i : Nat} {ts : List (Bool × Nat)} {x : D} {xs : List D} {Γ : Env} : setPar ((false, i) :: ts) (x :: xs) Γ = setPar ts xs (Γ.set i (some (.pure x))) := by rw [setPar]
theorem spar_pure {i : Nat} {ts : List (Bool × Nat)} (ha : SE Φ Cn X a ca) (hr : SPar Φ Cn X ts es cs) (hs : notStar a = true) : SPar Φ Cn X ((false, i) :: ts) (a :: es) (ca :: cs) := by
  obtain ⟨ta, pa, fa⟩ := ha
  obtain ⟨tr, pr, fr⟩ := hr
  refine ⟨_, pa_cons pa pr (star_cons hs es X.env), fun {Wb Hb W S H σ Γ ds S' Γ0 Γ1 Q} g0 so en ev sp q => ?_⟩
  rw [evEs] at ev
  obtain ⟨x, S1, e1, ev1⟩ := bindOk ev
  clear ev
  obtain ⟨xs, S2, e2, ev⟩ := bindOk ev1
  clear ev1
  cases ev
  rw [setPar_false] at sp
  exact fa so en e1 fun v1 W1 H1 g1 so1 b1 => fr (g0.trans g1) so1 (en.mono g1) e2 sp fun vs W2 H2 g2 so2 b2 h2 => q (v1 :: vs) W2 H2 (g1.trans g2) so2 (.pure (b1.mono g2.gw) b2) fun v hv => by
    obtain ⟨l, e3, e4⟩ := h2 v hv
    exact ⟨l, e3, g1.dom l e4⟩
theorem spar_own {i : Nat} {ts : List (Bool × Nat)} (ha : SEO Φ Cn X a ca) (hr : SPar Φ Cn X ts es cs) (hs : notStar a = true) : SPar Φ Cn X ((true, i) :: ts) (a :: es) (ca :: cs) := by
  obtain ⟨ta, pa, fa⟩ := ha
  obtain ⟨tr, pr, fr⟩ := hr
  refine ⟨_, pa_cons pa pr (star_cons hs es X.env), fun {Wb Hb W S H σ Γ ds S' Γ0 Γ1 Q} g0 so en ev sp q => ?_⟩
  rw [evEs] at ev
  obtain ⟨x, S1, e1, ev1⟩ := bindOk ev
  clear ev
  obtain ⟨xs, S2, e2, ev⟩ := bindOk ev1
  clear ev1
  cases ev
  unfold setPar at sp
  split at sp
  · contradiction
  · rename_i h1 h2
    cases h1
  · rename_i ys _ h1 h2
    cases h1
    cases h2
    refine fa so en e1 fun l ws W1 H1 g1 so1 hl hf hA hv r => fr (g0.trans g1) so1 (en.mono g1) e2 sp fun vs W2 H2 g2 so2 b2 h2 => ?_
    obtain ⟨k1, k2, k3⟩ := g2.keepN hv hA hf
    refine q (.ref l :: vs) W2 H2 (g1.trans g2) so2 (.own k3 k2 (g0.dom l hl) k1 (r.mono g2.gw) (fun m => ?_) b2) fun v hv' => ?_
    · obtain ⟨l', e3, e4⟩ := h2 _ m
      cases e3
      exact some_ne hv e4
    · rcases List.mem_cons.mp hv' with e3 | e3
      · subst e3
        exact ⟨l, rfl, hl⟩
      · obtain ⟨l', e4, e5⟩ := h2 v e3
        exact ⟨l', e4, g1.dom l' e5⟩
  · cases sp
theorem par_now {K : PySem.W.Frag} {Wb W W' : Wd} {Hb H H' : Hp} {Γ Γ' : Env} {σ : L2.St} {S' : Store} {ts : List (Bool × Nat)} {vs : List V} {ds : List D} (g0 : Gr Wb Hb W H) (en : EnvOk K Hb W Γ σ H) (g1 : Gr W H W' H') (so1 : StOk K Cn W' S' H') (pv : ParV K Hb W' H' ts vs ds) (hn : ∀ v ∈ ownVs ts vs, ∃ l, v = .ref l ∧ H l = none) (sp : setPar ts ds Γ = some Γ') :
    Now K Cn Wb Hb W H Γ' S' W' (setS ts vs σ) H' :=
  ⟨g0.trans g1, g1.gs, so1, par_ok pv sp (en.mono g1) fun j ys l hj hs m => by
    obtain ⟨l', e1, e2⟩ := hn _ m
    cases e1
    exact en.fresh e2 j ys hj hs⟩
theorem ss_par2 {m1 m2 : Bool} {i j : Nat} {px py pt : Pos} {kt k2 : Nat} {pt2 : Pos} (gs : GS Φ Cn k X) (hi : X.N[i]? = some x) (hj : X.N[j]? = some y) (hij : i ≠ j) (hx : X.env.scope.names.lookup x = some .local) (hy : X.env.scope.names.lookup y = some .local)
    (ha : SPar Φ Cn X [(m1, i), (m2, j)] [a, b] [ca, cb]) (hw : swappedStores [.Tuple [.Name x px, .Name y py] kt pt] (.Tuple [a, b] k2 pt2) X.env = pure (some [x, y])) :
    SS Φ Cn X (.Assign [.Tuple [.Name x px, .Name y py] kt pt] (.Tuple [a, b] k2 pt2) pos) (.par [(m1, i), (m2, j)] [ca, cb]) := by
  obtain ⟨ta, pa, fa⟩ := ha
  refine ⟨_, ps_par gs.calm gs.nd hi hj hij hx hy pa hw rfl, fun {Wb Hb W S H σ Γ fl S' D} g0 so en ev q => ?_⟩
  rw [exS] at ev
  try replace ev := noXok ev
  obtain ⟨ds, S1, e1, ev1⟩ := bindOk ev
  clear ev
  obtain ⟨e2, rfl⟩ := ofOk ev1
  rw [Option.map_eq_some_iff] at e2
  obtain ⟨Γ1, e2, rfl⟩ := e2
  refine fa g0 so en e1 e2 fun vs W1 H1 g1 so1 pv hn => ?_
  have now := par_now g0 en g1 so1 pv hn e2
  have hl : ∃ v w, vs = [v, w] := by
    cases pv with
    | pure _ pv =>
      cases pv with
      | pure _ pv => cases pv; exact ⟨_, _, rfl⟩
      | own _ _ _ _ _ _ pv => cases pv; exact ⟨_, _, rfl⟩
    | own _ _ _ _ _ _ pv =>
      cases pv with
      | pure _ pv => cases pv; exact ⟨_, _, rfl⟩
      | own _ _ _ _ _ _ pv => cases pv; exact ⟨_, _, rfl⟩
  obtain ⟨v, w, rfl⟩ := hl
  exact ⟨v, w, rfl, q _ W1 H1 now⟩
theorem ss_par3 {m1 m2 m3 : Bool} {i j l : Nat} {px py pz pt : Pos} {kt k2 : Nat} {pt2 : Pos} (gs : GS Φ Cn k X) (hi : X.N[i]? = some x) (hj : X.N[j]? = some y) (hl : X.N[l]? = some z) (hij : i ≠ j) (hil : i ≠ l) (hjl : j ≠ l) (hx : X.env.scope.names.lookup x = some .local) (hy : X.env.scope.names.lookup y = some .local) (hz : X.env.scope.names.lookup z = some .local)
    (ha : SPar Φ Cn X [(m1, i), (m2, j), (m3, l)] [a, b, c] [ca, cb, cc]) (hw : swappedStores [.Tuple [.Name x px, .Name y py, .Name z pz] kt pt] (.Tuple [a, b, c] k2 pt2) X.env = pure (some [x, y, z])) :
    SS Φ Cn X (.Assign [.Tuple [.Name x px, .Name y py, .Name z pz] kt pt] (.Tuple [a, b, c] k2 pt2) pos) (.par [(m1, i), (m2, j), (m3, l)] [ca, cb, cc]) := by
  obtain ⟨ta, pa, fa⟩ := ha
  refine ⟨_, ps_par3 gs.calm gs.nd hi hj hl hij hil hjl hx hy hz pa hw rfl, fun {Wb Hb W S H σ Γ fl S' D} g0 so en ev q => ?_⟩
  rw [exS] at ev
  try replace ev := noXok ev
  obtain ⟨ds, S1, e1, ev1⟩ := bindOk ev
  clear ev
  obtain ⟨e2, rfl⟩ := ofOk ev1
  rw [Option.map_eq_some_iff] at e2
  obtain ⟨Γ1, e2, rfl⟩ := e2
  refine fa g0 so en e1 e2 fun vs W1 H1 g1 so1 pv hn => ?_
  have now := par_now g0 en g1 so1 pv hn e2
  have len : ∀ {ts : List (Bool × Nat)} {vs : List V} {ds : List PL.D}, ParV X.K Hb W1 H1 ts vs ds → vs.length = ts.length := fun {ts vs ds} h => by
    induction h with
    | nil => rfl
    | pure _ _ ih => rw [List.length_cons, List.length_cons, ih]
    | own _ _ _ _ _ _ _ ih => rw [List.length_cons, List.length_cons, ih]
  have h3 := len pv
  match vs, h3 with
  | [u, v, w], _ => exact ⟨u, v, w, rfl, q _ W1 H1 now⟩
def opA : BOp → Operator
  | .add => .Add
  | _ => .Sub
def isAug : BOp → Bool
  | .add => true
  | .sub => true
  | _ => false
def rAug (o : BOp) : V → V → Hp → VK → Prop := fun x y H Q => ∃ i j, x = .int i ∧ y = .int j ∧ Q (.int (augV o i j)) H
theorem in_aug {o : BOp} (h : isAug o = true) : InOp X (opA o) (rAug o) := by
  cases o with
  | add => exact in_add
  | sub => exact in_sub
  | _ => cases h
theorem ip_aug {o : BOp} (h : isAug o = true) : PIp X (opA o) (rAug o) := by
  cases o with
  | add => exact ip_add
  | sub => exact ip_sub
  | _ => cases h
theorem augI_of {o : BOp} {x y u : D} (h : augI o x y = some u) : ∃ i j, x = .int i ∧ y = .int j ∧ u = .int (augV o i j) := by
  unfold augI at h
  split at h
  · cases h; exact ⟨_, _, rfl, rfl, rfl⟩
  · cases h
theorem ss_aug {i : Nat} {o : BOp} {p2 : Pos} (gs : GS Φ Cn k X) (hi : X.N[i]? = some x) (hx : Loc X.env.scope x) (he : SEB Φ Cn X e ce) (ho : isAug o = true) : SS Φ Cn X (.AugAssign (.Name x p2) (opA o) e pos) (.aug i o ce) := by
  obtain ⟨te, pe, fe⟩ := he
  refine ⟨_, ps_aug gs.nd hi hx pe (ip_aug ho) (.inl (gs.fnT x)), fun {Wb Hb W S H σ Γ fl S' D} g0 so en ev q => ?_⟩
  rw [exS] at ev
  try replace ev := noXok ev
  split at ev
  · rename_i d hd
    obtain ⟨y, S1, e1, ev1⟩ := bindOk ev
    clear ev
    obtain ⟨e2, rfl⟩ := ofOk ev1
    rw [Option.map_eq_some_iff] at e2
    obtain ⟨u, e2, rfl⟩ := e2
    obtain ⟨i1, j1, rfl, rfl, rfl⟩ := augI_of e2
    obtain ⟨v, h1, h2⟩ := en.pure i _ hd
    cases h2
    refine ⟨_, h1, fe so en e1 fun v1 W1 H1 g1 so1 b1 => ?_⟩
    obtain rfl := b1.int
    exact ⟨i1, j1, rfl, rfl, q _ W1 H1 ⟨g0.trans g1, g1.gs, so1, (en.mono g1).setP (.int _)⟩⟩
  · cases ev
def rDG (K : PySem.W.Frag) (Cn : Str → Option Addr) : V → V → Hp → VK → Prop := fun x y H Q => ∃ W S d1 d2 d, StOk K Cn W S H ∧ BRep K W H x d1 ∧ BRep K W H y d2 ∧ (dicOf S d1).isSome = true ∧ getD S d1 d2 = some d ∧ ∀ v H', Gr W H W H' → StOk K Cn W S H' → Rep K W v d → Q v H'
theorem get_dic (hu : X.A.units + 1 < cLine) : PGet X (rDG X.K Cn) := by
  intro pins s σ H o i ov iv Q I ro ri h
  obtain ⟨W, S, d1, d2, d, so, b1, b2, hd, e, q⟩ := h
  obtain ⟨m, hm⟩ := Option.isSome_iff_exists.mp hd
  unfold getD at e
  rw [hm] at e
  dsimp only at e
  split at e
  · rename_i ok
    obtain ⟨a, n, H', rfl, hn, ho, I', so', g, f⟩ := fits I so b1 hm ok b2
    obtain ⟨o', hg, hf⟩ := f.get
    rw [e] at hf
    obtain ⟨w, rfl, hw⟩ := hf
    cases ro
    exact d_getItem hu I' hg ri fun w' s' I2 rw' => ⟨w, H', I2, rw', q w H' g so' hw⟩
  · cases e
theorem ss_augS {o : BOp} {tpos : Pos} (gs : GS Φ Cn k X) (ha : SEB Φ Cn X a ca) (hb : SEB Φ Cn X b cb) (he : SEB Φ Cn X e ce) (ho : isAug o = true) (ht : ∀ ov iv new, augStore b ov iv new = (do holding [new, ov, iv] (setItem ov iv new); release [new, ov, iv] []; pure .next)) :
    SS Φ Cn X (.AugAssign (.Subscript a b tpos) (opA o) e pos) (.augS ca cb o ce) := by
  obtain ⟨ta, pa, fa⟩ := ha
  obtain ⟨tb, pb, fb⟩ := hb
  obtain ⟨te, pe, fe⟩ := he
  have hu : X.A.units + 1 < cLine := by have := gs.un; omega
  refine ⟨_, ps_augS pa pb (get_dic (Cn := Cn) hu) pe (ip_aug ho) (set_put (Cn := Cn) hu) ht, fun {Wb Hb W S H σ Γ fl S' D} g0 so en ev q => ?_⟩
  rw [exS] at ev
  try replace ev := noXok ev
  obtain ⟨d1, S1, e1, ev1⟩ := bindOk ev
  clear ev
  obtain ⟨d2, S2, e2, ev⟩ := bindOk ev1
  clear ev1
  split at ev
  · rename_i z hz
    split at hz
    · rename_i hdic
      obtain ⟨v, S3, e3, ev1⟩ := bindOk ev
      clear ev
      split at ev1
      · rename_i u hu'
        unfold ofS at ev1
        split at ev1
        · rename_i S4 h4
          cases ev1
          obtain ⟨i1, j1, rfl, rfl, rfl⟩ := augI_of hu'
          refine fa so en e1 fun v1 W1 H1 g1 so1 b1 => fb so1 (en.mono g1) e2 fun v2 W2 H2 g2 so2 b2 => ⟨W2, S2, d1, d2, _, so2, b1.mono g2, b2, hdic, hz, fun v3 H3 g3 so3 r3 => ?_⟩
          have g123 := (g1.trans g2).trans g3
          cases r3
          refine fe so3 (en.mono g123) e3 fun v4 W4 H4 g4 so4 b4 => ?_
          obtain rfl := b4.int
          exact ⟨i1, j1, rfl, rfl, W4, S3, d1, d2, _, S', so4, b1.mono ((g2.trans g3).trans g4), b2.mono (g3.trans g4), .int _, h4, fun H5 g5 so5 => q σ W4 H5 (mk_now g0 ((g123.trans g4).trans g5) so5 en)⟩
        · cases ev1
      · cases ev1
    · cases hz
  · cases ev
theorem ss_augA {o : BOp} {tpos : Pos} (gs : GS Φ Cn k X) (ha : SE Φ Cn X a ca) (he : SEB Φ Cn X e ce) (ho : isAug o = true) : SS Φ Cn X (.AugAssign (.Attribute a f tpos) (opA o) e pos) (.augA ca f o ce) := by
  obtain ⟨ta, pa, fa⟩ := ha
  obtain ⟨te, pe, fe⟩ := he
  refine ⟨_, ps_fldaug pa pe (in_aug ho), fun {Wb Hb W S H σ Γ fl S' D} g0 so en ev q => ?_⟩
  rw [exS] at ev
  try replace ev := noXok ev
  obtain ⟨x, S1, e1, ev1⟩ := bindOk ev
  clear ev
  split at ev1
  · rename_i n c' fs hn
    split at ev1
    · rename_i z hz
      split at hz
      · rename_i hfl
        obtain ⟨v, S2, e2, ev⟩ := bindOk ev1
        clear ev1
        split at ev
        · rename_i u hu
          obtain ⟨i1, j1, rfl, rfl, rfl⟩ := augI_of hu
          split at ev
          · rename_i hsame
            unfold ofS at ev
            split at ev
            · rename_i S3 h3
              cases ev
              refine fa so en e1 fun v1 W1 H1 g1 so1 r1 => ?_
              obtain ⟨b, rfl, hb1, C, dx, fs', hC, hi, rf⟩ := Rep.at so1 hn r1
              obtain ⟨C', hC', cC, na⟩ := gs.fl c' f hfl
              rw [hC] at hC'
              cases hC'
              have hlk := rf.look f
              rw [hz] at hlk
              obtain ⟨w, h1, h2⟩ := hlk
              cases h2
              refine ⟨b, C, dx, fs', _, rfl, hi, cC, na, h1, fe so1 (en.mono g1) e2 fun v2 W2 H2 g2 so2 b2 => ?_⟩
              obtain rfl := b2.int
              refine ⟨i1, j1, rfl, rfl, ?_⟩
              unfold fldD at h3
              split at h3
              · rename_i n2 c2 fs2 hn2
                split at h3
                · rename_i hh
                  cases h3
                  obtain ⟨b', eb, hb2, C2, dx2, fs2', hC2, hi2, rf2⟩ := Rep.at so2 hn2 (r1.mono g2.gw)
                  cases eb
                  obtain ⟨C3, hC3, cC3, na3⟩ := gs.fl c2 f hh.1
                  rw [hC2] at hC3
                  cases hC3
                  have ec : c2 = c' := by
                    unfold clsOf at hsame
                    rw [hn2] at hsame
                    exact Option.some.inj hsame
                  subst ec
                  rw [hC] at hC2
                  cases hC2
                  refine ⟨dx2, fs2', hi2, by rw [rf2.length]; omega, ?_⟩
                  have gp := Gr.put (o := .ins C dx2 (putF f (.int (augV o i1 j1)) fs2')) so2 hb2 hi2 (fun _ _ z => nomatch z)
                  exact q σ W2 _ (mk_now g0 ((g1.trans g2).trans gp) (so2.put hb2 ⟨C, dx2, _, hC, upd_same, rf2.put f (.int _)⟩) en)
                · cases h3
              · cases h3
            · cases ev
          · cases ev
        · cases ev
      · cases hz
    · cases ev1
  · cases ev1
theorem ss_drop (he : SE Φ Cn X e ce) (hs : swapsWith e none pos.line X.env = pure false) : SS Φ Cn X (.Expr e pos) (.drop ce) := by
  obtain ⟨te, pe, fe⟩ := he
  refine ⟨_, ps_expr pe hs, fun {Wb Hb W S H σ Γ fl S' D} g0 so en ev q => ?_⟩
  rw [exS] at ev
  try replace ev := noXok ev
  obtain ⟨x, S1, e1, ev1⟩ := bindOk ev
  clear ev
  cases ev1
  exact fe so en e1 fun v W1 H1 g1 so1 r1 => q σ W1 H1 (mk_now g0 g1 so1 en)
theorem ss_ret (he : SE Φ Cn X e ce) : SS Φ Cn X (.Return (some e) pos) (.ret ce) := by
  obtain ⟨te, pe, fe⟩ := he
  refine ⟨_, ps_ret pe, fun {Wb Hb W S H σ Γ fl S' D} g0 so en ev q => ?_⟩
  rw [exS] at ev
  try replace ev := noXok ev
  obtain ⟨x, S1, e1, ev1⟩ := bindOk ev
  clear ev
  cases ev1
  exact fe so en e1 fun v W1 H1 g1 so1 r1 => q v W1 H1 (g0.trans g1) g1.gs so1 r1
theorem ss_retN : SS Φ Cn X (.Return none pos) .retN := by
  refine ⟨_, ps_retN, fun {Wb Hb W S H σ Γ fl S' D} g0 so en ev q => ?_⟩
  rw [exS] at ev
  try replace ev := noXok ev
  cases ev
  exact q .non W H g0 (Gs.refl W H) so .non
theorem ss_pass : SS Φ Cn X (.Pass pos) .pass := by
  refine ⟨_, ps_pass, fun {Wb Hb W S H σ Γ fl S' D} g0 so en ev q => ?_⟩
  rw [exS] at ev
  try replace ev := noXok ev
  cases ev
  exact q σ W H ⟨g0, Gs.refl W H, so, en⟩
theorem ss_brk : SS Φ Cn X (.Break pos) .brk := by
  refine ⟨_, ps_break, fun {Wb Hb W S H σ Γ fl S' D} g0 so en ev q => ?_⟩
  rw [exS] at ev
  try replace ev := noXok ev
  cases ev
  exact q σ W H ⟨g0, Gs.refl W H, so, en⟩
theorem ss_cont : SS Φ Cn X (.Continue pos) .cont := by
  refine ⟨_, ps_continue, fun {Wb Hb W S H σ Γ fl S' D} g0 so en ev q => ?_⟩
  rw [exS] at ev
  try replace ev := noXok ev
  cases ev
  exact q σ W H ⟨g0, Gs.refl W H, so, en⟩
theorem sss_nil : SSs Φ Cn X [] [] := by
  refine ⟨_, pss_nil, fun {Wb Hb W S H σ Γ fl S' D} g0 so en ev q => ?_⟩
  rw [exSs] at ev
  cases ev
  exact q σ W H ⟨g0, Gs.refl W H, so, en⟩
theorem sss_cons {st : Stmt} {sts : List Stmt} {c : CS} {cs : List CS} (h : SS Φ Cn X st c) (hr : SSs Φ Cn X sts cs) : SSs Φ Cn X (st :: sts) (c :: cs) := by
  obtain ⟨t, p, f⟩ := h
  obtain ⟨u, pr, fr⟩ := hr
  refine ⟨_, pss_cons p pr, fun {Wb Hb W S H σ Γ fl S' D} g0 so en ev q => ?_⟩
  rw [exSs] at ev
  obtain ⟨f1, S1, e1, ev1⟩ := bindOk ev
  clear ev
  refine f (D := { D with nx := u D }) g0 so en e1 ?_
  cases f1 with
  | nx Γ1 => exact fun σ' W' H' n => fr n.gr n.so n.en ev1 (q.shift n.gs)
  | ret d => cases ev1; exact q
  | brk Γ1 => cases ev1; exact q
  | ct Γ1 => cases ev1; exact q
theorem sss_frz {sts : List Stmt} {cs : List CS} {i : Nat} (hr : SSs Φ Cn X sts cs) : SSs Φ Cn X sts (.frz i :: cs) := by
  obtain ⟨u, pr, fr⟩ := hr
  refine ⟨u, pr, fun {Wb Hb W S H σ Γ fl S' D} g0 so en ev q => ?_⟩
  rw [exSs] at ev
  obtain ⟨f1, S1, e1, ev1⟩ := bindOk ev
  clear ev
  rw [exS] at e1
  split at e1
  · rename_i xs hi
    cases e1
    obtain ⟨l, vs, h1, h2, h3, h4, h5, h6⟩ := en.own i xs hi
    have gs : Gs W H (W.fz l (.lst vs)) H := ⟨Gw.fz' h2, fun _ _ _ h => h⟩
    exact fr (g0.frzO h4 h2) (so.fz' h5 h3 h2) (en.frzO hi h1 h2 h5 h6) ev1 (q.shift gs)
  · cases e1
    exact fr g0 so en ev1 q
theorem ss_ite {sa sb : List Stmt} {ka kb : List CS} (hc : ST Φ Cn X c cc) (ha : SSs Φ Cn X sa ka) (hb : SSs Φ Cn X sb kb) : SS Φ Cn X (.If c sa sb pos) (.ite cc ka kb) := by
  obtain ⟨tc, pc, fc⟩ := hc
  obtain ⟨ta, pa, fa⟩ := ha
  obtain ⟨tb, pb, fb⟩ := hb
  refine ⟨_, ps_if pc pa pb, fun {Wb Hb W S H σ Γ fl S' D} g0 so en ev q => ?_⟩
  rw [exS] at ev
  try replace ev := noXok ev
  obtain ⟨x, S1, e1, ev1⟩ := bindOk ev
  replace e1 := noXok e1
  clear ev
  obtain ⟨t, S2, e2, ev⟩ := bindOk ev1
  clear ev1
  obtain ⟨e2, rfl⟩ := truOk e2
  refine fc so en e1 e2 fun W1 H1 g1 so1 => ?_
  cases t with
  | true =>
    rw [if_pos rfl] at ev ⊢
    exact fa (g0.trans g1) so1 (en.mono g1) ev (q.shift g1.gs)
  | false =>
    rw [if_neg Bool.false_ne_true] at ev ⊢
    exact fb (g0.trans g1) so1 (en.mono g1) ev (q.shift g1.gs)
theorem ss_while {body : List Stmt} {kb : List CS} (gs : GS Φ Cn k X) (hc : ST Φ Cn X c cc) (hb : SSs Φ Cn X body kb) : SS Φ Cn X (.While c body [] pos) (.while_ cc kb) := by
  obtain ⟨tc, pc, fc⟩ := hc
  obtain ⟨tb, pb, fb⟩ := hb
  refine ⟨_, ps_while gs.hp pc pb, fun {Wb Hb W S H σ Γ fl S' D} g0 so en ev q => ?_⟩
  rw [exS] at ev
  try replace ev := noXok ev
  refine ⟨fun m σ1 H1 => ∃ W1 S1 Γ1, Gr Wb Hb W1 H1 ∧ Gs W H W1 H1 ∧ StOk X.K Cn W1 S1 H1 ∧ EnvOk X.K Hb W1 Γ1 σ1 H1 ∧ whileLoop (fun Γ S => noX ((evE Φ cc Γ S).bind fun x S1 => truR S1 x)) (fun Γ S => exSs Φ kb Γ S) m Γ1 S1 = .ok fl S', ⟨FUEL, W, S, Γ, g0, Gs.refl W H, so, en, ev⟩, ?_⟩
  rintro m σ1 H1 ⟨W1, S1, Γ1, g1, s1, so1, en1, ev1⟩
  cases m with
  | zero => rw [whileLoop] at ev1; cases ev1
  | succ m =>
    rw [whileLoop] at ev1
    obtain ⟨t, S2, e2, ev2⟩ := bindOk ev1
    clear ev1
    obtain ⟨x, S3, e3, e4⟩ := bindOk (noXok e2)
    obtain ⟨e4, rfl⟩ := truOk e4
    refine fc so1 en1 e3 e4 fun W2 H2 g2 so2 => ?_
    cases t with
    | false =>
      rw [if_neg Bool.false_ne_true] at ev2 ⊢
      cases ev2
      exact q σ1 W2 H2 ⟨g1.trans g2, s1.trans g2.gs, so2, en1.mono g2⟩
    | true =>
      rw [if_pos rfl] at ev2 ⊢
      obtain ⟨f1, S4, e5, ev3⟩ := bindOk ev2
      clear ev2
      refine ⟨fun σ' H' => ∃ W3 S5 Γ3, Gr Wb Hb W3 H' ∧ Gs W H W3 H' ∧ StOk X.K Cn W3 S5 H' ∧ EnvOk X.K Hb W3 Γ3 σ' H' ∧ whileLoop (fun Γ S => noX ((evE Φ cc Γ S).bind fun x S1 => truR S1 x)) (fun Γ S => exSs Φ kb Γ S) m Γ3 S5 = .ok fl S', fun σ' H' h => ⟨m, Nat.lt_succ_self m, h⟩, ?_⟩
      refine fb (g1.trans g2) so2 (en1.mono g2) e5 ?_
      have s2 := s1.trans g2.gs
      cases f1 with
      | nx Γ3 => exact fun σ' W' H' n => ⟨W', S4, Γ3, n.gr, s2.trans n.gs, n.so, n.en, ev3⟩
      | ct Γ3 => exact fun σ' W' H' n => ⟨W', S4, Γ3, n.gr, s2.trans n.gs, n.so, n.en, ev3⟩
      | brk Γ3 =>
        cases ev3
        exact fun σ' W' H' n => q σ' W' H' (n.step s2)
      | ret d =>
        cases ev3
        exact fun v W' H' a b c r => q v W' H' a (s2.trans b) c r
theorem ss_for {tg iter : Expr} {body : List Stmt} {ct : CT} {ci : CI} {kb : List CS} (gs : GS Φ Cn k X) (hi : SI Φ Cn X tg iter ci) (hg : PG X tg (gC Cn X.K ct)) (hb : SSs Φ Cn X body kb) (hs : ∀ x, foldedSetIterable iter X.env x = pure x) : SS Φ Cn X (.For tg iter body [] pos) (.for_ ct ci kb) := by
  obtain ⟨wi, pi, fi⟩ := hi
  obtain ⟨tb, pb, fb⟩ := hb
  refine ⟨_, ps_for gs.hp gs.calm pi hg pb hs, fun {Wb Hb W S H σ Γ fl S' D} g0 so en ev q => ?_⟩
  rw [exS] at ev
  try replace ev := noXok ev
  obtain ⟨⟨xs, g0'⟩, S1, e1, ev1⟩ := bindOk ev
  replace e1 := noXok e1
  clear ev
  refine fi so en e1 fun J W1 H1 G Y g1 so1 wk => ?_
  refine for_it wk.w (fun i σ' H' => ∃ W2 S2 Γ2, Gr Wb Hb W2 H' ∧ Gs W1 H1 W2 H' ∧ StOk X.K Cn W2 S2 H' ∧ EnvOk X.K Hb W2 Γ2 σ' H' ∧ forLoop g0' (fun x Γ S => match asgT ct x Γ with
    | some Γ' => exSs Φ kb Γ' S
    | none => .no) (xs.drop i) Γ2 S2 = .ok fl S') ?_ ?_ ?_ ?_
  · exact ⟨W1, S1, Γ, g0.trans g1, Gs.refl W1 H1, so1, en.mono g1, by rw [List.drop_zero]; exact ev1⟩
  · rintro i σ' H' _ ⟨W2, S2, Γ2, h1, h2, h3, h4, h5⟩
    refine wk.g W2 S2 H' h2 h3 ?_
    have h5' := h5
    generalize xs.drop i = zs at h5'
    cases zs with
    | nil => rw [forLoop] at h5'; exact (onOk h5').1
    | cons z zs => rw [forLoop] at h5'; exact (onOk h5').1
  · rintro i x σ' H' H'' hin ⟨W2, S2, Γ2, h1, h2, h3, h4, h5⟩ hy
    have hl0 : i < xs.length := hin
    rw [List.drop_eq_getElem_cons hl0, forLoop] at h5
    obtain ⟨c0, h6⟩ := onOk h5
    clear h5
    obtain ⟨W3, gy, so3, d, hd, rd⟩ := wk.y i x W2 S2 H' H'' hin h2 h3 c0 hy
    obtain ⟨hl, hd'⟩ := List.getElem?_eq_some_iff.mp hd
    rw [hd'] at h6
    obtain ⟨f1, S3, e3, ev2⟩ := bindOk h6
    clear h6
    split at e3
    · rename_i Γ' hΓ
      refine ⟨W3, S2, Γ2, Hb, d, Γ', so3, h4.mono gy, rd, hΓ, fun σ2 en2 _ _ => ?_⟩
      refine fb (h1.trans gy) so3 en2 e3 ?_
      have s2 := h2.trans gy.gs
      have s3 := g1.gs.trans s2
      cases f1 with
      | nx Γ3 => exact fun σ' W' H' n => ⟨W', S3, Γ3, n.gr, s2.trans n.gs, n.so, n.en, ev2⟩
      | ct Γ3 => exact fun σ' W' H' n => ⟨W', S3, Γ3, n.gr, s2.trans n.gs, n.so, n.en, ev2⟩
      | brk Γ3 =>
        cases ev2
        exact fun σ' W' H' n => q σ' W' H' (n.step s3)
      | ret d =>
        cases ev2
        exact fun v W' H' a b c r => q v W' H' a (s3.trans b) c r
    · cases e3
  · rintro σ' H' ⟨W2, S2, Γ2, h1, h2, h3, h4, h5⟩
    rw [List.drop_length, forLoop] at h5
    obtain ⟨_, h5⟩ := onOk h5
    cases h5
    exact q σ' W2 H' ⟨h1, g1.gs.trans h2, h3, h4⟩
inductive Tail
  | one
  | all
def tlName : Tail → Str
  | .one => "append"
  | .all => "extend"
def tlId : Tail → String
  | .one => "list.append"
  | .all => "list.extend"
def rTl : Tail → V → List V → Hp → VK → Prop
  | .one => rAppend
  | .all => rExtend
theorem mt_tl (t : Tail) : MtR X (tlId t) (rTl t) := by
  cases t with
  | one => exact mt_append
  | all => exact mt_extend
def TlV (K : PySem.W.Frag) (Cn : Str → Option Addr) (t : Tail) (W : Wd) (S : Store) (H : Hp) (v : V) (y : D) (ds : List D) : Prop := match t with
  | .one => Rep K W v y ∧ ds = [y]
  | .all => BRep K W H v y ∧ lstOf S y = some ds
theorem tl_put {K : PySem.W.Frag} {t : Tail} {W : Wd} {S : Store} {H : Hp} {v : V} {y : D} {ds : List D} {l : Addr} {vs : List V} {xs : List D} {Q : VK} (so : StOk K Cn W S H) (hl : H l = some (.lst vs)) (r : RepL K W vs xs) (h : TlV K Cn t W S H v y ds) (hlen : xs.length + ds.length ≤ 1000000)
    (q : ∀ ws, RepL K W ws (xs ++ ds) → Q .non (upd H l (.lst ws))) : rTl t (.ref l) [v] H Q := by
  cases t with
  | one =>
    obtain ⟨h1, rfl⟩ := h
    exact ⟨l, vs, v, rfl, rfl, hl, by rw [r.length]; exact line_lt (by rw [List.length_singleton] at hlen; omega), q _ (r.append (.cons h1 .nil))⟩
  | all =>
    obtain ⟨h1, h2⟩ := h
    obtain ⟨b, zs, rfl, hb, rz⟩ := lstOf_rep so h1 h2
    exact ⟨l, b, vs, zs, rfl, rfl, hl, hb, by rw [r.length, rz.length]; exact line_le hlen, q _ (r.append rz)⟩
theorem pe_tl {to te : TE} {apos : Pos} (t : Tail) (po : PE X a to) (pe : PE X e te) (hbase : plainBase a = true) (hs : notStar e = true) (hline : (apos.endLine == p.line) = true) : PE X (.Call (.Attribute a (tlName t) apos) [e] [] p) (tBM X.K "list" (rTl t) to (tCons te tNil)) := by
  have hs' := star_cons hs [] X.env
  cases t with
  | one => exact pe_bm PySem.F.plainAttrs_list PySem.F.slot_list_append PySem.F.type_list_append (mt_tl .one) po (pa_cons pe pa_nil hs') (base_ok hbase _ _ _) (few_ok (es := [e]) (by rw [List.all_cons, hs]; rfl) (show 1 < 30 by decide)) hline hs' rfl
  | all => exact pe_bm PySem.F.plainAttrs_list PySem.F.slot_list_extend PySem.F.type_list_extend (mt_tl .all) po (pa_cons pe pa_nil hs') (base_ok hbase _ _ _) (few_ok (es := [e]) (by rw [List.all_cons, hs]; rfl) (show 1 < 30 by decide)) hline hs' rfl
def tlS : Tail → CE → CE → CS
  | .one, a, e => .app a e
  | .all, a, e => .ext a e
def TlD (t : Tail) (S : Store) (y : D) (ds : List D) : Prop := match t with
  | .one => ds = [y]
  | .all => lstOf S y = some ds
theorem tl_ev {t : Tail} {Γ : Env} {S : Store} {fl : Fl} {S' : Store} (ev : exS Φ (tlS t ca ce) Γ S = .ok fl S') : ∃ x S1 y S2 ds Γ1 xs, evE Φ ca Γ S = .ok x S1 ∧ lstOf S1 x = some xs ∧ evE Φ ce Γ S1 = .ok y S2 ∧ TlD t S2 y ds ∧ appD ca x ds Γ S2 = .ok Γ1 S' ∧ fl = .nx Γ1 := by
  cases t with
  | one =>
    rw [tlS, exS] at ev
    try replace ev := noXok ev
    obtain ⟨x, S1, e1, ev1⟩ := bindOk ev
    clear ev
    split at ev1
    · rename_i hh
      obtain ⟨xs, hx⟩ := Option.isSome_iff_exists.mp hh
      obtain ⟨y, S2, e2, ev⟩ := bindOk ev1
      clear ev1
      obtain ⟨Γ1, S3, e3, ev1⟩ := bindOk ev
      clear ev
      cases ev1
      exact ⟨x, S1, y, S2, [y], Γ1, xs, e1, hx, e2, rfl, e3, rfl⟩
    · cases ev1
  | all =>
    rw [tlS, exS] at ev
    try replace ev := noXok ev
    obtain ⟨x, S1, e1, ev1⟩ := bindOk ev
    clear ev
    split at ev1
    · rename_i hh
      obtain ⟨xs, hx⟩ := Option.isSome_iff_exists.mp hh
      obtain ⟨y, S2, e2, ev⟩ := bindOk ev1
      clear ev1
      split at ev
      · rename_i ds hd
        obtain ⟨Γ1, S3, e3, ev1⟩ := bindOk ev
        clear ev
        cases ev1
        exact ⟨x, S1, y, S2, ds, Γ1, xs, e1, hx, e2, hd, e3, rfl⟩
      · cases ev
    · cases ev1
def SEt (t : Tail) (Φ : Fns) (Cn : Str → Option Addr) (X : Cx) (e : Expr) (c : CE) : Prop := match t with
  | .one => SE Φ Cn X e c
  | .all => SEB Φ Cn X e c
theorem set_pe {t : Tail} (h : SEt t Φ Cn X e ce) : ∃ te, PE X e te ∧ ∀ {W : Wd} {S : Store} {H : Hp} {σ : L2.St} {Γ : Env} {Hb : Hp} {d : D} {ds : List D} {S' : Store} {Q : VK}, StOk X.K Cn W S H → EnvOk X.K Hb W Γ σ H → evE Φ ce Γ S = .ok d S' → TlD t S' d ds → (∀ v W' H', Gr W H W' H' → StOk X.K Cn W' S' H' → TlV X.K Cn t W' S' H' v d ds → Q v H') → te σ H Q := by
  cases t with
  | one =>
    obtain ⟨te, pe, fe⟩ := h
    exact ⟨te, pe, fun so en ev hd q => fe so en ev fun v W' H' g s r => q v W' H' g s ⟨r, hd⟩⟩
  | all =>
    obtain ⟨te, pe, fe⟩ := h
    exact ⟨te, pe, fun so en ev hd q => fe so en ev fun v W' H' g s r => q v W' H' g s ⟨r, hd⟩⟩
theorem store_tl {K : PySem.W.Frag} {t : Tail} {Wb W W2 : Wd} {Hb H H2 : Hp} {S2 S' : Store} {Γ Γ1 : Env} {σ : L2.St} {v1 v2 : V} {x y : D} {ds : List D} {D0 : Ends} (g0 : Gr Wb Hb W H) (g2 : Gr W H W2 H2) (en : EnvOk K Hb W Γ σ H) (so2 : StOk K Cn W2 S2 H2) (r1 : Rep K W2 v1 x) (h : TlV K Cn t W2 S2 H2 v2 y ds)
    (e : (match objN S2 x with
      | some (n, .lst xs) => if xs.length + ds.length ≤ 1000000 then R.ok Γ (S2.set n (.lst (xs ++ ds))) else .no
      | _ => .no) = .ok Γ1 S') (q : EndOk K Cn Wb Hb W H S' (.nx Γ1) D0) : rTl t v1 [v2] H2 (fun _ H3 => D0.nx σ H3) := by
  split at e
  · rename_i n xs hn
    split at e
    · rename_i hlen
      cases e
      obtain ⟨b, rfl, hb, vs, h1, h2⟩ := Rep.at so2 hn r1
      exact tl_put so2 h1 h2 h hlen fun ws rw' => q σ W2 _ (mk_now g0 (g2.trans (Gr.put so2 hb h1 (fun _ _ z => nomatch z))) (so2.put hb ⟨ws, upd_same, rw'⟩) en)
    · cases e
  · cases e
theorem ss_tl {apos : Pos} (t : Tail) (ha : SE Φ Cn X a ca) (he : SEt t Φ Cn X e ce) (hno : ∀ Γ, ownB ca Γ = none) (hbase : plainBase a = true) (hs : notStar e = true) (hline : (apos.endLine == p.line) = true) : SS Φ Cn X (.Expr (.Call (.Attribute a (tlName t) apos) [e] [] p) pos) (tlS t ca ce) := by
  obtain ⟨ta, pa, fa⟩ := ha
  obtain ⟨te, pe, fe⟩ := set_pe he
  refine ⟨_, ps_expr (pe_tl t pa pe hbase hs hline) rfl, fun {Wb Hb W S H σ Γ fl S' D} g0 so en ev q => ?_⟩
  obtain ⟨x, S1, y, S2, ds, Γ1, xs, e1, hx, e2, hd, e3, rfl⟩ := tl_ev ev
  unfold appD at e3
  rw [hno] at e3
  exact fa so en e1 fun v1 W1 H1 g1 so1 r1 => ⟨list_ty so1 (.inl r1) hx, fe so1 (en.mono g1) e2 hd fun v2 W2 H2 g2 so2 h2 => store_tl g0 (g1.trans g2) en so2 (r1.mono g2.gw) h2 e3 q⟩
theorem ss_tlO {apos : Pos} {j : Nat} {p2 : Pos} (t : Tail) (hN : X.N[j]? = some x) (hv : Vis X.env.scope x) (hdb : (x == ("__debug__" : Str)) = false) (hcd : (x == ("__classdict__" : Str)) = false) (he : SEt t Φ Cn X e ce) (hs : notStar e = true) (hline : (apos.endLine == p.line) = true) :
    SS Φ Cn X (.Expr (.Call (.Attribute (.Name x p2) (tlName t) apos) [e] [] p) pos) (tlS t (.bor j) ce) := by
  obtain ⟨te, pe, fe⟩ := set_pe he
  refine ⟨_, ps_expr (pe_tl t (pe_var (pos := p2) hN hv hdb hcd) pe rfl hs hline) rfl, fun {Wb Hb W S H σ Γ fl S' D} g0 so en ev q => ?_⟩
  obtain ⟨x1, S1, y, S2, ds, Γ1, xs, e1, hx, e2, hd, e3, rfl⟩ := tl_ev ev
  rw [evE] at e1
  split at e1
  · rename_i dj hj
    cases e1
    obtain ⟨w, h1, h2⟩ := en.pure j _ hj
    have hno : ownB (.bor j) Γ = none := by simp only [ownB, hj]
    unfold appD at e3
    rw [hno] at e3
    exact ⟨w, h1, list_ty so (.inl h2) hx, fe so en e2 hd fun v2 W2 H2 g2 so2 h3 => store_tl g0 g2 en so2 (h2.mono g2.gw) h3 e3 q⟩
  · rename_i zs hj
    cases e1
    obtain ⟨l, vs, h1, h2, h3, h4, h5, h6⟩ := en.own j zs hj
    have hno : ownB (.bor j) Γ = some (j, zs) := by simp only [ownB, hj]
    unfold appD at e3
    rw [hno] at e3
    dsimp only at e3
    split at e3
    · rename_i hlen
      cases e3
      refine ⟨_, h1, .inl ⟨rfl, vs, SqL.of h5⟩, fe so en e2 hd fun v2 W2 H2 g2 so2 hv2 => ?_⟩
      obtain ⟨k1, k2, k3⟩ := g2.keepN h5 h3 h2
      exact tl_put so2 k1 (h6.mono g2.gw) hv2 hlen fun ws rw' => q σ W2 _ ⟨(g0.trans g2).own h4, g2.gs.own k1 (fun _ _ z => nomatch z), so2.own k3 k2, (en.mono g2).chg hj h1 rw'⟩
    · cases e3
  · cases e1
theorem toK {K : PySem.W.Frag} {pins : List (Addr × Obj)} {σ : L2.St} {s : Shared} {W : Wd} {S : Store} {H : Hp} {v : V} {d : D} {m : List (D × D)} (I : Inv X pins σ H s) (so : StOk X.K Cn W S H) (b : BRep X.K W H v d) (e : dicOf S d = some m) (hm : (m.all fun p => keyT p.1 == false) = true) :
    ∃ (a : Addr) (n : Nat) (H' : Hp) (kvs : List (Key × V)), v = .ref a ∧ W.A[n]? = some a ∧ objN S d = some (n, .dic m) ∧ Inv X pins σ H' s ∧ StOk X.K Cn W S H' ∧ Gr W H W H' ∧ H' a = some (.dK kvs) ∧ DRep X.K W kD kvs m ∧ ∀ c, c ≠ a → H' c = H c := by
  obtain ⟨a, n, e1, hn, ho, hd⟩ := dicOf_rep so b e
  rcases hd with ⟨kvs, h1, h2⟩ | ⟨kvs, h1, h2⟩
  · exact ⟨a, n, H, kvs, e1, hn, ho, I, so, Gr.refl W H, h1, h2, fun _ _ => rfl⟩
  · have em := all_both hm h2.tups
    subst em
    cases h2
    have es : S.set n (.dic []) = S := by
      unfold objN at ho
      rw [Option.bind_eq_some_iff] at ho
      obtain ⟨n', _, ho⟩ := ho
      rw [Option.map_eq_some_iff] at ho
      obtain ⟨o', ho, e⟩ := ho
      cases e
      obtain ⟨hl, he⟩ := List.getElem?_eq_some_iff.mp ho
      rw [← he]
      exact List.set_getElem_self hl
    have so' := StOk.put (o := .dK []) (so := .dic []) so hn (.inl ⟨[], upd_same, .nil⟩)
    rw [es] at so'
    exact ⟨a, n, _, [], e1, hn, ho, (relabel I).2 h1, so', Gr.put so hn h1 (fun _ _ z => nomatch z), upd_same, .nil, fun c hc => upd_ne hc⟩
def rUpd (K : PySem.W.Frag) (Cn : Str → Option Addr) : V → List V → Hp → VK → Prop := fun x xs H Q => ∃ W S y d1 d2 n n' m m', xs = [y] ∧ StOk K Cn W S H ∧ BRep K W H x d1 ∧ BRep K W H y d2 ∧ objN S d1 = some (n, .dic m) ∧ objN S d2 = some (n', .dic m') ∧ n ≠ n' ∧ (m.all fun p => keyT p.1 == false) = true ∧ (m'.all fun p => keyT p.1 == false) = true ∧ m.length + m'.length ≤ 1000000 ∧
  ∀ H', Gr W H W H' → StOk K Cn W (S.set n (.dic (mergeD m m'))) H' → Q .non H'
theorem DRep.merge {K : PySem.W.Frag} {W : Wd} {r' : List (Key × V)} {m' : List (D × D)} (h' : DRep K W kD r' m') : ∀ {r : List (Key × V)} {m : List (D × D)}, DRep K W kD r m → DRep K W kD (mergeK r r') (mergeD m m') := by
  induction h' with
  | nil => intro r m h; exact h
  | @cons k v d r' s hv _ ih =>
    intro r m h
    exact ih (h.put kD_eqv k hv)
theorem mt_upd : MtR X "dict.update" (rUpd X.K Cn) := by
  intro pins s σ H x xs v us Q I rx rs h
  obtain ⟨W, S, y, d1, d2, n, n', m, m', rfl, so, b1, b2, o1, o2, hne, h1, h2, hz, q⟩ := h
  obtain ⟨a, na, H1, kvs, rfl, ha, oa, I1, so1, g1, ka, ra, e1⟩ := toK (K := X.K) I so b1 (by unfold dicOf; rw [o1]) h1
  obtain ⟨b, nb, H2, kvs', rfl, hb, ob, I2, so2, g2, kb, rb, e2⟩ := toK (K := X.K) I1 so1 (b2.mono g1) (by unfold dicOf; rw [o2]) h2
  rw [o1] at oa
  cases oa
  rw [o2] at ob
  cases ob
  have hab : a ≠ b := fun q => by
    subst q
    obtain ⟨l1, k1⟩ := List.getElem?_eq_some_iff.mp ha
    obtain ⟨l2, k2⟩ := List.getElem?_eq_some_iff.mp hb
    exact hne ((List.getElem_inj so.nd).mp (k1.trans k2.symm))
  have ka2 : H2 a = some (.dK kvs) := by rw [e2 a hab]; exact ka
  obtain ⟨u, rfl, ru⟩ := vals1 rs
  cases rx
  cases ru
  obtain ⟨z, hd, vs, rel, dd⟩ := dk_of I2.hok ka2
  obtain ⟨z', hd', vs', rel', dd'⟩ := dk_of I2.hok kb
  refine call_meetsIn PySem.F.slot_dict_update dd.typeIs PySem.F.entry_dict_update (PySem.F.args_dict_update_2 _ _) (meets_dict_update (mixKind X.prog X.w) a b hab hd') ⟨vs, vs', dd, dd', by rw [← rel.length, ← rel'.length, ra.len, rb.len]; exact line_le hz, fun h' dn _ hs => ?_⟩
  have he : ∃ q, h'.get? a = some q := let ⟨q, _, _, hq, _⟩ := dn; ⟨q, hq⟩
  have hlen : (mergeK kvs kvs').length ≤ sizeLine := Nat.le_trans (length_mergeK kvs' kvs) (by rw [ra.len, rb.len]; exact line_le hz)
  refine ⟨.non, _, d_write (t' := s.toks) I2 (by rw [ka2]; exact True.intro) hs he (dk_new hlen hd (rel'.merge rel) dn), rfl, ?_⟩
  have g := g1.trans g2
  exact q _ (g.trans (Gr.put so2 ha ka2 (fun _ _ z => nomatch z))) (so2.put ha (.inl ⟨_, upd_same, rb.merge ra⟩))
theorem ss_upd {apos : Pos} (g : GX Φ Cn k X) (ha : SE Φ Cn X a ca) (he : SE Φ Cn X e ce) (hbase : plainBase a = true) (hs : notStar e = true) (hline : (apos.endLine == p.line) = true) : SS Φ Cn X (.Expr (.Call (.Attribute a "update" apos) [e] [] p) pos) (.upd ca ce) := by
  obtain ⟨ta, pa, fa⟩ := ha
  obtain ⟨te, pe, fe⟩ := he
  have hs' := star_cons hs [] X.env
  refine ⟨_, ps_expr (pe_bm PySem.F.plainAttrs_dict PySem.F.slot_dict_update PySem.F.type_dict_update (mt_upd (Cn := Cn)) pa (pa_cons pe pa_nil hs') (base_ok hbase _ _ _) (few_ok (es := [e]) (by rw [List.all_cons, hs]; rfl) (show 1 < 30 by decide)) hline hs' rfl) rfl, fun {Wb Hb W S H σ Γ fl S' D} g0 so en ev q => ?_⟩
  rw [exS] at ev
  try replace ev := noXok ev
  obtain ⟨x, S1, e1, ev1⟩ := bindOk ev
  clear ev
  split at ev1
  · rename_i hok
    obtain ⟨m0, hm0⟩ := Option.isSome_iff_exists.mp hok
    obtain ⟨y, S2, e2, ev⟩ := bindOk ev1
    clear ev1
    split at ev
    · rename_i n m n' m' o1 o2
      split at ev
      · rename_i hh
        cases ev
        refine fa so en e1 fun v1 W1 H1 g1 so1 r1 => ⟨dict_ty so1 (.inl r1) hm0, fe so1 (en.mono g1) e2 fun v2 W2 H2 g2 so2 r2 => ?_⟩
        exact ⟨W2, S2, v2, x, y, n, n', m, m', rfl, so2, .inl (r1.mono g2.gw), .inl r2, o1, o2, hh.1, hh.2.1, hh.2.2.1, hh.2.2.2, fun H3 g3 so3 => q σ W2 H3 (mk_now g0 ((g1.trans g2).trans g3) so3 en)⟩
      · cases ev
    · cases ev
  · cases ev1
end
end PL
set_option autoImplicit false
set_option linter.all false
set_option maxRecDepth 100000
set_option maxHeartbeats 4000000
set_option Elab.async false
namespace PL
open PySem PySem.Spec PyProof.Rows L2
def ExOk (K : PySem.W.Frag) (Cn : Str → Option Addr) (Wx : WX) (Wb : Wd) (Hb : Hp) (W : Wd) (H : Hp) (x : XD) (S' : Store) : Prop :=
  ∀ cls d σ' W' H', Gr Wb Hb W' H' → Gs W H W' H' → StOk K Cn W' S' H' → XRep K Cn W' H' x cls d → Wx cls d σ' H'
theorem ExOk.shift {K : PySem.W.Frag} {Cn : Str → Option Addr} {Wx : WX} {Wb W W1 : Wd} {Hb H H1 : Hp} {S' : Store} {x : XD} (g : Gs W H W1 H1) (q : ExOk K Cn Wx Wb Hb W H x S') : ExOk K Cn Wx Wb Hb W1 H1 x S' :=
  fun cls d σ' W' H' a b c r => q cls d σ' W' H' a (g.trans b) c r
def RunOk (K : PySem.W.Frag) (Cn : Str → Option Addr) (Wx : WX) (Wb : Wd) (Hb : Hp) (W : Wd) (H : Hp) (D : Ends) : R Fl → Prop
  | .ok fl S' => EndOk K Cn Wb Hb W H S' fl D
  | .ex x S' => ExOk K Cn Wx Wb Hb W H x S'
  | .no => False
theorem RunOk.shift {K : PySem.W.Frag} {Cn : Str → Option Addr} {Wx : WX} {Wb W W1 : Wd} {Hb H H1 : Hp} {D : Ends} {r : R Fl} (g : Gs W H W1 H1) (q : RunOk K Cn Wx Wb Hb W H D r) : RunOk K Cn Wx Wb Hb W1 H1 D r := by
  cases r with
  | ok fl S' => exact EndOk.shift g q
  | ex x S' => exact ExOk.shift g q
  | no => exact q
def tX (Φ : Fns) (Cn : Str → Option Addr) (K : PySem.W.Frag) (Wx : WX) (c : CS) : TS := fun D σ H =>
  ∃ (Wb : Wd) (Hb : Hp) (W : Wd) (S : Store) (Γ : Env), Gr Wb Hb W H ∧ StOk K Cn W S H ∧ EnvOk K Hb W Γ σ H ∧ RunOk K Cn Wx Wb Hb W H D (exS Φ c Γ S)
def tXs (Φ : Fns) (Cn : Str → Option Addr) (K : PySem.W.Frag) (Wx : WX) (cs : List CS) : TS := fun D σ H =>
  ∃ (Wb : Wd) (Hb : Hp) (W : Wd) (S : Store) (Γ : Env), Gr Wb Hb W H ∧ StOk K Cn W S H ∧ EnvOk K Hb W Γ σ H ∧ RunOk K Cn Wx Wb Hb W H D (exSs Φ cs Γ S)
section
variable {Φ : Fns} {Cn : Str → Option Addr} {X : Cx} {k : Nat} {Wx : WX} {c : Expr} {cc : CE} {pos : Pos}
theorem sx_of {st : Stmt} {cs : CS} (h : SS Φ Cn X st cs) (hn : ∀ Γ S x S', exS Φ cs Γ S ≠ .ex x S') : PS X st (tX Φ Cn X.K Wx cs) := by
  obtain ⟨t, p, f⟩ := h
  refine ⟨fun pins s σ H D I ⟨Wb, Hb, W, S, Γ, g0, so, en, q⟩ => p.run pins s σ H D I ?_⟩
  cases e : exS Φ cs Γ S with
  | ok fl S' => rw [e] at q; exact f g0 so en e q
  | ex x S' => exact (hn Γ S x S' e).elim
  | no => rw [e] at q; exact q.elim
theorem noX_ex {α : Type} {r : R α} {x : XD} {S : Store} (h : noX r = .ex x S) : False := by cases r <;> cases h
theorem sxs_nil : PSs X [] (tXs Φ Cn X.K Wx []) := by
  refine ⟨fun pins s σ H D I ⟨Wb, Hb, W, S, Γ, g0, so, en, q⟩ => pss_nil.run pins s σ H D I ?_⟩
  rw [exSs] at q
  exact q σ W H ⟨g0, Gs.refl W H, so, en⟩
theorem sxs_cons {st : Stmt} {sts : List Stmt} {cs : CS} {css : List CS} (h1 : PS X st (tX Φ Cn X.K Wx cs)) (h2 : PSs X sts (tXs Φ Cn X.K Wx css)) : PSs X (st :: sts) (tXs Φ Cn X.K Wx (cs :: css)) := by
  refine ⟨fun pins s σ H D I ⟨Wb, Hb, W, S, Γ, g0, so, en, q⟩ => (pss_cons h1 h2).run pins s σ H D I ?_⟩
  rw [exSs] at q
  refine ⟨Wb, Hb, W, S, Γ, g0, so, en, ?_⟩
  cases e : exS Φ cs Γ S with
  | ok fl S' =>
    rw [e] at q
    cases fl with
    | nx Γ1 => exact fun σ' W' H' n => ⟨Wb, Hb, W', S', Γ1, n.gr, n.so, n.en, RunOk.shift n.gs q⟩
    | ret d => exact q
    | brk Γ1 => exact q
    | ct Γ1 => exact q
  | ex x S' => rw [e] at q; exact q
  | no => rw [e] at q; exact q.elim
theorem sx_ite {sa sb : List Stmt} {ka kb : List CS} (hc : ST Φ Cn X c cc) (ha : PSs X sa (tXs Φ Cn X.K Wx ka)) (hb : PSs X sb (tXs Φ Cn X.K Wx kb)) : PS X (.If c sa sb pos) (tX Φ Cn X.K Wx (.ite cc ka kb)) := by
  obtain ⟨tc, pc, fc⟩ := hc
  refine ⟨fun pins s σ H D I ⟨Wb, Hb, W, S, Γ, g0, so, en, q⟩ => (ps_if pc ha hb).run pins s σ H D I ?_⟩
  rw [exS] at q
  cases e : noX (evE Φ cc Γ S) with
  | ok x S1 =>
    rw [e] at q
    have e1 := noXok e
    change RunOk X.K Cn Wx Wb Hb W H D ((truR S1 x).bind _) at q
    cases e2 : tru S1 x with
    | none => unfold truR at q; rw [e2] at q; exact q.elim
    | some t =>
      unfold truR at q
      rw [e2] at q
      refine fc so en e1 e2 fun W1 H1 g1 so1 => ?_
      cases t with
      | true => exact ⟨Wb, Hb, W1, S1, Γ, g0.trans g1, so1, en.mono g1, RunOk.shift g1.gs q⟩
      | false => exact ⟨Wb, Hb, W1, S1, Γ, g0.trans g1, so1, en.mono g1, RunOk.shift g1.gs q⟩
  | ex x S' => exact (noX_ex e).elim
  | no => rw [e] at q; exact q.elim
theorem runOn {K : PySem.W.Frag} {Wb W : Wd} {Hb H : Hp} {D : Ends} {S : Store} {g : Option (Nat × SO)} {r : R Fl} (q : RunOk K Cn Wx Wb Hb W H D (onG g S r)) : gOk g S ∧ RunOk K Cn Wx Wb Hb W H D r := by
  unfold onG at q
  split at q
  · exact ⟨by assumption, q⟩
  · exact q.elim
theorem sx_for {tg iter : Expr} {body : List Stmt} {ct : CT} {ci : CI} {kb : List CS} (gs : GS Φ Cn k X) (hi : SI Φ Cn X tg iter ci) (hg : PG X tg (gC Cn X.K ct)) (hb : PSs X body (tXs Φ Cn X.K Wx kb)) (hs : ∀ x, foldedSetIterable iter X.env x = pure x) : PS X (.For tg iter body [] pos) (tX Φ Cn X.K Wx (.for_ ct ci kb)) := by
  obtain ⟨wi, pi, fi⟩ := hi
  refine ⟨fun pins s σ H D I ⟨Wb, Hb, W, S, Γ, g0, so, en, q⟩ => (ps_for gs.hp gs.calm pi hg hb hs).run pins s σ H D I ?_⟩
  rw [exS] at q
  cases e : noX (evI Φ ci Γ S) with
  | ex x S' => exact (noX_ex e).elim
  | no => rw [e] at q; exact q.elim
  | ok its S1 =>
    obtain ⟨xs, g0'⟩ := its
    rw [e] at q
    have e1 := noXok e
    change RunOk X.K Cn Wx Wb Hb W H D (forLoop g0' (fun x Γ S => match asgT ct x Γ with
      | some Γ' => exSs Φ kb Γ' S
      | none => .no) xs Γ S1) at q
    refine fi so en e1 fun J W1 H1 G Y g1 so1 wk => ?_
    replace q := RunOk.shift g1.gs q
    refine for_it wk.w (fun i σ' H' => ∃ W2 S2 Γ2, Gr Wb Hb W2 H' ∧ Gs W1 H1 W2 H' ∧ StOk X.K Cn W2 S2 H' ∧ EnvOk X.K Hb W2 Γ2 σ' H' ∧ RunOk X.K Cn Wx Wb Hb W1 H1 D (forLoop g0' (fun x Γ S => match asgT ct x Γ with
      | some Γ' => exSs Φ kb Γ' S
      | none => .no) (xs.drop i) Γ2 S2)) ?_ ?_ ?_ ?_
    · exact ⟨W1, S1, Γ, g0.trans g1, Gs.refl W1 H1, so1, en.mono g1, by rw [List.drop_zero]; exact q⟩
    · rintro i σ' H' _ ⟨W2, S2, Γ2, h1, h2, h3, h4, h5⟩
      refine wk.g W2 S2 H' h2 h3 ?_
      have h5' := h5
      generalize xs.drop i = zs at h5'
      cases zs with
      | nil => rw [forLoop] at h5'; exact (runOn h5').1
      | cons z zs => rw [forLoop] at h5'; exact (runOn h5').1
    · rintro i x σ' H' H'' hin ⟨W2, S2, Γ2, h1, h2, h3, h4, h5⟩ hy
      have hl0 : i < xs.length := hin
      rw [List.drop_eq_getElem_cons hl0, forLoop] at h5
      obtain ⟨c0, h6⟩ := runOn h5
      clear h5
      obtain ⟨W3, gy, so3, d, hd, rd⟩ := wk.y i x W2 S2 H' H'' hin h2 h3 c0 hy
      obtain ⟨hl, hd'⟩ := List.getElem?_eq_some_iff.mp hd
      rw [hd'] at h6
      cases hΓ : asgT ct d Γ2 with
      | none => rw [hΓ] at h6; exact h6.elim
      | some Γ' =>
        rw [hΓ] at h6
        change RunOk X.K Cn Wx Wb Hb W1 H1 D ((exSs Φ kb Γ' S2).bind _) at h6
        refine ⟨W3, S2, Γ2, Hb, d, Γ', so3, h4.mono gy, rd, hΓ, fun σ2 en2 _ _ => ?_⟩
        refine ⟨Wb, Hb, W3, S2, Γ', h1.trans gy, so3, en2, ?_⟩
        have s2 := h2.trans gy.gs
        cases e3 : exSs Φ kb Γ' S2 with
        | no => rw [e3] at h6; exact h6.elim
        | ex x S3 => rw [e3] at h6; exact ExOk.shift s2 h6
        | ok f1 S3 =>
          rw [e3] at h6
          cases f1 with
          | nx Γ3 => exact fun σ' W' H' n => ⟨W', S3, Γ3, n.gr, s2.trans n.gs, n.so, n.en, h6⟩
          | ct Γ3 => exact fun σ' W' H' n => ⟨W', S3, Γ3, n.gr, s2.trans n.gs, n.so, n.en, h6⟩
          | brk Γ3 => exact fun σ' W' H' n => h6 σ' W' H' (n.step s2)
          | ret d => exact fun v W' H' a b c r => h6 v W' H' a (s2.trans b) c r
    · rintro σ' H' ⟨W2, S2, Γ2, h1, h2, h3, h4, h5⟩
      rw [List.drop_length, forLoop] at h5
      obtain ⟨_, h5⟩ := runOn h5
      exact h5 σ' W2 H' ⟨h1, h2, h3, h4⟩
theorem sx_while {body : List Stmt} {kb : List CS} (gs : GS Φ Cn k X) (hc : ST Φ Cn X c cc) (hb : PSs X body (tXs Φ Cn X.K Wx kb)) : PS X (.While c body [] pos) (tX Φ Cn X.K Wx (.while_ cc kb)) := by
  obtain ⟨tc, pc, fc⟩ := hc
  refine ⟨fun pins s σ H D I ⟨Wb, Hb, W, S, Γ, g0, so, en, q⟩ => (ps_while gs.hp pc hb).run pins s σ H D I ?_⟩
  rw [exS] at q
  refine ⟨fun m σ1 H1 => ∃ W1 S1 Γ1, Gr Wb Hb W1 H1 ∧ Gs W H W1 H1 ∧ StOk X.K Cn W1 S1 H1 ∧ EnvOk X.K Hb W1 Γ1 σ1 H1 ∧ RunOk X.K Cn Wx Wb Hb W H D (whileLoop (fun Γ S => noX ((evE Φ cc Γ S).bind fun x S1 => truR S1 x)) (fun Γ S => exSs Φ kb Γ S) m Γ1 S1), ⟨FUEL, W, S, Γ, g0, Gs.refl W H, so, en, q⟩, ?_⟩
  rintro m σ1 H1 ⟨W1, S1, Γ1, g1, s1, so1, en1, ev1⟩
  cases m with
  | zero => rw [whileLoop] at ev1; exact ev1.elim
  | succ m =>
    rw [whileLoop] at ev1
    cases e2 : noX ((evE Φ cc Γ1 S1).bind fun x S1 => truR S1 x) with
    | ex x S' => exact (noX_ex e2).elim
    | no => rw [e2] at ev1; exact ev1.elim
    | ok t S2 =>
      rw [e2] at ev1
      obtain ⟨x, S3, e3, e4⟩ := bindOk (noXok e2)
      obtain ⟨e4, rfl⟩ := truOk e4
      refine fc so1 en1 e3 e4 fun W2 H2 g2 so2 => ?_
      cases t with
      | false => exact ev1 σ1 W2 H2 ⟨g1.trans g2, s1.trans g2.gs, so2, en1.mono g2⟩
      | true =>
        change RunOk X.K Cn Wx Wb Hb W H D ((exSs Φ kb Γ1 S2).bind _) at ev1
        refine ⟨fun σ' H' => ∃ W3 S5 Γ3, Gr Wb Hb W3 H' ∧ Gs W H W3 H' ∧ StOk X.K Cn W3 S5 H' ∧ EnvOk X.K Hb W3 Γ3 σ' H' ∧ RunOk X.K Cn Wx Wb Hb W H D (whileLoop (fun Γ S => noX ((evE Φ cc Γ S).bind fun x S1 => truR S1 x)) (fun Γ S => exSs Φ kb Γ S) m Γ3 S5), fun σ' H' h => ⟨m, Nat.lt_succ_self m, h⟩, ?_⟩
        refine ⟨Wb, Hb, W2, S2, Γ1, g1.trans g2, so2, en1.mono g2, ?_⟩
        have s2 := s1.trans g2.gs
        cases e5 : exSs Φ kb Γ1 S2 with
        | no => rw [e5] at ev1; exact ev1.elim
        | ex x S4 => rw [e5] at ev1; exact ExOk.shift s2 ev1
        | ok f1 S4 =>
          rw [e5] at ev1
          cases f1 with
          | nx Γ3 => exact fun σ' W' H' n => ⟨W', S4, Γ3, n.gr, s2.trans n.gs, n.so, n.en, ev1⟩
          | ct Γ3 => exact fun σ' W' H' n => ⟨W', S4, Γ3, n.gr, s2.trans n.gs, n.so, n.en, ev1⟩
          | brk Γ3 => exact fun σ' W' H' n => ev1 σ' W' H' (n.step s2)
          | ret d => exact fun v W' H' a b c r => ev1 v W' H' a (s2.trans b) c r
theorem sxs_frz {sts : List Stmt} {cs : List CS} {i : Nat} (hr : PSs X sts (tXs Φ Cn X.K Wx cs)) : PSs X sts (tXs Φ Cn X.K Wx (.frz i :: cs)) := by
  refine ⟨fun pins s σ H D I ⟨Wb, Hb, W, S, Γ, g0, so, en, q⟩ => hr.run pins s σ H D I ?_⟩
  rw [exSs, exS] at q
  split at q
  · rename_i xs hi
    obtain ⟨l, vs, h1, h2, h3, h4, h5, h6⟩ := en.own i xs hi
    have gs : Gs W H (W.fz l (.lst vs)) H := ⟨Gw.fz' h2, fun _ _ _ h => h⟩
    exact ⟨Wb, Hb, W.fz l (.lst vs), S, _, g0.frzO h4 h2, so.fz' h5 h3 h2, en.frzO hi h1 h2 h5 h6, RunOk.shift gs q⟩
  · exact ⟨Wb, Hb, W, S, Γ, g0, so, en, q⟩
end
end PL
set_option autoImplicit false
set_option linter.all false
set_option maxRecDepth 100000
set_option maxHeartbeats 4000000
set_option Elab.async false
namespace PL
open PySem PySem.Spec PyProof.Rows L2
def tXE (Φ : Fns) (Cn : Str → Option Addr) (K : PySem.W.Frag) (Wx : WX) (c : CX_) : TE := fun σ H Q =>
  ∃ (W : Wd) (S : Store) (Γ : Env) (Hb : Hp), StOk K Cn W S H ∧ EnvOk K Hb W Γ σ H ∧ RunF K Cn W H Q (fun cls d H' => Wx cls d σ H') (evX Φ c Γ S)
section
variable {Φ : Fns} {Cn : Str → Option Addr} {X : Cx} {k : Nat} {Wx : WX} {e a b c : Expr} {ce ca cb cc : CE} {pos p : Pos} {es : List Expr} {cs : List CE} {f m : Str}
theorem RunF.shift {K : PySem.W.Frag} {W W1 : Wd} {H H1 : Hp} {Q : VK} {E : XK} {r : R D} (g : Gr W H W1 H1) (q : RunF K Cn W H Q E r) : RunF K Cn W1 H1 Q E r := by
  cases r with
  | ok d S' => exact Res.shift g q
  | ex x S' => exact fun cls d W' H' g2 so xr => q cls d W' H' (g.trans g2) so xr
  | no => exact q
theorem at_runX {pins : List (Addr × Obj)} {σ : L2.St} {H : Hp} {s : Shared} {Q : VK} {us : List Value} {vs : List V} {ad : Addr} {F : FnS} (tk : Takes X Wx) (hA : At X.prog X.w X.K X.mg X.base Cn k ad F) (g : X.A.guards = some []) (rm : Room k X.A) (I : Inv X pins σ H s) (r : Vals vs us)
    (h : spOf X.K Cn F vs H Q (fun cls d H' => Wx cls d σ H')) : wpAny (model X.prog X.w) X.A (call (.ref ad) us) (EP X pins σ Q) X.xe s := by
  obtain ⟨fd, ps, G, hb⟩ := hA.ex
  have hl : (us ++ []).length = ps.length := by rw [List.append_nil, ← r.length]; exact G.len _ _ _ _ h
  have hbd := hb s us I.kIn hl
  rw [List.append_nil] at hbd
  refine wpAny_call (codeAny_mono (G.run X.A X.stack s H ⟨us, []⟩ us vs Q _ g rm I.env0 hbd r h) fun res s' hq => ?_)
  match res, hq with
  | .error e, hq => exact tk e s' (XE.of_call I (fun _ _ _ h => h) hq)
  | .ok (.ret u), hq => exact I.after hq
  | .ok .next, hq => exact hq.elim
  | .ok .brk, hq => exact hq.elim
  | .ok .cont, hq => exact hq.elim
def RunA (K : PySem.W.Frag) (Cn : Str → Option Addr) (W : Wd) (H : Hp) (Q : List V → Hp → Prop) (E : XK) : R (List D) → Prop
  | .ok ds S' => ∀ vs W' H', Gr W H W' H' → StOk K Cn W' S' H' → RepL K W' vs ds → Q vs H'
  | .ex x S' => ResX K Cn W H S' x E
  | .no => False
theorem RunA.shift {K : PySem.W.Frag} {W W1 : Wd} {H H1 : Hp} {Q : List V → Hp → Prop} {E : XK} {r : R (List D)} (g : Gr W H W1 H1) (q : RunA K Cn W H Q E r) : RunA K Cn W1 H1 Q E r := by
  cases r with
  | ok ds S' => exact fun vs W' H' g2 so rr => q vs W' H' (g.trans g2) so rr
  | ex x S' => exact fun cls d W' H' g2 so xr => q cls d W' H' (g.trans g2) so xr
  | no => exact q
def tXA (Φ : Fns) (Cn : Str → Option Addr) (K : PySem.W.Frag) (Wx : WX) (cs : List CX_) : TA := fun σ H Q =>
  ∃ (W : Wd) (S : Store) (Γ : Env) (Hb : Hp), StOk K Cn W S H ∧ EnvOk K Hb W Γ σ H ∧ RunA K Cn W H Q (fun cls d H' => Wx cls d σ H') (evXs Φ cs Γ S)
variable {xs : List CX_} {xc : CX_}
theorem px_e (h : SE Φ Cn X e ce) : PE X e (tXE Φ Cn X.K Wx (.e ce)) := by
  obtain ⟨te, pe, fe⟩ := h
  refine ⟨fun pins s σ H Q I ⟨W, S, Γ, Hb, so, en, q⟩ => pe.run pins s σ H Q I ?_⟩
  rw [evX] at q
  cases e1 : noX (evE Φ ce Γ S) with
  | ok d S1 => rw [e1] at q; exact fe so en (noXok e1) q
  | ex x S1 => exact (noX_ex e1).elim
  | no => rw [e1] at q; exact q.elim
theorem px_nil : PA X [] (tXA Φ Cn X.K Wx []) := by
  refine ⟨fun pos pins s σ H Q I ⟨W, S, Γ, Hb, so, en, q⟩ => pa_nil.run pos pins s σ H Q I ?_⟩
  rw [evXs] at q
  exact q [] W H (Gr.refl W H) so .nil
theorem px_cons (h1 : PE X e (tXE Φ Cn X.K Wx xc)) (h2 : PA X es (tXA Φ Cn X.K Wx xs)) (hs : starEach (e :: es) X.env = (false, eval e X.env) :: starEach es X.env) : PA X (e :: es) (tXA Φ Cn X.K Wx (xc :: xs)) := by
  refine ⟨fun pos pins s σ H Q I ⟨W, S, Γ, Hb, so, en, q⟩ => (pa_cons h1 h2 hs).run pos pins s σ H Q I ?_⟩
  rw [evXs] at q
  refine ⟨W, S, Γ, Hb, so, en, ?_⟩
  cases e1 : evX Φ xc Γ S with
  | no => rw [e1] at q; exact q.elim
  | ex x S1 => rw [e1] at q; exact q
  | ok d S1 =>
    rw [e1] at q
    refine fun v W1 H1 g1 so1 r1 => ⟨W1, S1, Γ, Hb, so1, en.mono g1, ?_⟩
    cases e2 : evXs Φ xs Γ S1 with
    | no => rw [bind_ok, e2] at q; exact q.elim
    | ex x S2 => rw [bind_ok, e2] at q; exact fun cls d' W' H' g2 so2 xr => q cls d' W' H' (g1.trans g2) so2 xr
    | ok ds S2 =>
      rw [bind_ok, e2] at q
      exact fun vs W2 H2 g2 so2 r2 => q (v :: vs) W2 H2 (g1.trans g2) so2 (.cons (r1.mono g2.gw) r2)
theorem px_call (tk : Takes X Wx) (g : GX Φ Cn k X) {F : FnS} (hF : Φ.fn f = some F) (hg : Gl X f) (pa : PA X (e :: es) (tXA Φ Cn X.K Wx xs)) (hs : (e :: es).all notStar = true) (hdb : (f == ("__debug__" : Str)) = false) : PE X (.Call (.Name f p) (e :: es) [] pos) (tXE Φ Cn X.K Wx (.call f xs)) := by
  obtain ⟨ad, hm, hk, hA⟩ := g.fn f F hF
  refine ⟨fun pins s σ H Q I ⟨W, S, Γ, Hb, so, en, q⟩ => ?_⟩
  rw [evX, hF] at q
  have h : tXA Φ Cn X.K Wx xs σ H fun vs H1 => spOf X.K Cn F vs H1 Q (fun cls d H' => Wx cls d σ H') := by
    refine ⟨W, S, Γ, Hb, so, en, ?_⟩
    cases e1 : evXs Φ xs Γ S with
    | ex x S' => dsimp only at q; rw [e1] at q; exact q
    | no => dsimp only at q; rw [e1] at q; exact q.elim
    | ok ds S1 =>
      dsimp only at q
      rw [e1] at q
      exact fun vs W1 H1 g1 so1 r1 => ⟨W1, S1, ds, so1, r1, RunF.shift g1 q⟩
  refine wpAny_Call_Name_kw (ld_glob I hg hm ?_ hdb)
  rw [List.all_cons, Bool.and_eq_true] at hs
  exact PySem.W.callWith_K (h₀ := X.base) I.ok.mod.kin hk (thn (pa.run pos pins s σ H _ I h) fun us s1 ⟨vs, H1, I1, r, q⟩ => ⟨I1.kIn, at_runX tk hA g.gu (g.room.mono (Nat.le_succ k)) I1 r q⟩) (star_cons hs.1 es X.env) (star_all hs.2 pos X.env).1
theorem px_ite {xa xb : CX_} (hc : ST Φ Cn X c cc) (ha : PE X a (tXE Φ Cn X.K Wx xa)) (hb : PE X b (tXE Φ Cn X.K Wx xb)) : PE X (.IfExp c a b pos) (tXE Φ Cn X.K Wx (.ite cc xa xb)) := by
  obtain ⟨tc, pc, fc⟩ := hc
  refine ⟨fun pins s σ H Q I ⟨W, S, Γ, Hb, so, en, q⟩ => (pe_ifExp pc ha hb).run pins s σ H Q I ?_⟩
  rw [evX] at q
  cases e1 : noX ((evE Φ cc Γ S).bind fun x S1 => truR S1 x) with
  | ex x S' => exact (noX_ex e1).elim
  | no => rw [e1] at q; exact q.elim
  | ok t S2 =>
    rw [e1] at q
    obtain ⟨x, S1, e2, e3⟩ := bindOk (noXok e1)
    obtain ⟨e3, rfl⟩ := truOk e3
    refine fc so en e2 e3 fun W1 H1 g1 so1 => ?_
    cases t with
    | true => exact ⟨W1, S2, Γ, Hb, so1, en.mono g1, RunF.shift g1 q⟩
    | false => exact ⟨W1, S2, Γ, Hb, so1, en.mono g1, RunF.shift g1 q⟩
theorem evXs_len {xs : List CX_} : ∀ {Γ : Env} {S S' : Store} {ds : List D}, evXs Φ xs Γ S = .ok ds S' → ds.length = xs.length := by
  induction xs with
  | nil => intro Γ S S' ds h; rw [evXs] at h; cases h; rfl
  | cons c cs ih =>
    intro Γ S S' ds h
    rw [evXs] at h
    obtain ⟨x, S1, e1, h⟩ := bindOk h
    obtain ⟨xs, S2, e2, h⟩ := bindOk h
    cases h
    rw [List.length_cons, List.length_cons, ih e2]
theorem px_tup {x1 : Nat} (pa : PA X es (tXA Φ Cn X.K Wx xs)) (hl : xs.length ≤ 1000) : PE X (.Tuple es x1 pos) (tXE Φ Cn X.K Wx (.tup xs)) := by
  refine ⟨fun pins s σ H Q I ⟨W, S, Γ, Hb, so, en, q⟩ => (pe_tup pa).run pins s σ H Q I ?_⟩
  rw [evX] at q
  refine ⟨W, S, Γ, Hb, so, en, ?_⟩
  cases e1 : evXs Φ xs Γ S with
  | ex x S' => rw [e1] at q; exact q
  | no => rw [e1] at q; exact q.elim
  | ok ds S1 =>
    rw [e1] at q
    refine fun vs W1 H1 g1 so1 r1 => ⟨?_, fun p hp => (Res.shift g1 q).out.tup so1 hp r1⟩
    rw [r1.length, evXs_len e1]
    exact line_le (by omega)
theorem mcall_sp {F : FnS} {cl : Str} {C : Addr} {to : TE} {W : Wd} {S : Store} {Γ : Env} {Hb : Hp} {H : Hp} {σ : L2.St} {Q : VK} (hC : Cn cl = some C) (so : StOk X.K Cn W S H) (en : EnvOk X.K Hb W Γ σ H)
    (fo : ∀ {W : Wd} {S : Store} {H : Hp} {σ : L2.St} {Γ : Env} {Hb : Hp} {d : D} {S' : Store} {Q : VK}, StOk X.K Cn W S H → EnvOk X.K Hb W Γ σ H → evE Φ ca Γ S = .ok d S' → Res X.K Cn W H S' d Q → to σ H Q)
    (q : RunF X.K Cn W H Q (fun cls d H' => Wx cls d σ H') ((noX (evE Φ ca Γ S)).bind fun x S1 => match objN S1 x with
      | some (_, .ins c' fs) => if c' = cl ∧ ffind fs m = none then (evXs Φ xs Γ S1).bind fun xs S2 => F (x :: xs) S2 else .no
      | _ => .no)) :
    to σ H fun x H1 => ∃ (b : Addr) (dx : Addr) (fs : List (Str × V)), x = .ref b ∧ H1 b = some (.ins C dx fs) ∧ fs.lookup m = none ∧ tXA Φ Cn X.K Wx xs σ H1 fun vs H2 => spOf X.K Cn F (x :: vs) H2 Q (fun cls d H' => Wx cls d σ H') := by
  cases e1 : noX (evE Φ ca Γ S) with
  | ex x S' => exact (noX_ex e1).elim
  | no => rw [e1] at q; exact q.elim
  | ok x S1 =>
    rw [e1] at q
    rw [bind_ok] at q
    split at q
    · rename_i n c' fs hn
      split at q
      · rename_i hc
        obtain ⟨hc, hl0⟩ := hc
        subst hc
        refine fo so en (noXok e1) fun v W1 H1 g1 so1 r1 => ?_
        obtain ⟨b, rfl, hb1, C', dx, fs', hC', hi, rf⟩ := Rep.at so1 hn r1
        rw [hC] at hC'
        cases hC'
        have hlk := rf.look m
        rw [hl0] at hlk
        refine ⟨b, dx, fs', rfl, hi, hlk, W1, S1, Γ, Hb, so1, en.mono g1, ?_⟩
        cases e2 : evXs Φ xs Γ S1 with
        | ex x S' => rw [e2] at q; exact fun cls d W' H' g2 so2 xr => q cls d W' H' (g1.trans g2) so2 xr
        | no => rw [e2] at q; exact q.elim
        | ok ds S2 =>
          rw [e2] at q
          exact fun vs W2 H2 g2 so2 r2 => ⟨W2, S2, x :: ds, so2, .cons (r1.mono g2.gw) r2, RunF.shift (g1.trans g2) q⟩
      · exact q.elim
    · exact q.elim
theorem px_mcall (tk : Takes X Wx) (g : GX Φ Cn k X) {F : FnS} {cl : Str} {apos : Pos} (hF : Φ.mt cl m = some F) (ho : SE Φ Cn X a ca) (pa : PA X (e :: es) (tXA Φ Cn X.K Wx xs)) (hb : plainBase a = true) (hs : (e :: es).all notStar = true) (hl : (e :: es).length < 30) (hline : (apos.endLine == pos.line) = true) :
    PE X (.Call (.Attribute a m apos) (e :: es) [] pos) (tXE Φ Cn X.K Wx (.mcall cl ca m xs)) := by
  obtain ⟨to, po, fo⟩ := ho
  obtain ⟨C, ad, hC, cC, hm, hA⟩ := g.mt cl m F hF
  obtain ⟨pl, ht⟩ := meth_text (X := X) (m := m) (pos := pos) (apos := apos) hb hs hl hline
  refine ⟨fun pins s σ H Q I ⟨W, S, Γ, Hb, so, en, q⟩ => ?_⟩
  rw [evX, hF] at q
  have h := mcall_sp (Wx := Wx) hC so en fo q
  refine PySem.W.methodCall_KW (pl := pl) (thn (po.run pins s σ H _ I h) fun u s1 ⟨x, H1, I1, rx, b, dx, fs, ex, ea, l, q⟩ => ?_) ht
  subst ex
  cases rx
  rw [List.all_cons, Bool.and_eq_true] at hs
  refine getmeth_ok I1 ea cC hm l ?_
  refine PySem.W.callWith_K (first := [.ref b]) (h₀ := X.base) I.ok.mod.kin hm.kp (thn (pa.run pos pins s1 σ H1 _ I1 q) fun us s2 ⟨vs, H2, I2, r, q2⟩ => ⟨I2.kIn, ?_⟩) (star_cons hs.1 es X.env) (star_all hs.2 pos X.env).1
  exact at_runX tk (us := .ref b :: us) (vs := .ref b :: vs) hA g.gu (g.room.mono (Nat.le_succ k)) I2 (.cons rfl r) q2
theorem px_mcall0 (tk : Takes X Wx) (g : GX Φ Cn k X) {F : FnS} {cl : Str} {apos : Pos} (hF : Φ.mt cl m = some F) (ho : SE Φ Cn X a ca) (hb : plainBase a = true) (hline : (apos.endLine == pos.line) = true) :
    PE X (.Call (.Attribute a m apos) [] [] pos) (tXE Φ Cn X.K Wx (.mcall cl ca m [])) := by
  obtain ⟨to, po, fo⟩ := ho
  obtain ⟨C, ad, hC, cC, hm, hA⟩ := g.mt cl m F hF
  obtain ⟨pl, ht⟩ := meth_text (X := X) (m := m) (pos := pos) (apos := apos) (es := []) hb rfl (by decide) hline
  refine ⟨fun pins s σ H Q I ⟨W, S, Γ, Hb, so, en, q⟩ => ?_⟩
  rw [evX, hF] at q
  have h := mcall_sp (Wx := Wx) hC so en fo q
  refine PySem.W.methodCall_KW (pl := pl) (thn (po.run pins s σ H _ I h) fun u s1 ⟨x, H1, I1, rx, b, dx, fs, ex, ea, l, q⟩ => ?_) ht
  subst ex
  cases rx
  refine getmeth_ok I1 ea cC hm l ?_
  obtain ⟨W1, S1, Γ1, Hb1, so1, en1, q1⟩ := q
  rw [evXs] at q1
  exact PySem.W.callWith_K0 (first := [.ref b]) I1.kIn hm.kp (at_runX tk (us := [.ref b]) (vs := [.ref b]) hA g.gu (g.room.mono (Nat.le_succ k)) I1 (.cons rfl .nil) (q1 [] W1 H1 (Gr.refl W1 H1) so1 .nil))
theorem sx_retX {xc : CX_} (pe : PE X e (tXE Φ Cn X.K Wx xc)) : PS X (.Return (some e) pos) (tX Φ Cn X.K Wx (.retX xc)) := by
  refine ⟨fun pins s σ H D I ⟨Wb, Hb, W, S, Γ, g0, so, en, q⟩ => (ps_ret pe).run pins s σ H D I ?_⟩
  rw [exS] at q
  refine ⟨W, S, Γ, Hb, so, en, ?_⟩
  cases e1 : evX Φ xc Γ S with
  | ok d S1 =>
    rw [e1] at q
    exact fun v W1 H1 g1 so1 r1 => q v W1 H1 (g0.trans g1) g1.gs so1 r1
  | ex x S1 =>
    rw [e1] at q
    exact fun cls d W1 H1 g1 so1 xr => q cls d σ W1 H1 (g0.trans g1) g1.gs so1 xr
  | no => rw [e1] at q; exact q.elim
theorem takes_cx {P : Program} {w : World} {K : PySem.W.Frag} {mg : Str → Option Value} {base : Heap} {N : List Str} {qual : Str} {scope : Scope} {f : Addr} {cdv : Value} {A : Around} {outer : List PySem.Env} {s : Shared} {H : Hp} {E : XK} :
    Takes (cxOf (L2.CX P w) P w K mg base N qual scope f cdv A outer s H E) (fun cls d _ H => E cls d H) := takes_of rfl rfl rfl rfl
theorem Takes.tr {pn : List (Addr × Obj)} {xe : Value → Shared → Prop} (gs : GS Φ Cn k X) (hp : PassesOwn (model X.prog X.w) X.A X.env xe) : GS Φ Cn k (X.tr pn xe) :=
  ⟨⟨gs.calm, gs.nd, gs.gu, gs.room, gs.blt, gs.fn, gs.mt, gs.nw, gs.fl, gs.xn, gs.xs⟩, hp, gs.fnT, gs.kind, gs.stk, gs.frm⟩
end
end PL
set_option autoImplicit false
set_option linter.all false
set_option maxRecDepth 100000
set_option Elab.async false
namespace PL
open PySem PySem.Spec PyProof.Rows L2
structure Sig where
  fn : List Str
  mt : List (Str × Str)
  nw : List Str
  xc : List Str
def visB (sc : Scope) (x : Str) : Bool := match sc.names.lookup x with
  | some .local => true
  | some .cell => true
  | some .free => true
  | _ => false
def locB (sc : Scope) (x : Str) : Bool := match sc.names.lookup x with
  | some .local => true
  | some .cell => true
  | _ => false
def glB (sc : Scope) (x : Str) : Bool := match sc.names.lookup x with
  | some .globalImplicit => true
  | _ => false
def isLoc (sc : Scope) (x : Str) : Bool := match sc.names.lookup x with
  | some .local => true
  | _ => false
def nmOk (x : Str) : Bool := !(x == ("__debug__" : Str)) && !(x == ("__classdict__" : Str))
def litB : Const → D → Bool
  | .none, .none => true
  | .bool b, .bool c => b == c
  | .int i, .int j => decide (i = j)
  | .str s, .str t => decide (s = t)
  | _, _ => false
def notSlice : Expr → Bool
  | .Slice _ _ _ _ => false
  | _ => true
def isTupT : Expr → Bool
  | .Tuple _ _ _ => true
  | _ => false
def notSet : Expr → Bool
  | .Set _ _ _ => false
  | _ => true
def plainTest : Expr → Bool
  | .UnaryOp .Not _ _ => false
  | .BoolOp _ _ _ => false
  | .IfExp _ _ _ _ => false
  | .Compare _ _ _ _ => false
  | _ => true
def fresh : CE → Bool
  | .bin _ _ _ => true
  | .lst _ => true
  | .lc _ _ _ _ _ => true
  | .slice _ _ _ => true
  | .rev _ => true
  | .rng _ _ => true
  | .c1 _ _ => true
  | _ => false
mutual
def chkT : Nat → List Str → Scope → (Str → Bool) → Expr → CT → Bool
  | 0, _, _, _, _, _ => false
  | n + 1, N, sc, fb, e, c => match e, c with
    | .Name x _, .nm i => decide (N[i]? = some x) && locB sc x && (fb x || isLoc sc x)
    | .Tuple es _ _, .tp cs => chkTs n N sc fb es cs
    | _, _ => false
def chkTs : Nat → List Str → Scope → (Str → Bool) → List Expr → List CT → Bool
  | 0, _, _, _, _, _ => false
  | n + 1, N, sc, fb, es, cs => match es, cs with
    | [], [] => true
    | e :: es, c :: cs => notStar e && chkT n N sc fb e c && chkTs n N sc fb es cs
    | _, _ => false
end
def inMt (sg : Sig) (c m : Str) : Bool := sg.mt.any fun p => decide (p.1 = c) && decide (p.2 = m)
mutual
def chkE : Nat → Sig → List Str → Scope → Bool → Expr → CE → Bool
  | 0, _, _, _, _, _, _ => false
  | n + 1, sg, N, sc, m, e, c => match e, c with
    | e, .box c => fresh c && plainTest e && chkE n sg N sc false e c
    | e, .lock _ c => fresh c && plainTest e && chkE n sg N sc false e c
    | .Name x _, .var i => decide (N[i]? = some x) && visB sc x && nmOk x
    | .Name x _, .bor i => m && decide (N[i]? = some x) && visB sc x && nmOk x
    | .Constant c _ _, .lit d => litB c d
    | .BinOp a op b _, .bin o ca cb => decide (op = bop o) && chkE n sg N sc true a ca && chkE n sg N sc true b cb
    | .UnaryOp .USub a _, .neg ca => chkE n sg N sc true a ca
    | .UnaryOp .Not a _, .not ca => chkE n sg N sc true a ca
    | .Compare a [op] [b] _, .cmp o ca cb => decide (op = cop o) && !behindInMarks op b && chkE n sg N sc true a ca && chkE n sg N sc true b cb
    | .Compare a [op, op'] [b, b'] _, .chain o o' ca cb cc => decide (op = cop o) && decide (op' = cop o') && !lastMarks [op, op'] [b, b'] && chkE n sg N sc true a ca && chkE n sg N sc true b cb && chkE n sg N sc true b' cc
    | .BoolOp op es _, c => chkB n sg N sc op es c
    | .IfExp t a b _, .ite cc ca cb => chkE n sg N sc true t cc && chkE n sg N sc m a ca && chkE n sg N sc m b cb
    | .Tuple es _ _, .tup cs => decide (cs.length ≤ 1000) && chkEs n sg N sc es cs
    | .List es _, .lst cs => decide (cs.length ≤ 1000) && chkEs n sg N sc es cs
    | .Subscript a (.Slice lo hi none _) _, .slice ca cl ch => chkE n sg N sc true a ca && chkO n sg N sc lo cl && chkO n sg N sc hi ch
    | .Subscript a (.Slice none none (some (.UnaryOp .USub (.Constant (.int 1) _ _) _)) _) _, .rev ca => chkE n sg N sc true a ca
    | .Subscript a i _, .sub ca ci => notSlice i && chkE n sg N sc true a ca && chkE n sg N sc true i ci
    | .Dict keys vals _, .dict cs => decide (keys.length ≤ 15) && chkP n sg N sc keys vals cs
    | .Attribute a f _, .attr ca f' => decide (f = f') && plainBase a && chkE n sg N sc false a ca
    | .Call (.Name x _) args [] _, c => nmOk x && glB sc x && args.all notStar && chkC n sg N sc x args c
    | .Call (.Attribute a x ap) args [] pos, c => plainBase a && args.all notStar && decide (args.length < 30) && (ap.endLine == pos.line) && chkM n sg N sc a x args c
    | .ListComp elt [⟨tg, iter, ifs, 0⟩] scope _, .lc vs ct ci c ce => notSet iter && chkI n sg N sc (isTupT tg) iter ci && blkC N sc scope (vs.filterMap fun i => (N[i]?).map fun x => (x, i)) && decide ((vs.filterMap fun i => (N[i]?).map fun x => (x, i)).map (·.2) = vs) && ((slT ct).all fun i => vs.contains i) &&
        chkT n N (relS scope sc) (fun x => scope.names.lookup x == some .cell) tg ct && chkIf n sg N (relS scope sc) ifs c && chkE n sg N (relS scope sc) false elt ce
    | _, _ => false
def chkB : Nat → Sig → List Str → Scope → PySem.BoolOp → List Expr → CE → Bool
  | 0, _, _, _, _, _, _ => false
  | n + 1, sg, N, sc, op, es, c => match es with
    | [] => false
    | e :: es => match es with
      | [] => chkE n sg N sc false e c
      | _ :: _ => match op, c with
        | .And, .and ca cb => chkE n sg N sc false e ca && chkB n sg N sc .And es cb
        | .Or, .or ca cb => chkE n sg N sc false e ca && chkB n sg N sc .Or es cb
        | _, _ => false
def chkEs : Nat → Sig → List Str → Scope → List Expr → List CE → Bool
  | 0, _, _, _, _, _ => false
  | n + 1, sg, N, sc, es, cs => match es, cs with
    | [], [] => true
    | e :: es, c :: cs => notStar e && chkE n sg N sc false e c && chkEs n sg N sc es cs
    | _, _ => false
def chkO : Nat → Sig → List Str → Scope → Option Expr → Option CE → Bool
  | 0, _, _, _, _, _ => false
  | n + 1, sg, N, sc, e, c => match e, c with
    | none, none => true
    | some e, some c => chkE n sg N sc true e c
    | _, _ => false
def chkIf : Nat → Sig → List Str → Scope → List Expr → Option CE → Bool
  | 0, _, _, _, _, _ => false
  | n + 1, sg, N, sc, es, c => match es, c with
    | [], none => true
    | [e], some c => chkE n sg N sc true e c
    | _, _ => false
def chkP : Nat → Sig → List Str → Scope → List (Option Expr) → List Expr → List CE → Bool
  | 0, _, _, _, _, _, _ => false
  | n + 1, sg, N, sc, ks, vs, cs => match ks, vs, cs with
    | [], [], [] => true
    | some k :: ks, v :: vs, ck :: cv :: cs => chkE n sg N sc false k ck && chkE n sg N sc false v cv && chkP n sg N sc ks vs cs
    | _, _, _ => false
def chkC : Nat → Sig → List Str → Scope → Str → List Expr → CE → Bool
  | 0, _, _, _, _, _, _ => false
  | n + 1, sg, N, sc, x, args, c => match c with
    | .c1 .sset ca => match args with
      | [.Call (.Name y _) [a] [] _] => decide (x = "sorted") && decide (y = "set") && glB sc y && notStar a && chkE n sg N sc true a ca
      | _ => false
    | .c1 b ca => match args with
      | [a] => simple1 b && decide (x = bn1 b) && chkE n sg N sc true a ca
      | _ => false
    | .c2 o ca cb => match args with
      | [a, b] => decide (x = bn2 o) && chkE n sg N sc true a ca && chkE n sg N sc true b cb
      | _ => false
    | .isi ca ty => match args with
      | [a, .Name y _] => decide (x = "isinstance") && decide (y = Str.ofString ty) && decide (ty ∈ tyNames) && glB sc y && chkE n sg N sc true a ca
      | _ => false
    | .dictp ca => match args with
      | [a] => decide (x = "dict") && chkE n sg N sc true a ca
      | _ => false
    | .rng t ci => match args with
      | [a] => decide (x = if t then ("tuple" : Str) else ("list" : Str)) && chkR n sg N sc a ci
      | _ => false
    | .call f cs => decide (x = f) && sg.fn.contains f && chkEs n sg N sc args cs
    | .new f cs => decide (x = f) && sg.nw.contains f && chkEs n sg N sc args cs
    | _ => false
def chkR : Nat → Sig → List Str → Scope → Expr → CI → Bool
  | 0, _, _, _, _, _ => false
  | n + 1, sg, N, sc, e, c => match e, c with
    | .Call (.Name x _) [a] [] _, .r1 ca => decide (x = "range") && glB sc x && notStar a && chkE n sg N sc false a ca
    | .Call (.Name x _) [a, b] [] _, .r2 ca cb => decide (x = "range") && glB sc x && notStar a && notStar b && chkE n sg N sc false a ca && chkE n sg N sc false b cb
    | _, _ => false
def chkM : Nat → Sig → List Str → Scope → Expr → Str → List Expr → CE → Bool
  | 0, _, _, _, _, _, _, _ => false
  | n + 1, sg, N, sc, a, x, args, c => match c with
    | .m1 .index ca cb => match args with
      | [b] => decide (x = "index") && chkE n sg N sc true a ca && chkE n sg N sc true b cb
      | _ => false
    | .m1 .get ca cb => match args with
      | [b] => decide (x = "get") && chkE n sg N sc true a ca && chkE n sg N sc true b cb
      | _ => false
    | .m2 .get ca cb cc => match args with
      | [b, b'] => decide (x = "get") && chkE n sg N sc true a ca && chkE n sg N sc true b cb && chkE n sg N sc false b' cc
      | _ => false
    | .mcall cl ca f cs => decide (x = f) && inMt sg cl f && chkE n sg N sc false a ca && chkEs n sg N sc args cs
    | _ => false
def chkI : Nat → Sig → List Str → Scope → Bool → Expr → CI → Bool
  | 0, _, _, _, _, _, _ => false
  | n + 1, sg, N, sc, tt, e, c => match c with
    | .e ca => chkE n sg N sc false e ca
    | .zip ca cb => match e with
      | .Call (.Name x _) [a, b] [] _ => tt && decide (x = "zip") && glB sc x && notStar a && notStar b && chkE n sg N sc false a ca && chkE n sg N sc false b cb
      | _ => false
    | c => chkR n sg N sc e c
end
end PL
set_option autoImplicit false
set_option linter.all false
set_option maxRecDepth 100000
set_option maxHeartbeats 4000000
set_option Elab.async false
namespace PL
open PySem PySem.Spec PyProof.Rows L2
structure SigOk (Φ : Fns) (sg : Sig) : Prop where
  fn : ∀ f, sg.fn.contains f = true → ∃ F, Φ.fn f = some F
  mt : ∀ c m, inMt sg c m = true → ∃ F, Φ.mt c m = some F
  nw : ∀ f, sg.nw.contains f = true → ∃ F, Φ.nw f = some F
  xc : ∀ d, sg.xc.contains d = true → ∃ c b, Φ.xs c d = some b
theorem visB_ok {sc : Scope} {x : Str} (h : visB sc x = true) : Vis sc x := by
  unfold visB at h
  split at h <;> first | exact .inl (by assumption) | exact .inr (.inl (by assumption)) | exact .inr (.inr (by assumption)) | cases h
theorem locB_ok {sc : Scope} {x : Str} (h : locB sc x = true) : Loc sc x := by
  unfold locB at h
  split at h <;> first | exact .inl (by assumption) | exact .inr (by assumption) | cases h
theorem isLoc_ok {sc : Scope} {x : Str} (h : isLoc sc x = true) : sc.names.lookup x = some .local := by
  unfold isLoc at h
  split at h <;> first | assumption | cases h
theorem glB_ok {X : Cx} {x : Str} (h : glB X.env.scope x = true) : Gl X x := by
  unfold glB at h
  split at h
  · assumption
  · cases h
theorem nmOk1 {x : Str} (h : nmOk x = true) : (x == ("__debug__" : Str)) = false ∧ (x == ("__classdict__" : Str)) = false := by
  unfold nmOk at h
  rw [Bool.and_eq_true, Bool.not_eq_true', Bool.not_eq_true'] at h
  exact h
theorem plain_text {e : Expr} (h : plainTest e = true) (env : PySem.Env) (whole : Sem Value) : isTrue e env whole = (do let v ← whole; standAt e.pos; holding [v] (truthy v)) := by
  cases e with
  | UnaryOp op x p => cases op <;> first | rfl | cases h
  | BoolOp _ _ _ => cases h
  | IfExp _ _ _ _ => cases h
  | Compare _ _ _ _ => cases h
  | _ => rfl
theorem plainIx_ok {i : Expr} (h : notSlice i = true) : PlainIx i := by
  intro o v
  cases i with
  | Slice _ _ _ _ => cases h
  | _ => rfl
theorem notSet_ok {e : Expr} (h : notSet e = true) (env : PySem.Env) (x : Value) : foldedSetIterable e env x = pure x := by
  cases e with
  | Set _ _ _ => cases h
  | _ => rfl
section
variable {Φ : Fns} {Cn : Str → Option Addr} {X : Cx} {k : Nat} {e a b c : Expr} {ce ca cb cc : CE} {pos : Pos}
structure Snd (Φ : Fns) (Cn : Str → Option Addr) (X : Cx) (m : Bool) (e : Expr) (c : CE) : Prop where
  b : SEB Φ Cn X e c
  v : m = false → SE Φ Cn X e c
  o : fresh c = true → SEO Φ Cn X e c
  t : ST Φ Cn X e c
theorem Snd.seo {m : Bool} (h : SEO Φ Cn X e ce) (p : plainTest e = true) : Snd Φ Cn X m e ce := ⟨h.se.seb, fun _ => h.se, fun _ => h, st_val h.se.seb (plain_text p X.env)⟩
theorem Snd.se {m : Bool} (h : SE Φ Cn X e ce) (f : fresh ce = false) (p : plainTest e = true) : Snd Φ Cn X m e ce := ⟨h.seb, fun _ => h, fun q => (by rw [f] at q; cases q), st_val h.seb (plain_text p X.env)⟩
theorem Snd.seb {m : Bool} (h : SEB Φ Cn X e ce) (hm : m = true) (f : fresh ce = false) (p : plainTest e = true) : Snd Φ Cn X m e ce := ⟨h, fun q => (by rw [hm] at q; cases q), fun q => (by rw [f] at q; cases q), st_val h (plain_text p X.env)⟩
theorem st_ite (hc : ST Φ Cn X c cc) (ha : ST Φ Cn X a ca) (hb : ST Φ Cn X b cb) : ST Φ Cn X (.IfExp c a b pos) (.ite cc ca cb) := by
  obtain ⟨tc, pc, fc⟩ := hc
  obtain ⟨ta, pa, fa⟩ := ha
  obtain ⟨tb, pb, fb⟩ := hb
  refine ⟨fun σ H Q => tc σ H fun d H1 => if d = true then ta σ H1 Q else tb σ H1 Q, ⟨fun pins s σ H Q I h => ?_⟩, fun {W S H σ Γ Hb d S' b0 Q} so en ev tr q => ?_⟩
  · refine isTrue_IfExp (thn (pc.run pins s σ H _ I h) fun d s1 ⟨H1, I1, q1⟩ => ?_)
    cases d with
    | true => exact pa.run pins s1 σ H1 Q I1 q1
    | false => exact pb.run pins s1 σ H1 Q I1 q1
  · rw [evE] at ev
    obtain ⟨x, S1, e1, ev1⟩ := bindOk ev
    clear ev
    obtain ⟨t, S2, e2, ev⟩ := bindOk ev1
    clear ev1
    obtain ⟨e2, rfl⟩ := truOk e2
    refine fc so en e1 e2 fun W1 H1 g1 so1 => ?_
    cases t with
    | true =>
      rw [if_pos rfl] at ev ⊢
      exact fa so1 (en.mono g1) ev tr fun W2 H2 g2 so2 => q W2 H2 (g1.trans g2) so2
    | false =>
      rw [if_neg Bool.false_ne_true] at ev ⊢
      exact fb so1 (en.mono g1) ev tr fun W2 H2 g2 so2 => q W2 H2 (g1.trans g2) so2
theorem assignEach_star : ∀ {es : List Expr}, es.all notStar = true → ∀ env : PySem.Env, (assignEach es env).length = es.length ∧ (assignEach es env).findIdx? (·.1) = none
  | [], _, _ => ⟨rfl, rfl⟩
  | e :: es, h, env => by
    rw [List.all_cons, Bool.and_eq_true] at h
    obtain ⟨h1, h2⟩ := assignEach_star h.2 env
    have e1 : assignEach (e :: es) env = (false, assign e env) :: assignEach es env := by
      have := h.1
      cases e <;> first | rfl | cases this
    rw [e1]
    refine ⟨by rw [List.length_cons, List.length_cons, h1], ?_⟩
    rw [List.findIdx?_cons]
    simp [h2]
theorem assign_cons {e : Expr} (h : notStar e = true) (es : List Expr) (env : PySem.Env) : (assignEach (e :: es) env).map (·.2) = assign e env :: (assignEach es env).map (·.2) := by
  cases e <;> first | rfl | cases h
theorem chkT_ok (hc : X.calm = true) (hN : X.N.Nodup) {fb : Str → Bool} (hf : ∀ x, fb x = true → X.fn x = true) : ∀ n : Nat, (∀ (e : Expr) (c : CT), chkT n X.N X.env.scope fb e c = true → PG X e (gC Cn X.K c)) ∧ (∀ (es : List Expr) (cs : List CT), chkTs n X.N X.env.scope fb es cs = true → PGs X es (gCs Cn X.K cs) ∧ es.all notStar = true ∧ es.length = cs.length)
  | 0 => ⟨fun _ _ h => (by unfold chkT at h; cases h), fun _ _ h => (by unfold chkTs at h; cases h)⟩
  | n + 1 => by
    obtain ⟨ih1, ih2⟩ := chkT_ok hc hN hf n
    constructor
    · intro e c h
      unfold chkT at h
      split at h
      · simp only [Bool.and_eq_true, Bool.or_eq_true, decide_eq_true_eq] at h
        obtain ⟨⟨h1, h2⟩, h3⟩ := h
        refine pg_nm hN h1 (locB_ok h2) ?_
        rcases h3 with h3 | h3
        · exact .inl (hf _ h3)
        · exact .inr (isLoc_ok h3)
      · obtain ⟨h1, h2, h3⟩ := ih2 _ _ h
        exact pg_tp hc h1 h3 (assignEach_star h2 X.env).1 (assignEach_star h2 X.env).2
      · cases h
    · intro es cs h
      unfold chkTs at h
      split at h
      · exact ⟨pgs_n, rfl, rfl⟩
      · simp only [Bool.and_eq_true] at h
        obtain ⟨⟨h1, h2⟩, h3⟩ := h
        obtain ⟨k1, k2, k3⟩ := ih2 _ _ h3
        exact ⟨pgs_c (ih1 _ _ h2) k1 (assign_cons h1 _ X.env), by rw [List.all_cons, h1, k2]; rfl, by rw [List.length_cons, List.length_cons, k3]⟩
      · cases h
end
theorem GX.blk {Φ : Fns} {Cn : Str → Option Addr} {k : Nat} {X : Cx} (g : GX Φ Cn k X) (s : Shared) (H : Hp) (scope : Scope) (env : PySem.Env) (fp : List Addr) : GX Φ Cn k (X.blk s H scope env fp) :=
  ⟨g.calm, g.nd, g.gu, g.room, g.blt, g.fn, g.mt, g.nw, g.fl, g.xn, g.xs⟩
structure SndAll (Φ : Fns) (Cn : Str → Option Addr) (k : Nat) (sg : Sig) (n : Nat) : Prop where
  e : ∀ (X : Cx) (_ : GX Φ Cn k X) (m : Bool) (e : Expr) (c : CE), chkE n sg X.N X.env.scope m e c = true → Snd Φ Cn X m e c
  bb : ∀ (X : Cx) (_ : GX Φ Cn k X) (op : PySem.BoolOp) (es : List Expr) (c : CE), chkB n sg X.N X.env.scope op es c = true → ∀ pos, SE Φ Cn X (.BoolOp op es pos) c ∧ SW (.BoolOp op es pos) c Φ Cn X ∧ (fresh c = true → SEO Φ Cn X (.BoolOp op es pos) c)
  es : ∀ (X : Cx) (_ : GX Φ Cn k X) (es : List Expr) (cs : List CE), chkEs n sg X.N X.env.scope es cs = true → SA Φ Cn X es cs ∧ es.all notStar = true
  o : ∀ (X : Cx) (_ : GX Φ Cn k X) (e : Option Expr) (c : Option CE), chkO n sg X.N X.env.scope e c = true → SO_ Φ Cn X e c
  i_ : ∀ (X : Cx) (_ : GX Φ Cn k X) (es : List Expr) (c : Option CE), chkIf n sg X.N X.env.scope es c = true → SC Φ Cn X es c
  p : ∀ (X : Cx) (_ : GX Φ Cn k X) (ks : List (Option Expr)) (vs : List Expr) (cs : List CE), chkP n sg X.N X.env.scope ks vs cs = true → ∀ pos, SPs Φ Cn X pos ks vs cs ∧ ks.all (·.isSome) = true ∧ ks.length = vs.length ∧ (ks = [] → vs = [] ∧ cs = [])
  c : ∀ (X : Cx) (_ : GX Φ Cn k X) (x : Str) (args : List Expr) (c : CE), chkC n sg X.N X.env.scope x args c = true → nmOk x = true → glB X.env.scope x = true → args.all notStar = true → ∀ (m : Bool) (p pos : Pos), Snd Φ Cn X m (.Call (.Name x p) args [] pos) c
  r : ∀ (X : Cx) (_ : GX Φ Cn k X) (e : Expr) (c : CI), chkR n sg X.N X.env.scope e c = true → SRg Φ Cn X e c ∧ ∀ tg, SI Φ Cn X tg e c
  m : ∀ (X : Cx) (_ : GX Φ Cn k X) (a : Expr) (x : Str) (args : List Expr) (c : CE), chkM n sg X.N X.env.scope a x args c = true → plainBase a = true → args.all notStar = true → args.length < 30 → ∀ (m : Bool) (ap pos : Pos), (ap.endLine == pos.line) = true → Snd Φ Cn X m (.Call (.Attribute a x ap) args [] pos) c
  i : ∀ (X : Cx) (_ : GX Φ Cn k X) (tg e : Expr) (c : CI), chkI n sg X.N X.env.scope (isTupT tg) e c = true → SI Φ Cn X tg e c
section
variable {Φ : Fns} {Cn : Str → Option Addr} {k : Nat} {sg : Sig}
theorem snd_E (sgo : SigOk Φ sg) {n : Nat} (ih : SndAll Φ Cn k sg n) (X : Cx) (g : GX Φ Cn k X) (m : Bool) (e : Expr) (c : CE) (h : chkE (n + 1) sg X.N X.env.scope m e c = true) : Snd Φ Cn X m e c := by
  unfold chkE at h
  split at h
  · simp only [Bool.and_eq_true] at h
    obtain ⟨⟨h1, h2⟩, h3⟩ := h
    exact .se (se_box ((ih.e X g _ _ _ h3).o h1)) rfl h2
  · simp only [Bool.and_eq_true] at h
    obtain ⟨⟨h1, h2⟩, h3⟩ := h
    exact .seo (seo_lock ((ih.e X g _ _ _ h3).o h1)) h2
  · simp only [Bool.and_eq_true, decide_eq_true_eq] at h
    obtain ⟨⟨h1, h2⟩, h3⟩ := h
    exact .se (se_var h1 (visB_ok h2) (nmOk1 h3).1 (nmOk1 h3).2) rfl rfl
  · simp only [Bool.and_eq_true, decide_eq_true_eq] at h
    obtain ⟨⟨⟨h0, h1⟩, h2⟩, h3⟩ := h
    exact .seb (seb_bor h1 (visB_ok h2) (nmOk1 h3).1 (nmOk1 h3).2) h0 rfl rfl
  · rename_i c0 _ _ d
    unfold litB at h
    split at h
    · exact .seo (seo_c pe_non (fun _ => .non) (fun _ h => nomatch h)) rfl
    · rw [beq_iff_eq] at h
      subst h
      exact .seo (seo_c pe_bl (fun _ => .bl _) (fun _ h => nomatch h)) rfl
    · rw [decide_eq_true_eq] at h
      subst h
      exact .seo (seo_c pe_int (fun _ => .int _) (fun _ h => nomatch h)) rfl
    · rw [decide_eq_true_eq] at h
      subst h
      exact .seo (seo_c pe_str (fun _ => .str _) (fun _ h => nomatch h)) rfl
    · cases h
  · simp only [Bool.and_eq_true, decide_eq_true_eq] at h
    obtain ⟨⟨h1, h2⟩, h3⟩ := h
    subst h1
    exact .seo (seo_bin (ih.e X g _ _ _ h2).b (ih.e X g _ _ _ h3).b) rfl
  · exact .seo (seo_neg (ih.e X g _ _ _ h).b) rfl
  · have h1 := ih.e X g _ _ _ h
    have s := seo_not (Cn := Cn) (pos := by assumption) h1.b
    exact ⟨s.se.seb, fun _ => s.se, fun q => (nomatch q), st_not h1.t⟩
  · simp only [Bool.and_eq_true, decide_eq_true_eq, Bool.not_eq_true'] at h
    obtain ⟨⟨⟨h1, h2⟩, h3⟩, h4⟩ := h
    subst h1
    have s := seo_cmp (pos := by assumption) g (ih.e X g _ _ _ h3).b (ih.e X g _ _ _ h4).b h2
    exact ⟨s.se.seb, fun _ => s.se, fun q => (nomatch q), st_cmp g (ih.e X g _ _ _ h3).b (ih.e X g _ _ _ h4).b h2⟩
  · simp only [Bool.and_eq_true, decide_eq_true_eq, Bool.not_eq_true'] at h
    obtain ⟨⟨⟨⟨⟨h1, h2⟩, h3⟩, h4⟩, h5⟩, h6⟩ := h
    subst h1
    subst h2
    have s := seo_chain (pos := by assumption) g (ih.e X g _ _ _ h4).b (ih.e X g _ _ _ h5).b (ih.e X g _ _ _ h6).b h3
    exact ⟨s.se.seb, fun _ => s.se, fun q => (nomatch q), st_chain g (ih.e X g _ _ _ h4).b (ih.e X g _ _ _ h5).b (ih.e X g _ _ _ h6).b h3⟩
  · obtain ⟨h1, h2, h3⟩ := ih.bb X g _ _ _ h (by assumption)
    exact ⟨h1.seb, fun _ => h1, h3, h2.st⟩
  · simp only [Bool.and_eq_true] at h
    obtain ⟨⟨h1, h2⟩, h3⟩ := h
    have s1 := ih.e X g _ _ _ h1
    have s2 := ih.e X g _ _ _ h2
    have s3 := ih.e X g _ _ _ h3
    exact ⟨seb_ite s1.t s2.b s3.b, fun hm => se_ite s1.t (s2.v hm) (s3.v hm), fun q => (nomatch q), st_ite s1.t s2.t s3.t⟩
  · simp only [Bool.and_eq_true, decide_eq_true_eq] at h
    exact .seo (seo_tup (ih.es X g _ _ h.2).1 h.1) rfl
  · simp only [Bool.and_eq_true, decide_eq_true_eq] at h
    exact .seo (seo_lst (ih.es X g _ _ h.2).1 h.1) rfl
  · simp only [Bool.and_eq_true] at h
    obtain ⟨⟨h1, h2⟩, h3⟩ := h
    exact .seo (seo_slice (ih.e X g _ _ _ h1).b (ih.o X g _ _ h2) (ih.o X g _ _ h3)) rfl
  · exact .seo (seo_rev (ih.e X g _ _ _ h).b) rfl
  · simp only [Bool.and_eq_true] at h
    obtain ⟨⟨h1, h2⟩, h3⟩ := h
    exact .se (se_sub g (ih.e X g _ _ _ h2).b (ih.e X g _ _ _ h3).b (plainIx_ok h1)) rfl rfl
  · rename_i keys vals ps cs
    simp only [Bool.and_eq_true, decide_eq_true_eq] at h
    obtain ⟨h1, h2⟩ := h
    obtain ⟨p1, p2, p3, p4⟩ := ih.p X g _ _ _ h2 ps
    by_cases hk : keys = []
    · obtain ⟨rfl, rfl⟩ := p4 hk
      subst hk
      exact .se se_dict0 rfl rfl
    · exact .se (se_dict p1 p2 p3 hk h1) rfl rfl
  · simp only [Bool.and_eq_true, decide_eq_true_eq] at h
    obtain ⟨⟨h1, h2⟩, h3⟩ := h
    subst h1
    exact .se (se_attr g ((ih.e X g _ _ _ h3).v rfl) h2) rfl rfl
  · simp only [Bool.and_eq_true] at h
    obtain ⟨⟨⟨h1, h2⟩, h3⟩, h4⟩ := h
    exact ih.c X g _ _ _ h4 h1 h2 h3 m _ _
  · simp only [Bool.and_eq_true, decide_eq_true_eq] at h
    obtain ⟨⟨⟨⟨h1, h2⟩, h3⟩, h4⟩, h5⟩ := h
    exact ih.m X g _ _ _ _ h5 h1 h2 h3 m _ _ h4
  · simp only [Bool.and_eq_true, decide_eq_true_eq] at h
    obtain ⟨⟨⟨⟨⟨⟨⟨h1, h2⟩, h3⟩, h4⟩, h5⟩, h6⟩, h7⟩, h8⟩ := h
    have s := seo_lcE (pos := by assumption) g (ih.i X g _ _ _ h2) (blkOk_by h3) (by
        intro i hi
        rw [h4]
        simpa using List.all_eq_true.mp h5 i hi)
      (fun s H C cl fp => (chkT_ok (X := X.blk s H _ (compEnvC _ cl C X.env) fp) g.calm g.nd (fun x hx => hx) n).1 _ _ h6)
      (fun s H C cl fp => ih.i_ (X.blk s H _ (compEnvC _ cl C X.env) fp) (g.blk s H _ _ fp) _ _ h7)
      (fun s H C cl fp => (ih.e (X.blk s H _ (compEnvC _ cl C X.env) fp) (g.blk s H _ _ fp) _ _ _ h8).v rfl)
      (fun x => notSet_ok h1 X.env x)
    rw [h4] at s
    exact .seo s rfl
  · cases h
theorem snd_all (sgo : SigOk Φ sg) : ∀ n : Nat, SndAll Φ Cn k sg n
  | 0 => ⟨fun _ _ _ _ _ h => (by unfold chkE at h; cases h), fun _ _ _ _ _ h => (by unfold chkB at h; cases h), fun _ _ _ _ h => (by unfold chkEs at h; cases h), fun _ _ _ _ h => (by unfold chkO at h; cases h), fun _ _ _ _ h => (by unfold chkIf at h; cases h),
      fun _ _ _ _ _ h => (by unfold chkP at h; cases h), fun _ _ _ _ _ h => (by unfold chkC at h; cases h), fun _ _ _ _ h => (by unfold chkR at h; cases h), fun _ _ _ _ _ _ h => (by unfold chkM at h; cases h), fun _ _ _ _ _ h => (by unfold chkI at h; cases h)⟩
  | n + 1 => by
    have ih := snd_all sgo n
    refine ⟨fun X g m e c h => snd_E sgo ih X g m e c h, ?_, ?_, ?_, ?_, ?_, ?_, ?_, ?_, ?_⟩
    · intro X g op es c h pos
      unfold chkB at h
      split at h
      · cases h
      · rename_i e es'
        split at h
        · have s := ih.e X g _ _ _ h
          refine ⟨se_one (s.v rfl), sw_one s.t, fun hf => ?_⟩
          obtain ⟨t, p, f⟩ := s.o hf
          exact ⟨t, pe_one p, f⟩
        · split at h
          · rw [Bool.and_eq_true] at h
            have s := ih.e X g _ _ _ h.1
            obtain ⟨s1, s2, _⟩ := ih.bb X g _ _ _ h.2 pos
            exact ⟨se_and (s.v rfl) s1, sw_and s.t s2, fun hf => nomatch hf⟩
          · rw [Bool.and_eq_true] at h
            have s := ih.e X g _ _ _ h.1
            obtain ⟨s1, s2, _⟩ := ih.bb X g _ _ _ h.2 pos
            exact ⟨se_or (s.v rfl) s1, sw_or s.t s2, fun hf => nomatch hf⟩
          · cases h
    · intro X g es cs h
      unfold chkEs at h
      split at h
      · exact ⟨sa_nil, rfl⟩
      · simp only [Bool.and_eq_true] at h
        obtain ⟨⟨h1, h2⟩, h3⟩ := h
        obtain ⟨k1, k2⟩ := ih.es X g _ _ h3
        exact ⟨sa_cons ((ih.e X g _ _ _ h2).v rfl) k1 (star_cons h1 _ _), by rw [List.all_cons, h1, k2]; rfl⟩
      · cases h
    · intro X g e c h
      unfold chkO at h
      split at h
      · exact so_none
      · exact so_some (ih.e X g _ _ _ h).b
      · cases h
    · intro X g es c h
      unfold chkIf at h
      split at h
      · exact True.intro
      · exact (ih.e X g _ _ _ h).t
      · cases h
    · intro X g ks vs cs h pos
      unfold chkP at h
      split at h
      · exact ⟨sps_nil, rfl, rfl, fun _ => ⟨rfl, rfl⟩⟩
      · simp only [Bool.and_eq_true] at h
        obtain ⟨⟨h1, h2⟩, h3⟩ := h
        obtain ⟨k1, k2, k3, _⟩ := ih.p X g _ _ _ h3 pos
        exact ⟨sps_cons ((ih.e X g _ _ _ h1).v rfl) ((ih.e X g _ _ _ h2).v rfl) k1, by rw [List.all_cons, k2]; rfl, by rw [List.length_cons, List.length_cons, k3], fun e => nomatch e⟩
      · cases h
    · intro X g x args c h hx hg hs m p pos
      unfold chkC at h
      split at h
      · split at h
        · simp only [Bool.and_eq_true, decide_eq_true_eq] at h
          obtain ⟨⟨⟨⟨h1, h2⟩, h3⟩, h4⟩, h5⟩ := h
          subst h1
          subst h2
          exact .seo (seo_sset g (glB_ok hg) (glB_ok h3) (ih.e X g _ _ _ h5).b h4) rfl
        · cases h
      · split at h
        · simp only [Bool.and_eq_true, decide_eq_true_eq] at h
          obtain ⟨⟨h1, h2⟩, h3⟩ := h
          subst h2
          rw [List.all_cons, Bool.and_eq_true] at hs
          exact .seo (seo_c1 g h1 (glB_ok hg) (ih.e X g _ _ _ h3).b hs.1) rfl
        · cases h
      · split at h
        · simp only [Bool.and_eq_true, decide_eq_true_eq] at h
          obtain ⟨⟨h1, h2⟩, h3⟩ := h
          subst h1
          rw [List.all_cons, List.all_cons, Bool.and_eq_true, Bool.and_eq_true] at hs
          exact .seo (seo_c2 g (glB_ok hg) (ih.e X g _ _ _ h2).b (ih.e X g _ _ _ h3).b hs.1 hs.2.1) rfl
        · cases h
      · split at h
        · simp only [Bool.and_eq_true, decide_eq_true_eq] at h
          obtain ⟨⟨⟨⟨h1, h2⟩, h3⟩, h4⟩, h5⟩ := h
          subst h1
          subst h2
          rw [List.all_cons, Bool.and_eq_true] at hs
          exact .seo (seo_isi g (glB_ok hg) (glB_ok h4) h3 (ih.e X g _ _ _ h5).b hs.1) rfl
        · cases h
      · split at h
        · simp only [Bool.and_eq_true, decide_eq_true_eq] at h
          obtain ⟨h1, h2⟩ := h
          subst h1
          rw [List.all_cons, Bool.and_eq_true] at hs
          exact .se (se_dictp g (glB_ok hg) (ih.e X g _ _ _ h2).b hs.1) rfl rfl
        · cases h
      · split at h
        · simp only [Bool.and_eq_true, decide_eq_true_eq] at h
          obtain ⟨h1, h2⟩ := h
          subst h1
          rw [List.all_cons, Bool.and_eq_true] at hs
          exact .seo (seo_rng g (glB_ok hg) (ih.r X g _ _ h2).1 hs.1) rfl
        · cases h
      · rename_i f cs
        simp only [Bool.and_eq_true, decide_eq_true_eq] at h
        obtain ⟨⟨h1, h2⟩, h3⟩ := h
        subst h1
        obtain ⟨F, hF⟩ := sgo.fn _ h2
        cases args with
        | nil =>
          have hc : cs = [] := by
            cases n with
            | zero => unfold chkEs at h3; cases h3
            | succ n =>
              unfold chkEs at h3
              cases cs with
              | nil => rfl
              | cons _ _ => cases h3
          subst hc
          exact .se (se_call0 g hF (glB_ok hg) (nmOk1 hx).1) rfl rfl
        | cons a as => exact .se (se_call g hF (glB_ok hg) (ih.es X g _ _ h3).1 hs (nmOk1 hx).1) rfl rfl
      · rename_i f cs
        simp only [Bool.and_eq_true, decide_eq_true_eq] at h
        obtain ⟨⟨h1, h2⟩, h3⟩ := h
        subst h1
        obtain ⟨F, hF⟩ := sgo.nw _ h2
        cases args with
        | nil =>
          have hc : cs = [] := by
            cases n with
            | zero => unfold chkEs at h3; cases h3
            | succ n =>
              unfold chkEs at h3
              cases cs with
              | nil => rfl
              | cons _ _ => cases h3
          subst hc
          exact .se (se_new0 g hF (glB_ok hg) (nmOk1 hx).1) rfl rfl
        | cons a as => exact .se (se_new g hF (glB_ok hg) (ih.es X g _ _ h3).1 hs (nmOk1 hx).1) rfl rfl
      · cases h
    · intro X g e c h
      unfold chkR at h
      split at h
      · simp only [Bool.and_eq_true, decide_eq_true_eq] at h
        obtain ⟨⟨⟨h1, h2⟩, h3⟩, h4⟩ := h
        subst h1
        have s := (ih.e X g _ _ _ h4).v rfl
        exact ⟨srg_1 g (glB_ok h2) s h3, fun tg => si_r1 (glB_ok h2) (g.blt _ (by decide)) s (star_cons h3 [] X.env)⟩
      · simp only [Bool.and_eq_true, decide_eq_true_eq] at h
        obtain ⟨⟨⟨⟨⟨h1, h2⟩, h3⟩, h4⟩, h5⟩, h6⟩ := h
        subst h1
        have s := (ih.e X g _ _ _ h5).v rfl
        have s2 := (ih.e X g _ _ _ h6).v rfl
        have e2 := star_cons h4 [] X.env
        exact ⟨srg_2 g (glB_ok h2) s s2 h3 h4, fun tg => si_r2 (glB_ok h2) (g.blt _ (by decide)) s s2 (by rw [star_cons h3 _ X.env, e2]; rfl) e2⟩
      · cases h
    · intro X g a x args c h hb hs hl m ap pos hline
      unfold chkM at h
      split at h
      · split at h
        · simp only [Bool.and_eq_true, decide_eq_true_eq] at h
          obtain ⟨⟨h1, h2⟩, h3⟩ := h
          subst h1
          rw [List.all_cons, Bool.and_eq_true] at hs
          have s := seo_index (Cn := Cn) g (ih.e X g _ _ _ h2).b (ih.e X g _ _ _ h3).b hb hs.1 hline
          exact ⟨s.se.seb, fun _ => s.se, fun q => (nomatch q), st_val s.se.seb (plain_text rfl X.env)⟩
        · cases h
      · split at h
        · simp only [Bool.and_eq_true, decide_eq_true_eq] at h
          obtain ⟨⟨h1, h2⟩, h3⟩ := h
          subst h1
          rw [List.all_cons, Bool.and_eq_true] at hs
          exact .se (se_get1 g (ih.e X g _ _ _ h2).b (ih.e X g _ _ _ h3).b hb hs.1 hline) rfl rfl
        · cases h
      · split at h
        · simp only [Bool.and_eq_true, decide_eq_true_eq] at h
          obtain ⟨⟨⟨h1, h2⟩, h3⟩, h4⟩ := h
          subst h1
          rw [List.all_cons, List.all_cons, Bool.and_eq_true, Bool.and_eq_true] at hs
          exact .se (se_get2 g (ih.e X g _ _ _ h2).b (ih.e X g _ _ _ h3).b ((ih.e X g _ _ _ h4).v rfl) hb hs.1 hs.2.1 hline) rfl rfl
        · cases h
      · rename_i cl ca f cs
        simp only [Bool.and_eq_true, decide_eq_true_eq] at h
        obtain ⟨⟨⟨h1, h2⟩, h3⟩, h4⟩ := h
        subst h1
        obtain ⟨F, hF⟩ := sgo.mt _ _ h2
        cases args with
        | nil =>
          have hc : cs = [] := by
            cases n with
            | zero => unfold chkEs at h4; cases h4
            | succ n =>
              unfold chkEs at h4
              cases cs with
              | nil => rfl
              | cons _ _ => cases h4
          subst hc
          exact .se (se_mcall0 g hF ((ih.e X g _ _ _ h3).v rfl) hb hline) rfl rfl
        | cons a' as => exact .se (se_mcall g hF ((ih.e X g _ _ _ h3).v rfl) (ih.es X g _ _ h4).1 hb hs hl hline) rfl rfl
      · cases h
    · intro X g tg e c h
      unfold chkI at h
      split at h
      · exact si_e ((ih.e X g _ _ _ h).v rfl)
      · split at h
        · simp only [Bool.and_eq_true, decide_eq_true_eq] at h
          obtain ⟨⟨⟨⟨⟨⟨h0, h1⟩, h2⟩, h3⟩, h4⟩, h5⟩, h6⟩ := h
          subst h1
          cases tg with
          | Tuple elts kk tpos =>
            have s := (ih.e X g _ _ _ h5).v rfl
            have s2 := (ih.e X g _ _ _ h6).v rfl
            have e2 := star_cons h4 [] X.env
            exact si_zip (glB_ok h2) (g.blt _ (by decide)) s s2 (by rw [star_cons h3 _ X.env, e2]; rfl) e2
          | _ => cases h0
        · cases h
      · exact (ih.r X g _ _ h).2 tg
end
end PL
set_option autoImplicit false
set_option linter.all false
set_option maxRecDepth 100000
set_option maxHeartbeats 4000000
set_option Elab.async false
namespace PL
open PySem PySem.Spec PyProof.Rows L2
section
variable {Φ : Fns} {Cn : Str → Option Addr} {X : Cx} {k : Nat} {Wx : WX} {e a b c : Expr} {ce ca cb cc : CE} {pos p : Pos} {es : List Expr} {f m : Str} {xc : CX_}
theorem sx_asgX {tg : Expr} {cl : CL} (pe : PE X e (tXE Φ Cn X.K Wx xc)) (hg : PG X tg (gLc Φ Cn X.K cl)) (hs : swapsWithSole [tg] e pos.line X.env = pure false) (hw : swappedStores [tg] e X.env = pure none) (h1 : (assignEach [tg] X.env).map (·.2) = [assign tg X.env]) : PS X (.Assign [tg] e pos) (tX Φ Cn X.K Wx (.asgX cl xc)) := by
  refine ⟨fun pins s σ H D I ⟨Wb, Hb, W, S, Γ, g0, so, en, q⟩ => (ps_asg pe hg hs hw h1).run pins s σ H D I ?_⟩
  rw [exS] at q
  refine ⟨W, S, Γ, Hb, so, en, ?_⟩
  cases e1 : evX Φ xc Γ S with
  | no => rw [e1] at q; exact q.elim
  | ex x S1 => rw [e1] at q; exact fun cls d W1 H1 g1 so1 xr => q cls d σ W1 H1 (g0.trans g1) g1.gs so1 xr
  | ok d S1 =>
    rw [e1] at q
    rw [bind_ok] at q
    cases e2 : noX ((asgL Φ cl d Γ S1).bind fun Γ1 S2 => (.ok (.nx Γ1) S2 : R Fl)) with
    | no => rw [e2] at q; exact q.elim
    | ex x S2 => exact (noX_ex e2).elim
    | ok fl S2 =>
      rw [e2] at q
      obtain ⟨Γ1, S3, e3, e4⟩ := bindOk (noXok e2)
      cases e4
      exact fun v W1 H1 g1 so1 r1 => ⟨Wb, Hb, W1, S1, Γ, d, Γ1, _, g0.trans g1, so1, en.mono g1, r1, e3, fun σ' W' H' n => q σ' W' H' (n.step g1.gs)⟩
theorem sx_dropX (pe : PE X e (tXE Φ Cn X.K Wx xc)) (hs : swapsWith e none pos.line X.env = pure false) : PS X (.Expr e pos) (tX Φ Cn X.K Wx (.dropX xc)) := by
  refine ⟨fun pins s σ H D I ⟨Wb, Hb, W, S, Γ, g0, so, en, q⟩ => (ps_expr pe hs).run pins s σ H D I ?_⟩
  rw [exS] at q
  refine ⟨W, S, Γ, Hb, so, en, ?_⟩
  cases e1 : evX Φ xc Γ S with
  | no => rw [e1] at q; exact q.elim
  | ex x S1 => rw [e1] at q; exact fun cls d W1 H1 g1 so1 xr => q cls d σ W1 H1 (g0.trans g1) g1.gs so1 xr
  | ok d S1 => rw [e1] at q; exact fun v W1 H1 g1 so1 r1 => q σ W1 H1 (mk_now g0 g1 so1 en)
theorem sx_raise {c : Str} {p1 p2 : Pos} (tk : Takes X Wx) (gs : GS Φ Cn k X) (hg : Gl X c) (hdb : (c == ("__debug__" : Str)) = false) (he : SE Φ Cn X e ce) (hs : notStar e = true) : PS X (.Raise (some (.Call (.Name c p1) [e] [] p2)) none pos) (tX Φ Cn X.K Wx (.raise_ c ce)) := by
  obtain ⟨te, pe, fe⟩ := he
  refine ⟨fun pins s σ H D I ⟨Wb, Hb, W, S, Γ, g0, so, en, q⟩ => ?_⟩
  rw [exS] at q
  split at q
  · rename_i f t hx
    obtain ⟨C, fI, fd, ps, hC, hm, xc, iC, tI, F1, hb⟩ := gs.xn c f t hx
    have pm := pmk_oex (p := p1) (pos := p2) (dvs := []) xc.o iC tI F1 gs.room hb .nil passes_no hg hm (pa_cons pe pa_nil (star_cons hs [] X.env)) hdb (star_cons hs [] X.env) (star_all rfl p2 X.env).1
    refine (ps_raise (pos := pos) gs.calm tk pm).run pins s σ H D I ?_
    cases e1 : noX (evE Φ ce Γ S) with
    | no => rw [e1] at q; exact q.elim
    | ex x S1 => exact (noX_ex e1).elim
    | ok d S1 =>
      rw [e1] at q
      rw [bind_ok] at q
      split at q
      · rename_i hok
        refine fe so en (noXok e1) fun v W1 H1 g1 so1 r1 => ⟨by simp, fun a na => ?_⟩
        have xv : XVal t v := by
          cases r1 with
          | int i => exact .inr ⟨by simpa [xOk] using hok, i, rfl⟩
          | str s => exact .inl ⟨s, rfl, by simpa [xOk] using hok⟩
          | _ => simp [xOk, scr] at hok
        refine ⟨a, v, rfl, xv, upd_same, fun dx nd ne => ?_⟩
        have nd1 : H1 dx = none := by rw [upd_ne ne] at nd; exact nd
        refine ⟨rfl, dx, [(f, v)], upd_same, ?_, nd1, ?_⟩
        · rw [upd_ne ne, upd_same]
        · have eH : upd (del (upd (upd (upd H1 a (exo a C none)) dx (exd dx [(f, v)])) a (exo a C (some dx))) a) dx (.xd [(f, v)]) = upd H1 dx (.xd [(f, v)]) := by
            funext y
            by_cases h1 : y = dx
            · rw [h1, upd_same, upd_same]
            · rw [upd_ne h1, upd_ne h1]
              by_cases h2 : y = a
              · rw [h2, del_same, na]
              · rw [del_ne h2, upd_ne h2, upd_ne h1, upd_ne h2]
          rw [eH]
          have g2 : Gr W1 H1 W1 (upd H1 dx (.xd [(f, v)])) := Gr.made nd1
          refine q (.ref C) (some dx) σ W1 _ ((g0.trans g1).trans g2) (g1.trans g2).gs (so1.made nd1) ⟨C, dx, [(f, v)], hC, rfl, rfl, upd_same, .cons r1 .nil⟩
      · exact q.elim
  · exact q.elim
def tH (Φ : Fns) (Cn : Str → Option Addr) (K : PySem.W.Frag) (nN : Nat) (hd : Hd) (a : Addr) (cls : Value) (d : Option Addr) : TS := fun De σ H =>
  ∃ (W : Wd) (S : Store) (x : XD) (dd : D) (S' : Store), StOk K Cn W S H ∧ XRep K Cn W H x cls d ∧ (∀ i w f tys, hd = .word i w f tys → i < σ.length → σ[i]? = some (some (.ref a))) ∧ exH Φ x S hd = .ok (.ret dd) S' ∧
    ∀ v W' H', Gr W H W' H' → StOk K Cn W' S' H' → Rep K W' v dd → De.rt v H'
theorem FRep.has {K : PySem.W.Frag} {W : Wd} {r : List (Str × V)} {s : List (Str × D)} (h : FRep K W r s) {f : Str} {d : D} (e : ffind s f = some d) : ∃ v, r.lookup f = some v ∧ Rep K W v d := by
  have q := h.look f
  rw [e] at q
  obtain ⟨v, h1, h2⟩ := q
  exact ⟨v, h1, h2⟩
theorem litD_rep {W : Wd} {j : Nat} {pos : Pos} {k : Const} {d : D} (h : litB k d = true) : ∃ (v : V), PE X (.Constant k j pos) (tC v) ∧ Rep X.K W v d := by
  unfold litB at h
  split at h
  · exact ⟨.non, pe_non, .non⟩
  · rw [beq_iff_eq] at h; subst h; exact ⟨.bl _, pe_bl, .bl _⟩
  · have h := of_decide_eq_true h; subst h; exact ⟨.int _, pe_int, .int _⟩
  · have h := of_decide_eq_true h; subst h; exact ⟨.str _, pe_str, .str _⟩
  · cases h
theorem suite_lit {a : Addr} {oe : Obj} {cls : Value} {d : Option Addr} {pn : List (Addr × Obj)} {k : Const} {j : Nat} {p1 p2 : Pos} {dl : D} {nN : Nat} (h : litB k dl = true) : PSs (X.suite a ((a, oe) :: pn)) [.Return (some (.Constant k j p1)) p2] (tH Φ Cn X.K nN (.lit dl) a cls d) := by
  refine ⟨fun pins s σ H D I ⟨W, S, x, dd, S', so, xr, hi, e, q⟩ => ?_⟩
  obtain ⟨v, pe, r⟩ := litD_rep (X := X.suite a ((a, oe) :: pn)) (W := W) (j := j) (pos := p1) h
  refine (pss_one (ps_ret pe)).run pins s σ H D I ?_
  rw [exH] at e
  cases e
  exact q v W H (Gr.refl W H) so r
def chkTy (sc : Scope) (n : Str) : Expr → List Str → Bool
  | .Call (.Name i _) [.Name m _, .Name ty _] [] _, [ty'] => decide (i = "isinstance") && decide (m = n) && decide (ty = ty') && glB sc ty && glB sc "isinstance"
  | .BoolOp .And [.Call (.Name i _) [.Name m _, .Name ty _] [] _, .Call (.Name i2 _) [.Name m2 _, .Name ty2 _] [] _] _, [ty', ty2'] => decide (i = "isinstance") && decide (m = n) && decide (ty = ty') && glB sc ty && glB sc "isinstance" && decide (i2 = "isinstance") && decide (m2 = n) && decide (ty2 = ty2') && glB sc ty2
  | _, _ => false
section
variable {C : Addr} {g n cn : Str} {a : Addr} {oe : Obj} {d : Option Addr} {pn : List (Addr × Obj)} {i : Nat}
theorem pt_tys {test : Expr} {tys : List Str} (xc : XCls X.K C g) (hz : Zc (.ref C) d oe) (hf : ∃ vs, oe.data = .fields vs) (hC : Cn cn = some C) (hs : ∀ ty ∈ tys, XSub X.K X.mg Cn cn ty true) (hb : X.mg "isinstance" = none)
    (hN : X.N[i]? = some n) (hv : Vis X.env.scope n) (hd : (n == ("__debug__" : Str)) = false) (hcd : (n == ("__classdict__" : Str)) = false) (h : chkTy X.env.scope n test tys = true) : PT (X.suite a ((a, oe) :: pn)) test (tIs i a d) := by
  unfold chkTy at h
  split at h
  · simp only [Bool.and_eq_true, decide_eq_true_eq] at h
    obtain ⟨⟨⟨⟨h1, h2⟩, h3⟩, h4⟩, h5⟩ := h
    subst h1 h2 h3
    exact pt_is xc hz hf hC (hs _ List.mem_cons_self) (glB_ok h4) (glB_ok h5) hb hN hv hd hcd
  · simp only [Bool.and_eq_true, decide_eq_true_eq] at h
    obtain ⟨⟨⟨⟨⟨⟨⟨⟨h1, h2⟩, h3⟩, h4⟩, h5⟩, h6⟩, h7⟩, h8⟩, h9⟩ := h
    subst h1 h2 h3 h6 h7 h8
    have t1 := fun p1 p2 p3 p4 => pt_is (p1 := p1) (p2 := p2) (p3 := p3) (p4 := p4) (a := a) (pn := pn) xc hz hf hC (hs _ List.mem_cons_self) (glB_ok h4) (glB_ok h5) hb hN hv hd hcd
    have t2 := fun p1 p2 p3 p4 => pt_is (p1 := p1) (p2 := p2) (p3 := p3) (p4 := p4) (a := a) (pn := pn) xc hz hf hC (hs _ (List.mem_cons_of_mem _ List.mem_cons_self)) (glB_ok h9) (glB_ok h5) hb hN hv hd hcd
    refine ⟨fun pins s σ H Q I ⟨e, f, q⟩ => (pw_and (t1 _ _ _ _) (pw_and1 (t2 _ _ _ _))).pt.run pins s σ H Q I ?_⟩
    exact ⟨e, f, by dsimp only; rw [if_pos rfl]; exact ⟨e, f, q⟩⟩
  · cases h
end
theorem suite_word {n : Str} {a : Addr} {oe : Obj} {cls : Value} {d : Option Addr} {pn : List (Addr × Obj)} {i : Nat} {w : Str} {tys : List Str} {test : Expr} {j j2 : Nat} {p1 p2 p3 p4 p5 p6 p7 : Pos} (g : GX Φ Cn k X) (hz : Zc cls d oe) (hf : ∃ vs, oe.data = .fields vs)
    (hN : X.N[i]? = some n) (hv : Vis X.env.scope n) (hd : (n == ("__debug__" : Str)) = false) (hcd : (n == ("__classdict__" : Str)) = false) (h : chkTy X.env.scope n test tys = true) :
    PSs (X.suite a ((a, oe) :: pn)) [.Return (some (.IfExp test (.List [.Constant (.str w) j p1, .Attribute (.Name n p2) f p3] p4) (.Constant .none j2 p5) p6)) p7] (tH Φ Cn X.K X.N.length (.word i w f tys) a cls d) := by
  refine ⟨fun pins s σ H D I ⟨W, S, x, dd, S', so, xr, hi, e, q⟩ => ?_⟩
  have hi' := hi i w f tys rfl (by rw [I.len]; exact (List.getElem?_eq_some_iff.mp hN).1)
  rw [exH] at e
  split at e
  · rename_i g' t hxn
    split at e
    · rename_i hg
      obtain ⟨rfl, hty⟩ := hg
      split at e
      · rename_i dv hdv
        cases e
        obtain ⟨C, dx, fs, hC, ec, ed, ea, fr⟩ := xr
        subst ec
        obtain ⟨C', fI, fd, ps, hC', _, xc, _⟩ := g.xn x.cls g' t hxn
        rw [hC] at hC'
        cases hC'
        have hs : ∀ ty ∈ tys, XSub X.K X.mg Cn x.cls ty true := fun ty hm => g.xs _ _ _ (by simpa using List.all_eq_true.mp hty ty hm)
        have pt := pt_tys (a := a) (pn := pn) xc hz hf hC hs (g.blt _ (by decide)) hN hv hd hcd h
        obtain ⟨v, hl, rv⟩ := FRep.has fr hdv
        have pw : PE (X.suite a ((a, oe) :: pn)) (.Constant (.str w) j p1) (tC (.str w)) := pe_str
        have pf := pe_xf (pos := p3) (n := g') (pn := pn) xc.xf xc.nf hz hf (pe_var (X := X.suite a ((a, oe) :: pn)) (pos := p2) hN hv hd hcd)
        refine (pss_one (ps_ret (pos := p7) (pe_ifExp (pos := p6) pt (pe_lst (pos := p4) (pa_cons pw (pa_cons pf pa_nil rfl) rfl)) (pe_non (j := j2) (pos := p5))))).run pins s σ H D I ?_
        refine ⟨hi', ⟨dx, fs, ed, ea⟩, ?_⟩
        dsimp only
        rw [if_pos rfl]
        refine ⟨.ref a, hi', rfl, rfl, dx, fs, v, ed, ea, hl, ?_⟩
        refine ⟨line_le (by simp), fun p hp => ?_⟩
        exact q _ _ _ (Gr.fz hp so) (so.fz hp) (.lst upd_same ((RepL.cons (.str w) (.cons rv .nil)).mono (Gr.fz hp so).gw))
      · cases e
    · cases e
  · cases e
theorem ExOk.wants {K : PySem.W.Frag} {Wb W : Wd} {Hb H : Hp} {S' : Store} {x : XD} {W1 W2 : WX} (h : ∀ cls d σ H, W1 cls d σ H → W2 cls d σ H) (q : ExOk K Cn W1 Wb Hb W H x S') : ExOk K Cn W2 Wb Hb W H x S' :=
  fun cls d σ' W' H' a b c r => h _ _ _ _ (q cls d σ' W' H' a b c r)
theorem handler_ok {nN : Nat} {K : PySem.W.Frag} {Wb W : Wd} {Hb H : Hp} {S S1 : Store} {x : XD} {hd : Hd} {De : Ends} {fl : Fl} (e : exH Φ x S hd = .ok fl S1) (q : EndOk K Cn Wb Hb W H S1 fl De) {cls : Value} {d : Option Addr} {σ' : L2.St} {W' : Wd} {H' : Hp} {a : Addr}
    (g1 : Gr Wb Hb W' H') (g2 : Gs W H W' H') (so : StOk K Cn W' S H') (xr : XRep K Cn W' H' x cls d) (hi : ∀ i w f tys, hd = .word i w f tys → i < σ'.length → σ'[i]? = some (some (.ref a))) : tH Φ Cn K nN hd a cls d De σ' H' := by
  have er : ∃ dd, fl = .ret dd := by
    cases hd with
    | lit dl => rw [exH] at e; cases e; exact ⟨_, rfl⟩
    | word i w f tys =>
      rw [exH] at e
      split at e
      · split at e
        · split at e
          · cases e; exact ⟨_, rfl⟩
          · cases e
        · cases e
      · cases e
  obtain ⟨dd, rfl⟩ := er
  exact ⟨W', S, x, dd, S1, so, xr, hi, e, fun v W2 H2 g so2 r => q v W2 H2 (g1.trans g) (g2.trans g.gs) so2 r⟩
theorem exH_ret {x : XD} {S S1 : Store} {hd : Hd} {fl : Fl} (e : exH Φ x S hd = .ok fl S1) : match fl with
    | .ret _ => True
    | _ => False := by
  cases hd with
  | lit dl => rw [exH] at e; cases e; trivial
  | word i w f tys =>
    rw [exH] at e
    split at e
    · split at e
      · split at e
        · cases e; trivial
        · cases e
      · cases e
    · cases e
theorem exH_noex {x y : XD} {S S1 : Store} {hd : Hd} (e : exH Φ x S hd = .ex y S1) : False := by
  cases hd with
  | lit dl => rw [exH] at e; cases e
  | word i w f tys =>
    rw [exH] at e
    split at e
    · split at e
      · split at e
        · cases e
        · cases e
      · cases e
    · cases e
def chkH (N : List Str) (sc : Scope) (nm : Option Str) (suite : List Stmt) (h : Hd) : Bool := match nm, suite, h with
  | none, [.Return (some (.Constant k _ _)) _], .lit d => litB k d
  | some n, [.Return (some (.IfExp test (.List [.Constant (.str w) _ _, .Attribute (.Name m _) f _] _) (.Constant .none _ _) _)) _], .word i w' f' tys =>
    decide (w' = w) && decide (f' = f) && decide (m = n) && decide (N[i]? = some n) && isLoc sc n && nmOk n && chkTy sc n test tys
  | _, _, _ => false
theorem xs_at {K : PySem.W.Frag} {mg : Str → Option Value} {x : XD} {nm : Str} {b : Bool} {W : Wd} {H : Hp} {cls : Value} {d : Option Addr} (h : XSub K mg Cn x.cls nm b) (xr : XRep K Cn W H x cls d) {u : Value} (hu : mg nm = some u ∨ (mg nm = none ∧ bootBuiltins nm = some u)) : PySem.W.exmOne K cls u = some b := by
  obtain ⟨C, v, u', h1, h2, h3, h4, h5, h6, h7⟩ := h
  obtain ⟨C', dx, fs, hC, ec, _⟩ := xr
  rw [h1] at hC
  cases hC
  subst ec
  have : u = u' := by
    rcases hu with hu | ⟨hu, hv⟩
    · rcases h5 with h5 | ⟨h5, _⟩
      · rw [h5] at hu; cases hu; rfl
      · rw [h5] at hu; cases hu
    · rcases h5 with h5 | ⟨_, h5, _⟩
      · rw [h5] at hu; cases hu
      · rw [h5] at hv; cases hv; rfl
  subst this
  exact h6
theorem sx_try {x : Str} {nm : Option Str} {body suite : List Stmt} {kb : List CS} {hd : Hd} {np pos' : Pos} (gs : GS Φ Cn k X) (tk : Takes X Wx) (hg : Gl X x) (hdb : (x == ("__debug__" : Str)) = false)
    (hx : ∃ u, X.mg x = some u ∨ (X.mg x = none ∧ bootBuiltins x = some u ∧ x ≠ "__name__"))
    (hb : ∀ (W : WX) (pn : List (Addr × Obj)) (xe : Value → Shared → Prop), Takes (X.tr pn xe) W → PassesOwn (model X.prog X.w) X.A X.env xe → PSs (X.tr pn xe) body (tXs Φ Cn X.K W kb)) (hc : chkH X.N X.env.scope nm suite hd = true) :
    PS X (.Try body [.ExceptHandler (some (.Name x np)) nm suite pos'] [] [] pos) (tX Φ Cn X.K Wx (.tryX kb x hd)) := by
  obtain ⟨u, hu⟩ := hx
  have hn : Names X x u := ⟨hg, hdb, hu⟩
  have hu' : X.mg x = some u ∨ (X.mg x = none ∧ bootBuiltins x = some u) := hu.imp id fun h => ⟨h.1, h.2.1⟩
  unfold chkH at hc
  split at hc
  · -- a literal
    rename_i kc j1 p1 p2 dl
    have hr := ps_try_only (np := np) (pos := pos) (pos' := pos') gs.stk gs.frm hn tk hb (fun a oe cls d pn hz hf => suite_lit (X := X) (Φ := Φ) (Cn := Cn) (nN := X.N.length) (cls := cls) (d := d) (p2 := p2) (p1 := p1) (j := j1) hc)
    refine ⟨fun pins s σ H D I ⟨Wb, Hb, W, S, Γ, g0, so, en, q⟩ => hr.run pins s σ H D I ?_⟩
    refine ⟨Wb, Hb, W, S, Γ, g0, so, en, ?_⟩
    rw [exS] at q
    cases e : exSs Φ kb Γ S with
    | no => rw [e] at q; exact q.elim
    | ok fl S1 => rw [e] at q; exact q
    | ex y S1 =>
      rw [e] at q
      dsimp only at q
      cases e2 : Φ.xs y.cls x with
      | none => rw [e2] at q; exact q.elim
      | some b =>
        rw [e2] at q
        refine fun cls d σ' W' H' g1 g2 so1 xr => ⟨b, xs_at (gs.xs _ _ _ e2) xr hu', fun hb1 a na => ?_, fun hb0 => ?_⟩
        · subst hb1
          cases e3 : exH Φ y S1 (.lit dl) with
          | no => dsimp only at q; rw [e3] at q; exact q.elim
          | ex z S2 => exact (exH_noex e3).elim
          | ok fl S2 => dsimp only at q; rw [e3] at q; exact handler_ok e3 q g1 g2 so1 xr (fun _ _ _ _ z => nomatch z)
        · subst hb0
          exact q cls d σ' W' H' g1 g2 so1 xr
  · rename_i n test w' j1 p1 m p2 f p3 p4 j2 p5 p6 p7 i w'' f'' tys
    simp only [Bool.and_eq_true, decide_eq_true_eq] at hc
    obtain ⟨⟨⟨⟨⟨⟨h1, h2⟩, h3⟩, h4⟩, h5⟩, h6⟩, h7⟩ := hc
    subst h1 h2 h3
    have hv : Vis X.env.scope m := .inl (isLoc_ok h5)
    have hr := ps_try_as (np := np) (pos := pos) (pos' := pos') gs.stk gs.frm gs.nd h4 (isLoc_ok h5) hn tk hb (fun a oe cls d pn hz hf => suite_word (X := X) (Φ := Φ) (Cn := Cn) (pn := pn) (p1 := p1) (p2 := p2) (p3 := p3) (p4 := p4) (p5 := p5) (p6 := p6) (p7 := p7) (j := j1) (j2 := j2) (w := w'') (f := f'') gs.toGX hz hf h4 hv (nmOk1 h6).1 (nmOk1 h6).2 h7)
    refine ⟨fun pins s σ H D I ⟨Wb, Hb, W, S, Γ, g0, so, en, q⟩ => hr.run pins s σ H D I ?_⟩
    refine ⟨Wb, Hb, W, S, Γ, g0, so, en, ?_⟩
    rw [exS] at q
    cases e : exSs Φ kb Γ S with
    | no => rw [e] at q; exact q.elim
    | ok fl S1 => rw [e] at q; exact q
    | ex y S1 =>
      rw [e] at q
      dsimp only at q
      cases e2 : Φ.xs y.cls x with
      | none => rw [e2] at q; exact q.elim
      | some b =>
        rw [e2] at q
        refine fun cls d σ' W' H' g1 g2 so1 xr => ⟨b, xs_at (gs.xs _ _ _ e2) xr hu', fun hb1 a na => ?_, fun hb0 => ?_⟩
        · subst hb1
          cases e3 : exH Φ y S1 (.word i w'' f'' tys) with
          | no => dsimp only at q; rw [e3] at q; exact q.elim
          | ex z S2 => exact (exH_noex e3).elim
          | ok fl S2 =>
            dsimp only at q
            rw [e3] at q
            refine handler_ok (De := { nx := _, rt := D.rt, bk := _, ct := _ }) e3 ?_ g1 g2 so1 xr fun i' w2 f2 t2 z hl => ?_
            · cases fl with
              | ret dd => exact q
              | nx Γ' => exact (exH_ret e3).elim
              | brk Γ' => exact (exH_ret e3).elim
              | ct Γ' => exact (exH_ret e3).elim
            · cases z
              rw [List.length_set] at hl
              exact List.getElem?_set_self hl
        · subst hb0
          exact q cls d σ' W' H' g1 g2 so1 xr
  · cases hc
end
end PL
set_option autoImplicit false
set_option linter.all false
set_option maxRecDepth 100000
set_option maxHeartbeats 4000000
set_option Elab.async false
namespace PL
open PySem PySem.Spec PyProof.Rows L2
def notComp : Expr → Bool
  | .ListComp _ _ _ _ => false
  | .SetComp _ _ _ _ => false
  | .DictComp _ _ _ _ _ => false
  | _ => true
def isName : Expr → Bool
  | .Name _ _ => true
  | _ => false
theorem swaps_no {e : Expr} (h : notComp e = true) (t : Option Expr) (l : Nat) (env : PySem.Env) : swapsWith e t l env = pure false := by
  cases e <;> first | rfl | cases h
theorem swaps_tg {tg : Expr} (h : isName tg = false) (e : Expr) (l : Nat) (env : PySem.Env) : swapsWith e (some tg) l env = pure false := by
  cases e <;> first | rfl | (cases tg <;> first | rfl | cases h)
theorem swaps_cell {x : Str} {pt : Pos} {env : PySem.Env} (h : isLoc env.scope x = false) (e : Expr) (l : Nat) : swapsWith e (some (.Name x pt)) l env = pure false := by
  have k : (env.kindOf x == some .local) = false := by
    unfold isLoc at h
    show (env.scope.names.lookup x == some .local) = false
    split at h
    · cases h
    · rename_i hn
      cases hq : env.scope.names.lookup x with
      | none => rfl
      | some z => cases z <;> first | rfl | exact (hn hq).elim
  cases e with
  | ListComp a b sc q => show (pure (env.blockKind == .function && env.kindOf x == some .local && _ && _) : Sem Bool) = _; rw [k]; simp
  | SetComp a b sc q => show (pure (env.blockKind == .function && env.kindOf x == some .local && _ && _) : Sem Bool) = _; rw [k]; simp
  | DictComp a b c sc q => show (pure (env.blockKind == .function && env.kindOf x == some .local && _ && _) : Sem Bool) = _; rw [k]; simp
  | _ => rfl
def swapNames (sc : Scope) (ts : List Expr) : List Str := ts.filterMap fun
  | .Name id pos => if sc.names.lookup id == some .local && pos.line == (ts.head?.map (·.pos.line)).getD 0 then some id else none
  | _ => none
def starAny (vs : List Expr) : Bool := vs.any fun
  | .Starred .. => true
  | _ => false
def noSwapB (sc : Scope) : Expr → Expr → Bool
  | .Tuple ts _ _, .Tuple vs _ _ => (!(ts.length == 2 || ts.length == 3) || vs.length != ts.length) || starAny vs || ((swapNames sc ts).length != ts.length || (swapNames sc ts).eraseDups.length != (swapNames sc ts).length) || vs.all (foldedForSure 8)
  | .List _ _, _ => false
  | _, _ => true
theorem swap_none {tg e : Expr} {env : PySem.Env} (hk : env.scope.kind = .function) (h : noSwapB env.scope tg e = true) : swappedStores [tg] e env = pure none := by
  have hb : env.blockKind = .function := by unfold PySem.Env.blockKind; rw [hk]; rfl
  unfold noSwapB at h
  split at h
  · rename_i ts k1 p1 vs k2 p2
    unfold swappedStores
    simp only [hb]
    have e1 : (vs.any fun | .Starred .. => true | _ => false) = starAny vs := rfl
    simp only [Bool.or_eq_true] at h
    by_cases c1 : (!(ts.length == 2 || ts.length == 3) || vs.length != ts.length) = true
    · simp only [c1, Bool.true_or, if_true]
    · rw [Bool.not_eq_true] at c1
      simp only [c1, Bool.false_or]
      rw [if_neg (by decide)]
      show (if starAny vs = true then pure none else if ((swapNames env.scope ts).length != ts.length || (swapNames env.scope ts).eraseDups.length != (swapNames env.scope ts).length) = true then pure none else if vs.all (foldedForSure 8) = true then pure none else _) = pure none
      rw [Bool.or_eq_false_iff] at c1
      rcases h with ((h | h) | h) | h
      · rcases h with h | h
        · rw [c1.1] at h; cases h
        · rw [c1.2] at h; cases h
      · rw [if_pos h]
      · have h' : ((swapNames env.scope ts).length != ts.length || (swapNames env.scope ts).eraseDups.length != (swapNames env.scope ts).length) = true := by rw [Bool.or_eq_true]; exact h
        split <;> rfl
      · split
        · rfl
        · split <;> rfl
  · cases h
  · rename_i h1 h2
    cases tg with
    | Tuple ts k p =>
      cases e with
      | Tuple vs k' p' => exact (h2 ts k p vs k' p' rfl rfl).elim
      | _ => rfl
    | List ts p => exact (h1 ts p rfl).elim
    | _ => cases e <;> rfl
def yesSwapB (sc : Scope) (ts vs : List Expr) (names : List Str) : Bool :=
  (ts.length == 2 || ts.length == 3) && vs.length == ts.length && !starAny vs && decide (swapNames sc ts = names) && names.length == ts.length && names.eraseDups.length == names.length && !vs.all (foldedForSure 8) && !vs.all (constantsAlone 8)
theorem swap_some {ts vs : List Expr} {k1 k2 : Nat} {p1 p2 : Pos} {names : List Str} {env : PySem.Env} (hk : env.scope.kind = .function) (h : yesSwapB env.scope ts vs names = true) : swappedStores [.Tuple ts k1 p1] (.Tuple vs k2 p2) env = pure (some names) := by
  have hb : env.blockKind = .function := by unfold PySem.Env.blockKind; rw [hk]; rfl
  unfold yesSwapB at h
  simp only [Bool.and_eq_true, beq_iff_eq, decide_eq_true_eq, Bool.not_eq_true'] at h
  obtain ⟨⟨⟨⟨⟨⟨⟨h1, h2⟩, h3⟩, h4⟩, h5⟩, h6⟩, h7⟩, h8⟩ := h
  unfold swappedStores
  simp only [hb]
  have c1 : (!(ts.length == 2 || ts.length == 3) || vs.length != ts.length) = false := by
    rw [h1, h2]
    simp
  simp only [c1, Bool.false_or]
  rw [if_neg (by decide)]
  show (if starAny vs = true then pure none else if ((swapNames env.scope ts).length != ts.length || (swapNames env.scope ts).eraseDups.length != (swapNames env.scope ts).length) = true then pure none else if vs.all (foldedForSure 8) = true then pure none else _) = pure (some names)
  rw [h4, if_neg (by rw [h3]; exact Bool.false_ne_true), if_neg (by simp [h5, h6]), if_neg (by rw [h7]; exact Bool.false_ne_true)]
  rw [if_neg (by rw [h8]; exact Bool.false_ne_true)]
  show pure (some (swapNames env.scope ts)) = pure (some names)
  rw [h4]
def notBor : CE → Bool
  | .bor _ => false
  | _ => true
theorem notBor_ok {c : CE} (h : notBor c = true) (Γ : Env) : ownB c Γ = none := by
  cases c <;> first | rfl | cases h
mutual
def chkL : Nat → Sig → List Str → Scope → Expr → CL → Bool
  | 0, _, _, _, _, _ => false
  | n + 1, sg, N, sc, e, c => match e, c with
    | .Name x _, .nm i => decide (N[i]? = some x) && locB sc x
    | .Tuple es _ _, .tp cs => chkLs n sg N sc es cs
    | .Subscript (.Name x _) i _, .sub (.bor j) ci => decide (N[j]? = some x) && visB sc x && nmOk x && notSlice i && chkE n sg N sc true i ci
    | .Subscript a i _, .sub ca ci => notBor ca && notSlice i && chkE n sg N sc true a ca && chkE n sg N sc true i ci
    | .Attribute a f _, .attr ca f' => decide (f = f') && chkE n sg N sc false a ca
    | _, _ => false
def chkLs : Nat → Sig → List Str → Scope → List Expr → List CL → Bool
  | 0, _, _, _, _, _ => false
  | n + 1, sg, N, sc, es, cs => match es, cs with
    | [], [] => true
    | e :: es, c :: cs => notStar e && chkL n sg N sc e c && chkLs n sg N sc es cs
    | _, _ => false
end
def chkPar (n : Nat) (sg : Sig) (N : List Str) (sc : Scope) : List (Bool × Nat) → List Expr → List CE → Bool
  | [], [], [] => true
  | (m, _) :: ts, e :: es, c :: cs => notStar e && (!m || fresh c) && chkE n sg N sc false e c && chkPar n sg N sc ts es cs
  | _, _, _ => false
def parNames (N : List Str) (sc : Scope) : List (Bool × Nat) → List Expr → Bool
  | [], [] => true
  | (_, i) :: ts, .Name x _ :: es => decide (N[i]? = some x) && isLoc sc x && parNames N sc ts es
  | _, _ => false
def namesOf (N : List Str) (ts : List (Bool × Nat)) : List Str := ts.filterMap fun p => N[p.2]?
mutual
def chkX : Nat → Sig → List Str → Scope → Expr → CX_ → Bool
  | 0, _, _, _, _, _ => false
  | n + 1, sg, N, sc, e, c => match e, c with
    | e, .e c => chkE n sg N sc false e c
    | .Call (.Name x _) (a :: as) [] _, .call f cs => decide (x = f) && nmOk x && glB sc x && sg.fn.contains f && (a :: as).all notStar && chkXs n sg N sc (a :: as) cs
    | .Call (.Attribute a m ap) args [] pos, .mcall cl ca m' cs => decide (m = m') && plainBase a && args.all notStar && decide (args.length < 30) && (ap.endLine == pos.line) && inMt sg cl m && chkE n sg N sc false a ca && chkXs n sg N sc args cs
    | .IfExp t a b _, .ite cc xa xb => chkE n sg N sc true t cc && chkX n sg N sc a xa && chkX n sg N sc b xb
    | .Tuple es _ _, .tup cs => decide (cs.length ≤ 1000) && chkXs n sg N sc es cs
    | _, _ => false
def chkXs : Nat → Sig → List Str → Scope → List Expr → List CX_ → Bool
  | 0, _, _, _, _, _ => false
  | n + 1, sg, N, sc, es, cs => match es, cs with
    | [], [] => true
    | e :: es, c :: cs => notStar e && chkX n sg N sc e c && chkXs n sg N sc es cs
    | _, _ => false
end
mutual
def chkS : Nat → Sig → List Str → Scope → Stmt → CS → Bool
  | 0, _, _, _, _, _ => false
  | n + 1, sg, N, sc, st, c => match st, c with
    | .Assign [.Name x p] (.ListComp elt [⟨tg, iter, ifs, 0⟩] scope pos) _, .own i (.lc vs ct ci c ce) => decide (N[i]? = some x) && (if isLoc sc x then (p.line == pos.line) && !(scope.names.any fun (n, k) => n == x && (k == .local || k == .cell)) else locB sc x) && chkE n sg N sc false (.ListComp elt [⟨tg, iter, ifs, 0⟩] scope pos) (.lc vs ct ci c ce)
    | .Assign [.Name x p] (.ListComp elt [⟨tg, iter, ifs, 0⟩] scope pos) _, .asg (.nm i) (.lc vs ct ci c ce) => decide (N[i]? = some x) && (if isLoc sc x then (p.line == pos.line) && !(scope.names.any fun (n, k) => n == x && (k == .local || k == .cell)) else locB sc x) && chkE n sg N sc false (.ListComp elt [⟨tg, iter, ifs, 0⟩] scope pos) (.lc vs ct ci c ce)
    | .Assign [.Name x _] e _, .own i ce => decide (N[i]? = some x) && locB sc x && notComp e && fresh ce && chkE n sg N sc false e ce
    | .Assign [tg] e _, .asg cl ce => (notComp e || !isName tg) && noSwapB sc tg e && notStar tg && chkL n sg N sc tg cl && chkE n sg N sc false e ce
    | .Assign [.Tuple ts _ _] (.Tuple vs _ _) _, .par ps cs => parNames N sc ps ts && yesSwapB sc ts vs (namesOf N ps) && decide (ps.map (·.2)).Nodup && chkPar n sg N sc ps vs cs
    | .AugAssign (.Name x _) op e _, .aug i o ce => decide (N[i]? = some x) && locB sc x && isAug o && decide (op = opA o) && chkE n sg N sc true e ce
    | .AugAssign (.Subscript a i _) op e _, .augS ca ci o ce => notSlice i && isAug o && decide (op = opA o) && chkE n sg N sc true a ca && chkE n sg N sc true i ci && chkE n sg N sc true e ce
    | .AugAssign (.Attribute a f _) op e _, .augA ca f' o ce => decide (f = f') && isAug o && decide (op = opA o) && chkE n sg N sc false a ca && chkE n sg N sc true e ce
    | .Expr (.Call (.Attribute (.Name x _) f ap) [e] [] p) _, .app (.bor j) ce => decide (f = "append") && decide (N[j]? = some x) && visB sc x && nmOk x && notStar e && (ap.endLine == p.line) && chkE n sg N sc false e ce
    | .Expr (.Call (.Attribute a f ap) [e] [] p) _, .app ca ce => decide (f = "append") && notBor ca && plainBase a && notStar e && (ap.endLine == p.line) && chkE n sg N sc false a ca && chkE n sg N sc false e ce
    | .Expr (.Call (.Attribute (.Name x _) f ap) [e] [] p) _, .ext (.bor j) ce => decide (f = "extend") && decide (N[j]? = some x) && visB sc x && nmOk x && notStar e && (ap.endLine == p.line) && chkE n sg N sc true e ce
    | .Expr (.Call (.Attribute a f ap) [e] [] p) _, .ext ca ce => decide (f = "extend") && notBor ca && plainBase a && notStar e && (ap.endLine == p.line) && chkE n sg N sc false a ca && chkE n sg N sc true e ce
    | .Expr (.Call (.Attribute a f ap) [e] [] p) _, .upd ca ce => decide (f = "update") && plainBase a && notStar e && (ap.endLine == p.line) && chkE n sg N sc false a ca && chkE n sg N sc false e ce
    | .Expr e _, .drop ce => notComp e && chkE n sg N sc false e ce
    | .Return (some e) _, .ret ce => chkE n sg N sc false e ce
    | .Return (some e) _, .retX c => chkX n sg N sc e c
    | .Assign [tg] e _, .asgX cl c => (notComp e || !isName tg) && noSwapB sc tg e && notStar tg && chkL n sg N sc tg cl && chkX n sg N sc e c
    | .Expr e _, .dropX c => notComp e && chkX n sg N sc e c
    | .Raise (some (.Call (.Name c _) [e] [] _)) none _, .raise_ c' ce => decide (c = c') && glB sc c && nmOk c && notStar e && chkE n sg N sc false e ce
    | .Try body [.ExceptHandler (some (.Name x _)) nm suite _] [] [] _, .tryX kb x' hd => decide (x = x') && glB sc x && nmOk x && sg.xc.contains x && chkSs n sg N sc body kb && chkH N sc nm suite hd
    | .Return none _, .retN => true
    | .If t a b _, .ite ct ka kb => chkE n sg N sc true t ct && chkSs n sg N sc a ka && chkSs n sg N sc b kb
    | .For tg it body [] _, .for_ ct ci kb => notSet it && chkT n N sc (fun _ => true) tg ct && chkI n sg N sc (isTupT tg) it ci && chkSs n sg N sc body kb
    | .While t body [] _, .while_ ct kb => chkE n sg N sc true t ct && chkSs n sg N sc body kb
    | .Break _, .brk => true
    | .Continue _, .cont => true
    | .Pass _, .pass => true
    | _, _ => false
def chkSs : Nat → Sig → List Str → Scope → List Stmt → List CS → Bool
  | 0, _, _, _, _, _ => false
  | n + 1, sg, N, sc, sts, cs => match cs with
    | [] => sts.isEmpty
    | .frz _ :: cs => chkSs n sg N sc sts cs
    | c :: cs => match sts with
      | [] => false
      | st :: sts => chkS n sg N sc st c && chkSs n sg N sc sts cs
end
section
variable {Φ : Fns} {Cn : Str → Option Addr} {X : Cx} {k : Nat} {sg : Sig}
theorem chkL_ok (sgo : SigOk Φ sg) (gs : GS Φ Cn k X) : ∀ n : Nat, (∀ (e : Expr) (c : CL), chkL n sg X.N X.env.scope e c = true → PG X e (gLc Φ Cn X.K c)) ∧ (∀ (es : List Expr) (cs : List CL), chkLs n sg X.N X.env.scope es cs = true → PGs X es (gLs Φ Cn X.K cs) ∧ es.all notStar = true ∧ es.length = cs.length)
  | 0 => ⟨fun _ _ h => (by unfold chkL at h; cases h), fun _ _ h => (by unfold chkLs at h; cases h)⟩
  | n + 1 => by
    obtain ⟨ih1, ih2⟩ := chkL_ok sgo gs n
    have sn := snd_all (Cn := Cn) (k := k) sgo n
    constructor
    · intro e c h
      unfold chkL at h
      split at h
      · simp only [Bool.and_eq_true, decide_eq_true_eq] at h
        exact lg_nm gs.nd h.1 (locB_ok h.2) (gs.fnT _)
      · obtain ⟨h1, h2, h3⟩ := ih2 _ _ h
        exact lg_tp gs.calm h1 h3 (assignEach_star h2 X.env).1 (assignEach_star h2 X.env).2
      · simp only [Bool.and_eq_true, decide_eq_true_eq] at h
        obtain ⟨⟨⟨⟨h1, h2⟩, h3⟩, h4⟩, h5⟩ := h
        exact lg_subO gs.toGX h1 (visB_ok h2) (nmOk1 h3).1 (nmOk1 h3).2 (sn.e X gs.toGX _ _ _ h5).b (sub_text (plainIx_ok h4) (by
          split
          · cases h4
          · rfl) X.env)
      · simp only [Bool.and_eq_true] at h
        obtain ⟨⟨⟨h1, h2⟩, h3⟩, h4⟩ := h
        exact lg_sub gs.toGX (sn.e X gs.toGX _ _ _ h3).b (sn.e X gs.toGX _ _ _ h4).b (notBor_ok h1) (sub_text (plainIx_ok h2) (by
          split
          · cases h2
          · rfl) X.env)
      · simp only [Bool.and_eq_true, decide_eq_true_eq] at h
        obtain ⟨h1, h2⟩ := h
        subst h1
        exact lg_attr gs.toGX ((sn.e X gs.toGX _ _ _ h2).v rfl)
      · cases h
    · intro es cs h
      unfold chkLs at h
      split at h
      · exact ⟨lgs_n, rfl, rfl⟩
      · simp only [Bool.and_eq_true] at h
        obtain ⟨⟨h1, h2⟩, h3⟩ := h
        obtain ⟨k1, k2, k3⟩ := ih2 _ _ h3
        exact ⟨lgs_c (ih1 _ _ h2) k1 (assign_cons h1 _ X.env), by rw [List.all_cons, h1, k2]; rfl, by rw [List.length_cons, List.length_cons, k3]⟩
      · cases h
theorem chkPar_ok (sgo : SigOk Φ sg) (gs : GS Φ Cn k X) {n : Nat} : ∀ {ts : List (Bool × Nat)} {es : List Expr} {cs : List CE}, chkPar n sg X.N X.env.scope ts es cs = true → SPar Φ Cn X ts es cs
  | [], [], [], _ => spar_nil
  | (m, i) :: ts, e :: es, c :: cs, h => by
    unfold chkPar at h
    simp only [Bool.and_eq_true, Bool.or_eq_true, Bool.not_eq_true'] at h
    obtain ⟨⟨⟨h1, h2⟩, h3⟩, h4⟩ := h
    have s := (snd_all (Cn := Cn) (k := k) sgo n).e X gs.toGX _ _ _ h3
    have r := chkPar_ok sgo gs h4
    cases m with
    | false => exact spar_pure (s.v rfl) r h1
    | true =>
      rcases h2 with h2 | h2
      · cases h2
      · exact spar_own (s.o h2) r h1
  | [], _ :: _, _, h => by unfold chkPar at h; cases h
  | [], [], _ :: _, h => by unfold chkPar at h; cases h
  | _ :: _, [], _, h => by unfold chkPar at h; cases h
  | _ :: _, _ :: _, [], h => by unfold chkPar at h; cases h
theorem aug_text {i : Expr} (h : notSlice i = true) (ov iv new : Value) : augStore i ov iv new = (do holding [new, ov, iv] (setItem ov iv new); release [new, ov, iv] []; pure .next) := by
  cases i with
  | Slice _ _ _ _ => cases h
  | _ => rfl
theorem lc_parts (sgo : SigOk Φ sg) (gs : GS Φ Cn k X) {n : Nat} {m : Bool} {elt tg iter : Expr} {ifs : List Expr} {scope : Scope} {pos : Pos} {vs : List Nat} {ct : CT} {ci : CI} {c : Option CE} {ce : CE} (h : chkE n sg X.N X.env.scope m (.ListComp elt [⟨tg, iter, ifs, 0⟩] scope pos) (.lc vs ct ci c ce) = true)
    {i : Nat} {x : Str} {py spos : Pos} (hy : X.N[i]? = some x) (hyl : X.env.scope.names.lookup x = some .local) (hl : (py.line == pos.line) = true) (hn : (scope.names.any fun (n, k) => n == x && (k == .local || k == .cell)) = false) :
    SS Φ Cn X (.Assign [.Name x py] (.ListComp elt [⟨tg, iter, ifs, 0⟩] scope pos) spos) (.own i (.lc vs ct ci c ce)) ∧
    SS Φ Cn X (.Assign [.Name x py] (.ListComp elt [⟨tg, iter, ifs, 0⟩] scope pos) spos) (.asg (.nm i) (.lc vs ct ci c ce)) := by
  cases n with
  | zero => unfold chkE at h; cases h
  | succ n =>
    have ih := snd_all (Cn := Cn) (k := k) sgo n
    unfold chkE at h
    simp only [Bool.and_eq_true, decide_eq_true_eq] at h
    obtain ⟨⟨⟨⟨⟨⟨⟨h1, h2⟩, h3⟩, h4⟩, h5⟩, h6⟩, h7⟩, h8⟩ := h
    have g := gs.toGX
    have s := ss_lc (i := i) (x := x) (py := py) (pos := pos) (spos := spos) gs (ih.i X g _ _ _ h2) (blkOk_by h3) (by
        intro i hi
        rw [h4]
        simpa using List.all_eq_true.mp h5 i hi)
      (fun s H C cl fp => (chkT_ok (X := X.blk s H _ (compEnvC _ cl C X.env) fp) g.calm g.nd (fun x hx => hx) n).1 _ _ h6)
      (fun s H C cl fp => ih.i_ (X.blk s H _ (compEnvC _ cl C X.env) fp) (g.blk s H _ _ fp) _ _ h7)
      (fun s H C cl fp => (ih.e (X.blk s H _ (compEnvC _ cl C X.env) fp) (g.blk s H _ _ fp) _ _ _ h8).v rfl)
      (fun x => notSet_ok h1 X.env x) hy hyl hl hn
    rw [h4] at s
    exact s
end
end PL
set_option autoImplicit false
set_option linter.all false
set_option maxRecDepth 100000
set_option maxHeartbeats 4000000
set_option Elab.async false
namespace PL
open PySem PySem.Spec PyProof.Rows L2
section
variable {Φ : Fns} {Cn : Str → Option Addr} {X : Cx} {k : Nat} {sg : Sig}
theorem parNames_cons {N : List Str} {sc : Scope} {ps : List (Bool × Nat)} {e : Expr} {es : List Expr} (h : parNames N sc ps (e :: es) = true) : ∃ m i x p ps', ps = (m, i) :: ps' ∧ e = .Name x p ∧ N[i]? = some x ∧ sc.names.lookup x = some .local ∧ parNames N sc ps' es = true := by
  cases ps with
  | nil => cases h
  | cons p ps =>
    obtain ⟨m, i⟩ := p
    cases e with
    | Name x p =>
      simp only [parNames, Bool.and_eq_true, decide_eq_true_eq] at h
      exact ⟨m, i, x, p, ps, rfl, rfl, h.1.1, isLoc_ok h.1.2, h.2⟩
    | _ => cases h
theorem parNames_nil {N : List Str} {sc : Scope} {ps : List (Bool × Nat)} (h : parNames N sc ps [] = true) : ps = [] := by
  cases ps with
  | nil => rfl
  | cons p ps => cases h
theorem chkPar_cons {n : Nat} {N : List Str} {sc : Scope} {p : Bool × Nat} {ps : List (Bool × Nat)} {es : List Expr} {cs : List CE} (h : chkPar n sg N sc (p :: ps) es cs = true) : ∃ e es' c cs', es = e :: es' ∧ cs = c :: cs' ∧ chkPar n sg N sc ps es' cs' = true := by
  cases es with
  | nil => unfold chkPar at h; cases h
  | cons e es =>
    cases cs with
    | nil => unfold chkPar at h; cases h
    | cons c cs =>
      unfold chkPar at h
      rw [Bool.and_eq_true] at h
      exact ⟨e, es, c, cs, rfl, rfl, h.2⟩
theorem chkPar_nil {n : Nat} {N : List Str} {sc : Scope} {es : List Expr} {cs : List CE} (h : chkPar n sg N sc [] es cs = true) : es = [] ∧ cs = [] := by
  cases es with
  | cons e es => unfold chkPar at h; cases h
  | nil =>
    cases cs with
    | nil => exact ⟨rfl, rfl⟩
    | cons c cs => unfold chkPar at h; cases h
theorem par_case (sgo : SigOk Φ sg) (gs : GS Φ Cn k X) {n : Nat} {ts vs : List Expr} {kt k2 : Nat} {pt p2 pos : Pos} {ps : List (Bool × Nat)} {cs : List CE} (h1 : parNames X.N X.env.scope ps ts = true) (h2 : yesSwapB X.env.scope ts vs (namesOf X.N ps) = true) (h3 : (ps.map (·.2)).Nodup)
    (h4 : chkPar n sg X.N X.env.scope ps vs cs = true) : SS Φ Cn X (.Assign [.Tuple ts kt pt] (.Tuple vs k2 p2) pos) (.par ps cs) := by
  have sp := chkPar_ok (Cn := Cn) sgo gs h4
  have hsw := fun k1 k2 p1 p2 => swap_some (k1 := k1) (k2 := k2) (p1 := p1) (p2 := p2) gs.kind h2
  have hlen : (ts.length == 2 || ts.length == 3) = true := by
    unfold yesSwapB at h2
    simp only [Bool.and_eq_true] at h2
    exact h2.1.1.1.1.1.1.1
  match ts, h1, hlen with
  | [], _, hlen => cases hlen
  | [_], _, hlen => cases hlen
  | _ :: _ :: _ :: _ :: _, _, hlen =>
    simp at hlen
  | [e1, e2], h1, _ =>
    obtain ⟨m1, i, x, px, ps1, rfl, rfl, n1, l1, h1⟩ := parNames_cons h1
    obtain ⟨m2, j, y, py, ps2, rfl, rfl, n2, l2, h1⟩ := parNames_cons h1
    obtain rfl := parNames_nil h1
    obtain ⟨a, vs1, ca, cs1, rfl, rfl, h5⟩ := chkPar_cons h4
    obtain ⟨b, vs2, cb, cs2, rfl, rfl, h6⟩ := chkPar_cons h5
    obtain ⟨rfl, rfl⟩ := chkPar_nil h6
    have e : namesOf X.N [(m1, i), (m2, j)] = [x, y] := by simp only [namesOf, List.filterMap_cons, n1, n2, List.filterMap_nil]
    rw [e] at hsw
    refine ss_par2 gs n1 n2 (fun q => ?_) l1 l2 sp (hsw _ _ _ _)
    subst q
    simp at h3
  | [e1, e2, e3], h1, _ =>
    obtain ⟨m1, i, x, px, ps1, rfl, rfl, n1, l1, h1⟩ := parNames_cons h1
    obtain ⟨m2, j, y, py, ps2, rfl, rfl, n2, l2, h1⟩ := parNames_cons h1
    obtain ⟨m3, l, z, pz, ps3, rfl, rfl, n3, l3, h1⟩ := parNames_cons h1
    obtain rfl := parNames_nil h1
    obtain ⟨a, vs1, ca, cs1, rfl, rfl, h5⟩ := chkPar_cons h4
    obtain ⟨b, vs2, cb, cs2, rfl, rfl, h6⟩ := chkPar_cons h5
    obtain ⟨c, vs3, cc, cs3, rfl, rfl, h7⟩ := chkPar_cons h6
    obtain ⟨rfl, rfl⟩ := chkPar_nil h7
    have e : namesOf X.N [(m1, i), (m2, j), (m3, l)] = [x, y, z] := by simp only [namesOf, List.filterMap_cons, n1, n2, n3, List.filterMap_nil]
    rw [e] at hsw
    simp at h3
    exact ss_par3 gs n1 n2 n3 (fun q => h3.1.1 q) (fun q => h3.1.2 q) (fun q => h3.2 q) l1 l2 l3 sp (hsw _ _ _ _)
theorem nox {Φ : Fns} {c : CS} (h : ∀ Γ S, (∃ r, exS Φ c Γ S = noX r) ∨ ∃ a S1, exS Φ c Γ S = .ok a S1) : ∀ Γ S x S', exS Φ c Γ S ≠ .ex x S' := fun Γ S x S' e => by
  rcases h Γ S with ⟨r, q⟩ | ⟨a, S1, q⟩
  · rw [q] at e; exact noX_ex e
  · rw [q] at e; cases e
theorem snd_X (sgo : SigOk Φ sg) : ∀ (n : Nat) {X : Cx} {Wx : WX}, GX Φ Cn k X → Takes X Wx → (∀ (e : Expr) (c : CX_), chkX n sg X.N X.env.scope e c = true → PE X e (tXE Φ Cn X.K Wx c)) ∧ (∀ (es : List Expr) (cs : List CX_), chkXs n sg X.N X.env.scope es cs = true → PA X es (tXA Φ Cn X.K Wx cs))
  | 0, _, _, _, _ => ⟨fun _ _ h => (by unfold chkX at h; cases h), fun _ _ h => (by unfold chkXs at h; cases h)⟩
  | n + 1, X, Wx, g, tk => by
    obtain ⟨ih1, ih2⟩ := snd_X sgo n g tk
    have sn := snd_all (Cn := Cn) (k := k) sgo n
    constructor
    · intro e c h
      unfold chkX at h
      split at h
      · exact px_e ((sn.e X g _ _ _ h).v rfl)
      · simp only [Bool.and_eq_true, decide_eq_true_eq] at h
        obtain ⟨⟨⟨⟨⟨h1, h2⟩, h3⟩, h4⟩, h5⟩, h6⟩ := h
        subst h1
        obtain ⟨F, hF⟩ := sgo.fn _ h4
        exact px_call tk g hF (glB_ok h3) (ih2 _ _ h6) h5 (nmOk1 h2).1
      · rename_i a m ap args pos cl ca m' cs
        simp only [Bool.and_eq_true, decide_eq_true_eq] at h
        obtain ⟨⟨⟨⟨⟨⟨⟨h1, h2⟩, h3⟩, h4⟩, h5⟩, h6⟩, h7⟩, h8⟩ := h
        subst h1
        obtain ⟨F, hF⟩ := sgo.mt _ _ h6
        have se := (sn.e X g _ _ _ h7).v rfl
        cases args with
        | nil =>
          cases cs with
          | nil => exact px_mcall0 tk g hF se h2 h5
          | cons c cs => cases n <;> (unfold chkXs at h8; cases h8)
        | cons a' as => exact px_mcall tk g hF se (ih2 _ _ h8) h2 h3 h4 h5
      · simp only [Bool.and_eq_true] at h
        exact px_ite (sn.e X g _ _ _ h.1.1).t (ih1 _ _ h.1.2) (ih1 _ _ h.2)
      · simp only [Bool.and_eq_true, decide_eq_true_eq] at h
        exact px_tup (ih2 _ _ h.2) h.1
      · cases h
    · intro es cs h
      unfold chkXs at h
      split at h
      · exact px_nil
      · simp only [Bool.and_eq_true] at h
        exact px_cons (ih1 _ _ h.1.2) (ih2 _ _ h.2) (star_cons h.1.1 _ X.env)
      · cases h
theorem xs_name (sgo : SigOk Φ sg) (g : GX Φ Cn k X) {x : Str} (h : sg.xc.contains x = true) : ∃ u, X.mg x = some u ∨ (X.mg x = none ∧ bootBuiltins x = some u ∧ x ≠ "__name__") := by
  obtain ⟨c, b, e⟩ := sgo.xc x h
  obtain ⟨_, _, u, _, _, _, _, h5, _⟩ := g.xs c x b e
  exact ⟨u, h5⟩
theorem snd_S (sgo : SigOk Φ sg) : ∀ (n : Nat) {X : Cx} {Wx : WX}, GS Φ Cn k X → Takes X Wx → (∀ (st : Stmt) (c : CS), chkS n sg X.N X.env.scope st c = true → PS X st (tX Φ Cn X.K Wx c)) ∧ (∀ (sts : List Stmt) (cs : List CS), chkSs n sg X.N X.env.scope sts cs = true → PSs X sts (tXs Φ Cn X.K Wx cs))
  | 0, _, _, _, _ => ⟨fun _ _ h => (by unfold chkS at h; cases h), fun _ _ h => (by unfold chkSs at h; cases h)⟩
  | n + 1, X, Wx, gs, tk => by
    have ih := @snd_S sgo n
    obtain ⟨ih1, ih2⟩ := ih gs tk
    have g := gs.toGX
    have sn := snd_all (Cn := Cn) (k := k) sgo n
    constructor
    · intro st c h
      unfold chkS at h
      split at h
      · rename_i x pt elt tg it ifs scope pos sp i vs ct ci co ce
        rw [Bool.and_eq_true, Bool.and_eq_true, decide_eq_true_eq] at h
        obtain ⟨⟨h1, h2⟩, h5⟩ := h
        split at h2
        · rename_i hl
          simp only [Bool.and_eq_true, Bool.not_eq_true'] at h2
          exact sx_of ((lc_parts sgo gs h5 h1 (isLoc_ok hl) h2.1 h2.2).1) (nox fun Γ S => (by rw [exS]; first | exact .inl ⟨_, rfl⟩ | exact .inr ⟨_, _, rfl⟩))
        · rename_i hl
          rw [Bool.not_eq_true] at hl
          exact sx_of (ss_own gs ((sn.e X g _ _ _ h5).o rfl) h1 (locB_ok h2) (by unfold swapsWithSole; exact swaps_cell hl _ _) (swap_none gs.kind rfl)) (nox fun Γ S => (by rw [exS]; first | exact .inl ⟨_, rfl⟩ | exact .inr ⟨_, _, rfl⟩))
      · rename_i x pt elt tg it ifs scope pos sp i vs ct ci co ce
        rw [Bool.and_eq_true, Bool.and_eq_true, decide_eq_true_eq] at h
        obtain ⟨⟨h1, h2⟩, h5⟩ := h
        split at h2
        · rename_i hl
          simp only [Bool.and_eq_true, Bool.not_eq_true'] at h2
          exact sx_of ((lc_parts sgo gs h5 h1 (isLoc_ok hl) h2.1 h2.2).2) (nox fun Γ S => (by rw [exS]; first | exact .inl ⟨_, rfl⟩ | exact .inr ⟨_, _, rfl⟩))
        · rename_i hl
          rw [Bool.not_eq_true] at hl
          exact sx_of (ss_asg ((sn.e X g _ _ _ h5).v rfl) (lg_nm gs.nd h1 (locB_ok h2) (gs.fnT _)) (by unfold swapsWithSole; exact swaps_cell hl _ _) (swap_none gs.kind rfl) rfl) (nox fun Γ S => (by rw [exS]; first | exact .inl ⟨_, rfl⟩ | exact .inr ⟨_, _, rfl⟩))
      · simp only [Bool.and_eq_true, decide_eq_true_eq] at h
        obtain ⟨⟨⟨⟨h1, h2⟩, h3⟩, h4⟩, h5⟩ := h
        refine sx_of (ss_own gs ((sn.e X g _ _ _ h5).o h4) h1 (locB_ok h2) ?_ (swap_none gs.kind ?_)) (nox fun Γ S => (by rw [exS]; first | exact .inl ⟨_, rfl⟩ | exact .inr ⟨_, _, rfl⟩))
        · unfold swapsWithSole
          exact swaps_no h3 _ _ _
        · unfold noSwapB
          split
          · contradiction
          · contradiction
          · rfl
      · simp only [Bool.and_eq_true, Bool.or_eq_true, Bool.not_eq_true'] at h
        obtain ⟨⟨⟨⟨h1, h2⟩, h3⟩, h4⟩, h5⟩ := h
        refine sx_of (ss_asg ((sn.e X g _ _ _ h5).v rfl) ((chkL_ok sgo gs n).1 _ _ h4) ?_ (swap_none gs.kind h2) (assign_cons h3 [] X.env)) (nox fun Γ S => (by rw [exS]; first | exact .inl ⟨_, rfl⟩ | exact .inr ⟨_, _, rfl⟩))
        rcases h1 with h1 | h1
        · exact swaps_no h1 _ _ _
        · exact swaps_tg h1 _ _ _
      · simp only [Bool.and_eq_true, decide_eq_true_eq] at h
        obtain ⟨⟨⟨h1, h2⟩, h3⟩, h4⟩ := h
        exact sx_of (par_case sgo gs h1 h2 h3 h4) (nox fun Γ S => (by rw [exS]; first | exact .inl ⟨_, rfl⟩ | exact .inr ⟨_, _, rfl⟩))
      · simp only [Bool.and_eq_true, decide_eq_true_eq] at h
        obtain ⟨⟨⟨⟨h1, h2⟩, h3⟩, h4⟩, h5⟩ := h
        subst h4
        exact sx_of (ss_aug gs h1 (locB_ok h2) (sn.e X g _ _ _ h5).b h3) (nox fun Γ S => (by rw [exS]; first | exact .inl ⟨_, rfl⟩ | exact .inr ⟨_, _, rfl⟩))
      · simp only [Bool.and_eq_true, decide_eq_true_eq] at h
        obtain ⟨⟨⟨⟨⟨h1, h2⟩, h3⟩, h4⟩, h5⟩, h6⟩ := h
        subst h3
        exact sx_of (ss_augS gs (sn.e X g _ _ _ h4).b (sn.e X g _ _ _ h5).b (sn.e X g _ _ _ h6).b h2 (aug_text h1)) (nox fun Γ S => (by rw [exS]; first | exact .inl ⟨_, rfl⟩ | exact .inr ⟨_, _, rfl⟩))
      · simp only [Bool.and_eq_true, decide_eq_true_eq] at h
        obtain ⟨⟨⟨⟨h1, h2⟩, h3⟩, h4⟩, h5⟩ := h
        subst h1
        subst h3
        exact sx_of (ss_augA gs ((sn.e X g _ _ _ h4).v rfl) (sn.e X g _ _ _ h5).b h2) (nox fun Γ S => (by rw [exS]; first | exact .inl ⟨_, rfl⟩ | exact .inr ⟨_, _, rfl⟩))
      · simp only [Bool.and_eq_true, decide_eq_true_eq] at h
        obtain ⟨⟨⟨⟨⟨⟨h0, h1⟩, h2⟩, h3⟩, h4⟩, h5⟩, h6⟩ := h
        subst h0
        exact sx_of (ss_tlO .one h1 (visB_ok h2) (nmOk1 h3).1 (nmOk1 h3).2 ((sn.e X g _ _ _ h6).v rfl) h4 h5) (nox fun Γ S => (by rw [exS]; first | exact .inl ⟨_, rfl⟩ | exact .inr ⟨_, _, rfl⟩))
      · simp only [Bool.and_eq_true, decide_eq_true_eq] at h
        obtain ⟨⟨⟨⟨⟨⟨h0, h1⟩, h2⟩, h3⟩, h4⟩, h5⟩, h6⟩ := h
        subst h0
        exact sx_of (ss_tl .one ((sn.e X g _ _ _ h5).v rfl) ((sn.e X g _ _ _ h6).v rfl) (notBor_ok h1) h2 h3 h4) (nox fun Γ S => (by rw [exS]; first | exact .inl ⟨_, rfl⟩ | exact .inr ⟨_, _, rfl⟩))
      · simp only [Bool.and_eq_true, decide_eq_true_eq] at h
        obtain ⟨⟨⟨⟨⟨⟨h0, h1⟩, h2⟩, h3⟩, h4⟩, h5⟩, h6⟩ := h
        subst h0
        exact sx_of (ss_tlO .all h1 (visB_ok h2) (nmOk1 h3).1 (nmOk1 h3).2 (sn.e X g _ _ _ h6).b h4 h5) (nox fun Γ S => (by rw [exS]; first | exact .inl ⟨_, rfl⟩ | exact .inr ⟨_, _, rfl⟩))
      · simp only [Bool.and_eq_true, decide_eq_true_eq] at h
        obtain ⟨⟨⟨⟨⟨⟨h0, h1⟩, h2⟩, h3⟩, h4⟩, h5⟩, h6⟩ := h
        subst h0
        exact sx_of (ss_tl .all ((sn.e X g _ _ _ h5).v rfl) (sn.e X g _ _ _ h6).b (notBor_ok h1) h2 h3 h4) (nox fun Γ S => (by rw [exS]; first | exact .inl ⟨_, rfl⟩ | exact .inr ⟨_, _, rfl⟩))
      · simp only [Bool.and_eq_true, decide_eq_true_eq] at h
        obtain ⟨⟨⟨⟨⟨h0, h1⟩, h2⟩, h3⟩, h4⟩, h5⟩ := h
        subst h0
        exact sx_of (ss_upd g ((sn.e X g _ _ _ h4).v rfl) ((sn.e X g _ _ _ h5).v rfl) h1 h2 h3) (nox fun Γ S => (by rw [exS]; first | exact .inl ⟨_, rfl⟩ | exact .inr ⟨_, _, rfl⟩))
      · simp only [Bool.and_eq_true] at h
        exact sx_of (ss_drop ((sn.e X g _ _ _ h.2).v rfl) (swaps_no h.1 _ _ _)) (nox fun Γ S => (by rw [exS]; first | exact .inl ⟨_, rfl⟩ | exact .inr ⟨_, _, rfl⟩))
      · exact sx_of (ss_ret ((sn.e X g _ _ _ h).v rfl)) (nox fun Γ S => (by rw [exS]; first | exact .inl ⟨_, rfl⟩ | exact .inr ⟨_, _, rfl⟩))
      · exact sx_retX ((snd_X sgo n g tk).1 _ _ h)
      · simp only [Bool.and_eq_true, Bool.or_eq_true, Bool.not_eq_true'] at h
        obtain ⟨⟨⟨⟨h1, h2⟩, h3⟩, h4⟩, h5⟩ := h
        refine sx_asgX ((snd_X sgo n g tk).1 _ _ h5) ((chkL_ok sgo gs n).1 _ _ h4) ?_ (swap_none gs.kind h2) (assign_cons h3 [] X.env)
        rcases h1 with h1 | h1
        · exact swaps_no h1 _ _ _
        · exact swaps_tg h1 _ _ _
      · simp only [Bool.and_eq_true] at h
        exact sx_dropX ((snd_X sgo n g tk).1 _ _ h.2) (swaps_no h.1 _ _ _)
      · simp only [Bool.and_eq_true, decide_eq_true_eq] at h
        obtain ⟨⟨⟨⟨h1, h2⟩, h3⟩, h4⟩, h5⟩ := h
        subst h1
        exact sx_raise tk gs (glB_ok h2) (nmOk1 h3).1 ((sn.e X g _ _ _ h5).v rfl) h4
      · simp only [Bool.and_eq_true, decide_eq_true_eq] at h
        obtain ⟨⟨⟨⟨⟨h1, h2⟩, h3⟩, h4⟩, h5⟩, h6⟩ := h
        subst h1
        exact sx_try gs tk (glB_ok h2) (nmOk1 h3).1 (xs_name sgo g h4) (fun W pn xe tk' hp => (ih (Takes.tr (pn := pn) gs hp) tk').2 _ _ h5) h6
      · exact sx_of (ss_retN) (nox fun Γ S => (by rw [exS]; first | exact .inl ⟨_, rfl⟩ | exact .inr ⟨_, _, rfl⟩))
      · simp only [Bool.and_eq_true] at h
        exact sx_ite (sn.e X g _ _ _ h.1.1).t (ih2 _ _ h.1.2) (ih2 _ _ h.2)
      · simp only [Bool.and_eq_true] at h
        obtain ⟨⟨⟨h1, h2⟩, h3⟩, h4⟩ := h
        exact sx_for gs (sn.i X g _ _ _ h3) ((chkT_ok g.calm g.nd (fun x _ => gs.fnT x) n).1 _ _ h2) (ih2 _ _ h4) (fun x => notSet_ok h1 X.env x)
      · simp only [Bool.and_eq_true] at h
        exact sx_while gs (sn.e X g _ _ _ h.1).t (ih2 _ _ h.2)
      · exact sx_of (ss_brk) (nox fun Γ S => (by rw [exS]; first | exact .inl ⟨_, rfl⟩ | exact .inr ⟨_, _, rfl⟩))
      · exact sx_of (ss_cont) (nox fun Γ S => (by rw [exS]; first | exact .inl ⟨_, rfl⟩ | exact .inr ⟨_, _, rfl⟩))
      · exact sx_of (ss_pass) (nox fun Γ S => (by rw [exS]; first | exact .inl ⟨_, rfl⟩ | exact .inr ⟨_, _, rfl⟩))
      · cases h
    · intro sts cs h
      unfold chkSs at h
      split at h
      · rw [List.isEmpty_iff] at h
        subst h
        exact sxs_nil
      · exact sxs_frz (ih2 _ _ h)
      · split at h
        · cases h
        · rw [Bool.and_eq_true] at h
          exact sxs_cons (ih1 _ _ h.1) (ih2 _ _ h.2)
end
end PL
set_option autoImplicit false
set_option linter.all false
set_option maxRecDepth 100000
set_option maxHeartbeats 4000000
set_option Elab.async false
namespace PL
open PySem PySem.Spec PyProof.Rows L2
section
variable {P : Program} {w : World} {K : PySem.W.Frag} {mg : Str → Option Value} {base : Heap} {Cn : Str → Option Addr} {Φ : Fns} {sg : Sig}
structure FunAt (K : PySem.W.Frag) (nm qual : Str) (st : Stmt) (a : Addr) : Prop where
  ex : ∃ (oc : Value) (od : Option Addr) (kV doc pm : Value) (an : Option Addr) (cdv ct : Value) (osl : Array (Option Value)),
    K.lookup a = some ⟨oc, od, .func (PySem.W.fnOf nm qual (defArgs st) (defBody st) (defScope st) .none kV doc pm an cdv ct), osl⟩ ∧ PySem.W.codeIn K cdv qual = true
theorem GFn.mono {j k : Nat} {f : Addr} {fd : FuncData} {ps : List Str} {sp : Sp} (G : GFn P w K mg base j f fd ps sp) (h : j ≤ k) : GFn P w K mg base k f fd ps sp :=
  ⟨G.len, fun A outer s H args us vs Q E g r => G.run A outer s H args us vs Q E g (r.mono h)⟩
theorem At.mono {j k : Nat} {a : Addr} {F : FnS} (x : At P w K mg base Cn j a F) (h : j ≤ k) : At P w K mg base Cn k a F := by
  obtain ⟨fd, ps, G, b⟩ := x.ex
  exact ⟨fd, ps, G.mono h, b⟩
structure GB (Φ : Fns) (Cn : Str → Option Addr) (k : Nat) (P : Program) (w : World) (K : PySem.W.Frag) (mg : Str → Option Value) (base : Heap) : Prop where
  blt : ∀ x ∈ Bn, mg x = none
  fn : ∀ f F, Φ.fn f = some F → ∃ a, mg f = some (.ref a) ∧ PySem.W.keepIn K (.ref a) = true ∧ At P w K mg base Cn k a F
  mt : ∀ c m F, Φ.mt c m = some F → ∃ C a, Cn c = some C ∧ Cls K C ∧ Meth K C m a ∧ At P w K mg base Cn k a F
  nw : ∀ c F, Φ.nw c = some F → ∃ C a, Cn c = some C ∧ mg c = some (.ref C) ∧ Mk K C a ∧ At P w K mg base Cn k a F
  fl : ∀ c f, Φ.fl c f = true → ∃ C, Cn c = some C ∧ Cls K C ∧ NoAttr K C f
  xn : ∀ c f t, Φ.xn c = some (f, t) → XMk P w K mg base Cn k c f t
  xs : ∀ c d b, Φ.xs c d = some b → XSub K mg Cn c d b
theorem env_start {W : Wd} {H : Hp} {N : List Str} : ∀ {vs : List V} {ds : List D}, RepL K W vs ds → ∀ (n : Nat), EnvOk K H W (ds.map (fun d => some (Sl.pure d)) ++ List.replicate n none) (vs.map some ++ List.replicate n none) H := by
  intro vs ds r n
  have own : ∀ (i : Nat) (xs : List D), (ds.map (fun d => some (Sl.pure d)) ++ List.replicate n none)[i]? ≠ some (some (.own xs)) := fun i xs h => by
    by_cases hl : i < (ds.map (fun d => some (Sl.pure d))).length
    · rw [List.getElem?_append_left hl, List.getElem?_map, Option.map_eq_some_iff] at h
      obtain ⟨d, _, e⟩ := h
      cases e
    · rw [List.getElem?_append_right (by omega)] at h
      have := List.mem_of_getElem? h
      rw [List.mem_replicate] at this
      cases this.2
  refine ⟨by simp [r.length], fun i d h => ?_, fun i xs h => (own i xs h).elim, fun i j xs ys l h => (own i xs h).elim⟩
  by_cases hl : i < (ds.map (fun d => some (Sl.pure d))).length
  · rw [List.getElem?_append_left hl, List.getElem?_map, Option.map_eq_some_iff] at h
    obtain ⟨d', h1, e⟩ := h
    cases e
    obtain ⟨v, hv, rv⟩ := r.get' h1
    rw [List.length_map, ← r.length] at hl
    exact ⟨v, by rw [List.getElem?_append_left (by rw [List.length_map]; exact hl), List.getElem?_map, hv]; rfl, rv⟩
  · rw [List.getElem?_append_right (by omega)] at h
    have := List.mem_of_getElem? h
    rw [List.mem_replicate] at this
    cases this.2
theorem body_ok {k np : Nat} {N : List Str} {qual : Str} {scope : Scope} {f : Addr} {cdv : Value} {A : Around} {outer : List PySem.Env} {s : Shared} {H : Hp} {E : XK} {vs : List V} {Q : VK} {body : List Stmt} {cs : List CS} {n : Nat} (B : GB Φ Cn k P w K mg base) (sgo : SigOk Φ sg)
    (nd : N.Nodup) (kind : scope.kind = .function) (rm : Room (k + 1) (A.deeper (envOfC qual scope s.heap.objs.size f cdv))) (gu : A.guards = some []) (hc : chkSs n sg N scope body cs = true) (sp : spOf K Cn (runDef Φ N.length np cs) vs H Q E) :
    ∃ t, PSs (cxOf (L2.CX P w) P w K mg base N qual scope f cdv A outer s H E) body t ∧ t { nx := fun _ H' => Q .non H', rt := Q } (L2.start N vs) H := by
  have gs : GS Φ Cn k (cxOf (L2.CX P w) P w K mg base N qual scope f cdv A outer s H E) := ⟨⟨rfl, nd, gu, rm, B.blt, B.fn, B.mt, B.nw, B.fl, B.xn, B.xs⟩, PassesOwn.leaving, fun _ => rfl, kind, rfl, rfl⟩
  have pt := (snd_S sgo n gs takes_cx).2 body cs hc
  obtain ⟨W, S, ds, so, rl, q⟩ := sp
  refine ⟨_, pt, ?_⟩
  unfold runDef at q
  split at q
  · rename_i hl
    have en := env_start (H := H) (N := N) rl (N.length - np)
    have est : L2.start N vs = vs.map some ++ List.replicate (N.length - np) none := by
      unfold L2.start
      rw [rl.length, hl]
    rw [est]
    refine ⟨W, H, W, S, _, Gr.refl W H, so, en, ?_⟩
    cases e : exSs Φ cs (ds.map (fun d => some (Sl.pure d)) ++ List.replicate (N.length - np) none) S with
    | ok fl S1 =>
      rw [e] at q
      cases fl with
      | ret d' => exact fun v W' H' g _ so' r => q v W' H' g so' r
      | nx Γ' => exact fun σ' W' H' n => q .non W' H' n.gr n.so .non
      | brk Γ' => exact q.elim
      | ct Γ' => exact q.elim
    | ex x S' =>
      rw [e] at q
      exact fun cls d σ' W' H' g _ so' xr => q cls d W' H' g so' xr
    | no => rw [e] at q; exact q.elim
  · exact q.elim
theorem spOf_len {np nN : Nat} {cs : List CS} {vs : List V} {H : Hp} {Q : VK} {E : XK} (h : spOf K Cn (runDef Φ nN np cs) vs H Q E) : vs.length = np := by
  obtain ⟨W, S, ds, so, rl, q⟩ := h
  unfold runDef at q
  split at q
  · rename_i hl
    rw [rl.length, hl]
  · exact q.elim
theorem gfn_def {k : Nat} {nm qual : Str} {st : Stmt} {a : Addr} {N ps : List Str} {cs : List CS} {n : Nat} {oc : Value} {od : Option Addr} {kV doc pm : Value} {an : Option Addr} {cdv ct : Value} {osl : Array (Option Value)} (B : GB Φ Cn k P w K mg base) (sgo : SigOk Φ sg)
    (lk : K.lookup a = some ⟨oc, od, .func (PySem.W.fnOf nm qual (defArgs st) (defBody st) (defScope st) .none kV doc pm an cdv ct), osl⟩) (hcd : PySem.W.codeIn K cdv qual = true) (S : FnScope N ps (defScope st)) (hc : chkSs n sg N (defScope st) (defBody st) cs = true) :
    GFn P w K mg base (k + 2) a (PySem.W.fnOf nm qual (defArgs st) (defBody st) (defScope st) .none kV doc pm an cdv ct) ps (spOf K Cn (runDef Φ N.length ps.length cs)) where
  len := fun vs H Q E h => spOf_len h
  run := fun A outer s H args us vs Q E gu rm e0 hb rv sp => by
    have hlen := spOf_len sp
    have keep : ∀ b o, base.get? b = some o → s.heap.get? b = some o := fun b o e => (e0.bs b o e).1
    have inK : K.In s.heap := e0.mod.kin.keeps keep
    have noLim : s.heap.NoLimit := e0.mod.nolimit.keeps keep
    have kinds : ∀ y ∈ ps.zip us, (defScope st).names.lookup y.1 = some .local ∨ ((defScope st).names.lookup y.1 = some .cell ∧ ((cellsFrom (s.heap.objs.size + 1) (defScope st).names []).lookup y.1).isSome = true) := by
      rintro ⟨x, u⟩ hy
      exact (S.par x (List.of_mem_zip hy).1).imp id fun q => ⟨q, PySem.W.cellsFrom_some _ _ _ (.inl q)⟩
    refine codeAny_call_function rm.depth (inK _ _ lk) rfl S.co S.gen rfl (PySem.W.codeRec_of inK hcd) (hb _ _ _ _ ?_)
    refine wpAny_newFunctionEnv_cells S.kind kinds fun env he s1 x => ?_
    subst he
    obtain ⟨t, pt, ht⟩ := body_ok (outer := outer) B sgo S.nd S.kind (rm.deeper _) gu hc sp
    have I : Inv (cxOf (L2.CX P w) P w K mg base N qual (defScope st) a cdv A outer s H E) [] (L2.start N vs) H s1 := inv_start S rm.hd e0 hlen rv x
    refine ⟨noLim.keeps x.toInCall.keep, codeAny_func (wpAny_mono (pt.run [] s1 (L2.start N vs) H _ I ht) (fun fl s' h => ?_) fun _ _ h => h)⟩
    match fl, h with
    | .ret u, ⟨v, _, H', J, r, q⟩ => exact ⟨v, H', J.os, J.bare, J.base, J.hok, r, q⟩
    | .next, ⟨_, H', J, q⟩ => exact ⟨.non, H', J.os, J.bare, J.base, J.hok, rfl, q⟩
    | .brk, ⟨_, _, _, q⟩ => exact q.elim
    | .cont, ⟨_, _, _, q⟩ => exact q.elim
theorem at_def {k : Nat} {nm qual : Str} {st : Stmt} {a : Addr} {N ps : List Str} {cs : List CS} {n : Nat} (B : GB Φ Cn k P w K mg base) (sgo : SigOk Φ sg) (F : FunAt K nm qual st a) (S : FnScope N ps (defScope st)) (hc : chkSs n sg N (defScope st) (defBody st) cs = true)
    (bd : ∀ (kV doc pm : Value) (an : Option Addr) (cdv ct : Value) (us : List Value), us.length = ps.length → bindArgs (PySem.W.fnOf nm qual (defArgs st) (defBody st) (defScope st) .none kV doc pm an cdv ct) ⟨us, []⟩ = pure (ps.zip us)) :
    At P w K mg base Cn (k + 2) a (runDef Φ N.length ps.length cs) := by
  obtain ⟨oc, od, kV, doc, pm, an, cdv, ct, osl, lk, hcd⟩ := F.ex
  exact ⟨_, ps, gfn_def B sgo lk hcd S hc, Binds.all fun us hl => bd kV doc pm an cdv ct us hl⟩
theorem exc_init {nm qual : Str} {st : Stmt} {fI C B : Addr} {mc : Value} {b f : Str} {t : Bool} (F : FunAt K nm qual st fI) (S : FnScope ["self", f] ["self", f] (defScope st)) (hc : chkInit b f t (defBody st) = true) (hg : glB (defScope st) b = true)
    (hdb : (b == ("__debug__" : Str)) = false) (hnf : nmOk f = true) (hm : mg b = some (.ref B)) (vB : BasI K B mc) (x : XCls K C f)
    (bd : ∀ (kV doc pm : Value) (an : Option Addr) (cdv ct : Value) (us : List Value), us.length = (["self", f] : List Str).length → bindArgs (PySem.W.fnOf nm qual (defArgs st) (defBody st) (defScope st) .none kV doc pm an cdv ct) ⟨us, []⟩ = pure ((["self", f] : List Str).zip us)) :
    ∃ (fd : FuncData) (ps : List Str), FnOk P w K mg base (L2.CX P w) 1 fI fd ps (spExc K C f t) ∧ Binds K fd ps [] := by
  obtain ⟨oc, od, kV, doc, pm, an, cdv, ct, osl, lk, hcd⟩ := F.ex
  refine ⟨_, ["self", f], fn_of lk hcd S (fun vs H Q E h => ?_) fun A outer s H vs Q E rm h => ?_, Binds.all fun us hl => bd kV doc pm an cdv ct us hl⟩
  · obtain ⟨a, y, rfl, _⟩ := h
    rfl
  · obtain ⟨a, y, rfl, xv, ea, q⟩ := h
    generalize hbd : defBody st = body at hc
    unfold chkInit at hc
    split at hc
    · rename_i b' p1 m ap s1 p2 e p p3 s2 p4 f' p5 f'' p6 p7
      simp only [Bool.and_eq_true, decide_eq_true_eq] at hc
      obtain ⟨⟨⟨⟨⟨⟨⟨h1, h2⟩, h3⟩, h4⟩, h5⟩, h6⟩, h7⟩, h8⟩ := hc
      subst h1 h2 h3 h4 h5 h6
      have hv0 : Vis (defScope st) "self" := by
        rcases S.par "self" List.mem_cons_self with z | z
        · exact .inl z
        · exact .inr (.inl z)
      have hv1 : Vis (defScope st) f'' := by
        rcases S.par f'' (List.mem_cons_of_mem _ List.mem_cons_self) with z | z
        · exact .inl z
        · exact .inr (.inl z)
      generalize hX : cxOf (L2.CX P w) P w K mg base (["self", f''] : List Str) qual (defScope st) fI cdv A outer s H E = X
      have eN : X.N = (["self", f''] : List Str) := by rw [← hX]; rfl
      have eS : X.env.scope = defScope st := by rw [← hX]; rfl
      have eK : X.K = K := by rw [← hX]; rfl
      have eM : X.mg = mg := by rw [← hX]; rfl
      have pself : ∀ p, PE X (.Name "self" p) (tVar 0) := fun p => pe_var (by rw [eN]; rfl) (by rw [eS]; exact hv0) (by decide) (by decide)
      have pf : ∀ p, PE X (.Name f'' p) (tVar 1) := fun p => pe_var (by rw [eN]; rfl) (by rw [eS]; exact hv1) (nmOk1 hnf).1 (nmOk1 hnf).2
      have hgl : Gl X b' := glB_ok (by rw [eS]; exact hg)
      obtain ⟨te, pe, fe, hst⟩ : ∃ te, PE X e te ∧ (∀ H1 (Q1 : VK), (∀ v, Q1 v H1) → te [some (.ref a), some y] H1 Q1) ∧ notStar e = true := by
        split at h8
        · exact ⟨_, pe_str, fun H1 Q1 q1 => q1 _, rfl⟩
        · simp only [Bool.and_eq_true, decide_eq_true_eq] at h8
          obtain ⟨⟨h8, h9⟩, h10⟩ := h8
          subst h8 h9
          refine ⟨_, pe_op op_add_str pe_str (pf _), fun H1 Q1 q1 => ?_, rfl⟩
          rcases xv with ⟨z, rfl, hz⟩ | ⟨z, _⟩
          · exact ⟨.str z, rfl, _, z, rfl, rfl, line_le (by omega), q1 _⟩
          · cases z
        · cases h8
      obtain ⟨pl, ht⟩ := meth_text (X := X) (o := .Name b' p1) (m := "__init__") (pos := p) (apos := ap) (es := [.Name "self" p2, e]) rfl (by rw [List.all_cons, List.all_cons, hst]; rfl) (by simp) h7
      have pa : PA X [.Name "self" p2, e] _ := pa_cons (pself p2) (pa_cons pe pa_nil (star_cons hst [] X.env)) (star_cons rfl [e] X.env)
      have s1 := pe_binit (pl := pl) hgl (by rw [eM]; exact hm) hdb (by rw [eK]; exact vB) pa ht (star_cons rfl [e] X.env) (star_all (es := [e]) (by rw [List.all_cons, hst]; rfl) p X.env).1
      have s2 := ps_ost (f := f'') (p' := p5) (pos := p7) (pself p4) (pf p6) rfl
      refine ⟨_, pss_cons (ps_expr (pos := p3) s1 rfl) (pss_one s2), ?_⟩
      have e0 : L2.start (["self", f''] : List Str) [.ref a, y] = [some (.ref a), some y] := rfl
      rw [e0]
      refine ⟨.ref a, rfl, fe H _ fun v => ⟨a, C, [v], rfl, by simp, by rw [eK]; exact x.o, ea, ?_⟩⟩
      refine ⟨y, rfl, .ref a, rfl, a, C, rfl, by rw [eK]; exact x.o, by rw [eK]; exact x.nf, .inl ⟨ea, fun dx n ne => q dx n ne⟩⟩
    · cases hc
theorem at_no {k : Nat} {nm qual : Str} {st : Stmt} {a : Addr} {ps : List Str} (F : FunAt K nm qual st a)
    (bd : ∀ (kV doc pm : Value) (an : Option Addr) (cdv ct : Value) (us : List Value), us.length = ps.length → bindArgs (PySem.W.fnOf nm qual (defArgs st) (defBody st) (defScope st) .none kV doc pm an cdv ct) ⟨us, []⟩ = pure (ps.zip us)) :
    At P w K mg base Cn k a (fun _ _ => .no) := by
  obtain ⟨oc, od, kV, doc, pm, an, cdv, ct, osl, lk, hcd⟩ := F.ex
  have no : ∀ {vs H Q E}, spOf K Cn (fun _ _ => .no) vs H Q E → False := fun h => by
    obtain ⟨_, _, _, _, _, q⟩ := h
    exact q.elim
  exact ⟨_, ps, ⟨fun vs H Q E h => (no h).elim, fun A outer s H args us vs Q E _ _ _ _ _ h => (no h).elim⟩, Binds.all fun us hl => bd kV doc pm an cdv ct us hl⟩
theorem GB.mono {j k : Nat} (B : GB Φ Cn j P w K mg base) (h : j ≤ k) : GB Φ Cn k P w K mg base where
  blt := B.blt
  fn := fun f F e => by obtain ⟨a, h1, h2, h3⟩ := B.fn f F e; exact ⟨a, h1, h2, h3.mono h⟩
  mt := fun c m F e => by obtain ⟨C, a, h1, h2, h3, h4⟩ := B.mt c m F e; exact ⟨C, a, h1, h2, h3, h4.mono h⟩
  nw := fun c F e => by obtain ⟨C, a, h1, h2, h3, h4⟩ := B.nw c F e; exact ⟨C, a, h1, h2, h3, h4.mono h⟩
  fl := B.fl
  xn := fun c f t e => (B.xn c f t e).mono h
  xs := B.xs
theorem GB.none_ (h : ∀ x ∈ Bn, mg x = none) : GB Fns.none_ Cn 0 P w K mg base := ⟨h, fun _ _ e => (nomatch e), fun _ _ _ e => (nomatch e), fun _ _ e => (nomatch e), fun _ _ e => (nomatch e), fun _ _ _ e => (nomatch e), fun _ _ _ e => (nomatch e)⟩
theorem GB.x {k : Nat} {c f : Str} {t : Bool} (B : GB Φ Cn k P w K mg base) (h : XMk P w K mg base Cn k c f t) : GB (Φ.x c f t) Cn k P w K mg base where
  blt := B.blt
  fn := B.fn
  mt := B.mt
  nw := B.nw
  fl := B.fl
  xs := B.xs
  xn := fun d g u e => by
    have e' : (if d = c then some (f, t) else Φ.xn d) = some (g, u) := e
    split at e'
    · rename_i q
      cases e'
      subst q
      exact h
    · exact B.xn d g u e'
theorem GB.s {k : Nat} {c d : Str} {b : Bool} (B : GB Φ Cn k P w K mg base) (h : XSub K mg Cn c d b) : GB (Φ.s c d b) Cn k P w K mg base where
  blt := B.blt
  fn := B.fn
  mt := B.mt
  nw := B.nw
  fl := B.fl
  xn := B.xn
  xs := fun c' d' b' e => by
    have e' : (if c' = c ∧ d' = d then some b else Φ.xs c' d') = some b' := e
    split at e'
    · rename_i q
      cases e'
      obtain ⟨rfl, rfl⟩ := q
      exact h
    · exact B.xs c' d' b' e'
theorem GB.f {k : Nat} {x : Str} {F : FnS} {a : Addr} (B : GB Φ Cn k P w K mg base) (h1 : mg x = some (.ref a)) (h2 : PySem.W.keepIn K (.ref a) = true) (h3 : At P w K mg base Cn k a F) : GB (Φ.f x F) Cn k P w K mg base where
  blt := B.blt
  xn := B.xn
  xs := B.xs
  fn := fun y G e => by
    have e' : (if y = x then some F else Φ.fn y) = some G := e
    split at e'
    · rename_i q
      cases e'
      subst q
      exact ⟨a, h1, h2, h3⟩
    · exact B.fn y G e'
  mt := B.mt
  nw := B.nw
  fl := B.fl
theorem GB.m {k : Nat} {c x : Str} {F : FnS} {C a : Addr} (B : GB Φ Cn k P w K mg base) (h1 : Cn c = some C) (h2 : Cls K C) (h3 : Meth K C x a) (h4 : At P w K mg base Cn k a F) : GB (Φ.m c x F) Cn k P w K mg base where
  blt := B.blt
  xn := B.xn
  xs := B.xs
  fn := B.fn
  mt := fun d y G e => by
    have e' : (if d = c ∧ y = x then some F else Φ.mt d y) = some G := e
    split at e'
    · rename_i q
      cases e'
      obtain ⟨rfl, rfl⟩ := q
      exact ⟨C, a, h1, h2, h3, h4⟩
    · exact B.mt d y G e'
  nw := B.nw
  fl := B.fl
theorem GB.n {k : Nat} {c : Str} {F : FnS} {C a : Addr} (B : GB Φ Cn k P w K mg base) (h1 : Cn c = some C) (h2 : mg c = some (.ref C)) (h3 : Mk K C a) (h4 : At P w K mg base Cn k a F) : GB (Φ.n c F) Cn k P w K mg base where
  blt := B.blt
  xn := B.xn
  xs := B.xs
  fn := B.fn
  mt := B.mt
  nw := fun d G e => by
    have e' : (if d = c then some F else Φ.nw d) = some G := e
    split at e'
    · rename_i q
      cases e'
      subst q
      exact ⟨C, a, h1, h2, h3, h4⟩
    · exact B.nw d G e'
  fl := B.fl
theorem GB.a {k : Nat} {c : Str} {fs : List Str} {C : Addr} (B : GB Φ Cn k P w K mg base) (h1 : Cn c = some C) (h2 : Cls K C) (h3 : ∀ f ∈ fs, NoAttr K C f) : GB (Φ.a c fs) Cn k P w K mg base where
  blt := B.blt
  xn := B.xn
  xs := B.xs
  fn := B.fn
  mt := B.mt
  nw := B.nw
  fl := fun d y e => by
    have e' : ((decide (d = c) && fs.contains y) || Φ.fl d y) = true := e
    rw [Bool.or_eq_true, Bool.and_eq_true, decide_eq_true_eq] at e'
    rcases e' with ⟨rfl, e'⟩ | e'
    · exact ⟨C, h1, h2, h3 y (by simpa using e')⟩
    · exact B.fl d y e'
end
def Sig.f (g : Sig) (x : Str) : Sig := ⟨x :: g.fn, g.mt, g.nw, g.xc⟩
def Sig.m (g : Sig) (c x : Str) : Sig := ⟨g.fn, (c, x) :: g.mt, g.nw, g.xc⟩
def Sig.n (g : Sig) (x : Str) : Sig := ⟨g.fn, g.mt, x :: g.nw, g.xc⟩
theorem SigOk.f {Φ : Fns} {g : Sig} {x : Str} {F : FnS} (h : SigOk Φ g) : SigOk (Φ.f x F) (g.f x) where
  xc := h.xc
  fn := fun y e => by
    by_cases q : y = x
    · exact ⟨F, if_pos q⟩
    · have e' : y ∈ x :: g.fn := by simpa [Sig.f] using e
      obtain ⟨G, z⟩ := h.fn y (by simpa using (List.mem_cons.mp e').resolve_left q)
      exact ⟨G, (if_neg q).trans z⟩
  mt := h.mt
  nw := h.nw
theorem SigOk.n {Φ : Fns} {g : Sig} {x : Str} {F : FnS} (h : SigOk Φ g) : SigOk (Φ.n x F) (g.n x) where
  xc := h.xc
  fn := h.fn
  mt := h.mt
  nw := fun y e => by
    by_cases q : y = x
    · exact ⟨F, if_pos q⟩
    · have e' : y ∈ x :: g.nw := by simpa [Sig.n] using e
      obtain ⟨G, z⟩ := h.nw y (by simpa using (List.mem_cons.mp e').resolve_left q)
      exact ⟨G, (if_neg q).trans z⟩
theorem SigOk.m {Φ : Fns} {g : Sig} {c x : Str} {F : FnS} (h : SigOk Φ g) : SigOk (Φ.m c x F) (g.m c x) where
  xc := h.xc
  fn := h.fn
  mt := fun d y e => by
    by_cases q : d = c ∧ y = x
    · exact ⟨F, if_pos q⟩
    · have e' : inMt g d y = true := by
        unfold inMt Sig.m at e
        rw [List.any_cons, Bool.or_eq_true] at e
        rcases e with e | e
        · rw [Bool.and_eq_true, decide_eq_true_eq, decide_eq_true_eq] at e
          exact (q ⟨e.1.symm, e.2.symm⟩).elim
        · exact e
      obtain ⟨G, z⟩ := h.mt d y e'
      exact ⟨G, (if_neg q).trans z⟩
  nw := h.nw
structure Begin (P : Program) (w : World) (K : PySem.W.Frag) (H : Hp) (h : Heap) (a : Addr) (ns : List Int) : Prop where
  sq : SqL K H a (ns.map V.int)
  ok : HOk P w H h
  one : ∀ b u, H b = some u → b = a ∧ K.lookup a = none ∧ ∃ o xs, u = .frz o (.lst xs)
theorem begin_of {P : Program} {w : World} {K : PySem.W.Frag} {h : Heap} {a : Addr} {vs : List Value} {ns : List Int} (KX : K.In h) (ha : h.get? a = some { cls := .type "list", data := .seq vs.toArray }) (hi : IntsAre vs ns) (hl : ns.length ≤ sizeLine) : ∃ H, Begin P w K H h a ns := by
  have rv := vals_ints hi
  rcases hk : K.lookup a with _ | o
  · have tr : ∀ b u, (if b = a then some (HO.frz { cls := .type "list", data := .seq vs.toArray } (.lst (ns.map V.int))) else none) = some u → b = a ∧ u = .frz { cls := .type "list", data := .seq vs.toArray } (.lst (ns.map V.int)) := fun b u e => by
      split at e
      · rename_i q; cases e; exact ⟨q, rfl⟩
      · cases e
    refine ⟨fun b => if b = a then some (.frz { cls := .type "list", data := .seq vs.toArray } (.lst (ns.map V.int))) else none, .inl (.inr ⟨_, if_pos rfl⟩), fun b u e => ?_, fun b u e => ?_⟩
    · obtain ⟨rfl, rfl⟩ := tr b u e
      exact ⟨ha, by rw [List.length_map]; exact hl, vs, _, rv, ha⟩
    · obtain ⟨rfl, rfl⟩ := tr b u e
      exact ⟨rfl, hk, _, _, rfl⟩
  · have e := KX a o hk
    rw [ha] at e
    cases e
    exact ⟨fun _ => none, .inr ⟨_, vs.toArray, _, hk, rfl, rfl, rfl, by rw [List.size_toArray, hi.length]; exact hl, by simpa using rv⟩, fun b u e => (nomatch e), fun b u e => (nomatch e)⟩
theorem law_run {P : Program} {w : World} {K : PySem.W.Frag} {mg mb : Str → Option Value} {k : Nat} {fa a : Addr} {fd : FuncData} {x : Str} {sp : Sp} {s : Shared} {vs : List Value} {ns : List Int}
    (KX : K.In s.heap) (hns : s.heap.Ns mainGlobals mg) (hb : s.heap.Ns builtinsNs mb) (hbb : ∀ x : Str, x ≠ "__name__" → mb x = bootBuiltins x) (hlim : s.heap.NoLimit) (hg : s.gens = #[])
    (ha : s.heap.get? a = some { cls := .type "list", data := .seq vs.toArray }) (hi : IntsAre vs ns) (hl : ns.length ≤ sizeLine) (hr : Room k callerA) (hgu : callerA.guards = some [])
    (F : ∀ base : Heap, K.In base → base.Ns mainGlobals mg → GFn P w K mg base k fa fd [x] sp) (hbind : ∀ (s : Shared) (u : Value), BindsTo s fd ⟨[u], []⟩ [(x, u)])
    (hsp : ∀ H : Hp, (∀ b u, H b = some u → ∃ o xs, u = .frz o (.lst xs)) → SqL K H a (ns.map V.int) → sp [.ref a] H (fun v _ => v = .bl true) NoE) :
    codeAny (model P w) callerA (.call (.ref fa) ⟨[.ref a], []⟩) (fun r s' => r = .ok (.ret (.bool true)) ∧ OldK s.heap s'.heap ∧ s'.os = s.os ∧ AllBare s'.gens) s := by
  obtain ⟨H, B⟩ := begin_of (P := P) (w := w) KX ha hi hl
  have nonL : ∀ {b : Addr} {o : Obj}, s.heap.get? b = some o → (b = a → o ≠ { cls := .type "list", data := .seq vs.toArray }) → (hidT s.heap H).get? b = some o := fun {b o} e n => hidT_get e (by
    cases q : H b with
    | none => rfl
    | some u =>
      obtain ⟨rfl, _⟩ := B.one b u q
      rw [ha] at e
      exact (n rfl (Option.some.inj e).symm).elim)
  have ns_ : ∀ {b : Addr} {m : Str → Option Value}, s.heap.Ns b m → (hidT s.heap H).Ns b m := fun {b m} ⟨o, es, ep, e, d, r⟩ => ⟨o, es, ep, nonL e (fun _ q => by subst q; cases d), d, r⟩
  have KB : K.In (hidT s.heap H) := fun b o e => hidT_get (KX b o e) (by
    cases q : H b with
    | none => rfl
    | some u =>
      obtain ⟨rfl, k0, _⟩ := B.one b u q
      rw [k0] at e; cases e)
  have md : Mod K mg (hidT s.heap H) := ⟨KB, ns_ hns, ⟨mb, ns_ hb, hbb⟩, by
    obtain ⟨mc, h1, h2⟩ := hlim
    exact ⟨mc, ns_ h1, h2⟩⟩
  have noMem : ∀ b : Addr, b ∈ frs [] → False := fun b z => by
    have z' : b ∈ ([] : List Addr) := z
    cases z'
  have e0 : Env0 P w K mg (hidT s.heap H) callerA [] s H := ⟨rfl, md, fun b o e => of_hidT e, Nat.le_of_eq (hidT_size _ _), trivial, fun b z => (noMem b z).elim, B.ok, .of_eq hg⟩
  have run := (F _ KB (ns_ hns)).run callerA [] s H ⟨[.ref a], []⟩ [.ref a] [.ref a] _ _ hgu hr e0 (hbind s (.ref a)) (.cons rfl .nil) (hsp H (fun b u e => (B.one b u e).2.2) B.sq)
  refine codeAny_mono run fun r s' h => ?_
  match r, h with
  | .error e, ⟨_, _, _, _, _, _, _, _, _, _, _, _, z⟩ => exact z.elim
  | .ok .next, h => exact h.elim
  | .ok .brk, h => exact h.elim
  | .ok .cont, h => exact h.elim
  | .ok (.ret u), ⟨v, H', os, bare, un, ok', rv, q⟩ =>
    have q' : v = .bl true := q
    subst q'
    cases rv
    refine ⟨rfl, OldK.of_keep fun b o e => ?_, os, bare⟩
    cases z : H b with
    | none => exact un.keep b o e z (fun m => (noMem b m).elim) (fun m => nomatch m)
    | some u =>
      obtain ⟨_, _, o', xs, rfl⟩ := B.one b u z
      have z2 := un.frzs b o' _ z
      have h1 := (B.ok b _ z).1
      have h2 := (ok' b _ z2).1
      rw [e] at h1
      cases h1
      exact h2
theorem law_walk {l : PySem.W.OpenLaw} {n k : Nat} {q : Program} {loose : List Str} {XP : (Str → Option Value) → Heap → Prop} {YP : World → Heap → Prop} {d : DefRec} {K : Params → PySem.W.Frag} {F : FnS} (hn : l.most = some n) (hn2 : n ≤ sizeLine) (hdf : d.params.defaults = []) (hr : Room k callerA) (hgu : callerA.guards = some [])
    (hY : ∀ (w : World) (h : Heap), YP w h → (K w.params).In h)
    (hF : ∀ (w : World) (mg : Str → Option Value) (fa : Addr) (h : Heap), (K w.params).In h → h.Ns mainGlobals mg → mg d.name = some (.ref fa) →
      ∃ (Cn : Str → Option Addr) (fd : FuncData) (x : Str), (∀ (s : Shared) (u : Value), BindsTo s fd ⟨[u], []⟩ [(x, u)]) ∧ ∀ base : Heap, (K w.params).In base → base.Ns mainGlobals mg → GFn l.prog w (K w.params) mg base k fa fd [x] (spOf (K w.params) Cn F))
    (plain : ∀ ns : List Int, ns.length ≤ n → ∃ S', F [scr (ns.map PyData.int)] [] = .ok (.bool true) S') : PySem.W.WalkO q loose XP YP l.row.toRowW d [] (fun f vs => PySem.call f vs) := by
  refine Att.attach_call hn hdf fun w s₀ s₁ mg mb fa o pm cd doc a vs ns G Y ho hd hcd hmg hobj hints hlen hg => ?_
  have KX := hY w _ Y
  obtain ⟨Cn, fd, x, hb, hG⟩ := hF w mg fa _ KX G.T.g hmg
  refine law_run KX G.T.g G.T.b G.T.builtins G.T.nolimit hg hobj hints (Nat.le_trans hlen hn2) hr hgu hG hb fun H hO hS => ?_
  obtain ⟨S', hp⟩ := plain ns hlen
  refine sp_ok (W := ⟨H, []⟩) (S := []) ⟨fun _ _ h => h, rfl, List.nodup_nil, fun _ h => (nomatch h), fun n a o h _ => (nomatch h)⟩ (.cons (.scr hS (RepL.ints ns)) .nil) hp fun v W' H' _ _ r => ?_
  cases r
  rfl
end PL
set_option autoImplicit false
set_option linter.all false
set_option maxRecDepth 100000
set_option maxHeartbeats 4000000
set_option Elab.async false
namespace PL
open PySem
inductive Does {α : Type} (r : R α) (P : α → Store → Prop) : Prop where
  | intro (a : α) (S : Store) (e : r = .ok a S) (p : P a S)
theorem does_ok {α : Type} (a : α) (S : Store) (P : α → Store → Prop) : Does (.ok a S) P = P a S := propext ⟨fun ⟨_, _, e, p⟩ => (by cases e; exact p), fun p => ⟨a, S, rfl, p⟩⟩
theorem does_no {α : Type} (P : α → Store → Prop) : Does (.no : R α) P = False := propext ⟨fun ⟨_, _, e, _⟩ => (by cases e), fun p => p.elim⟩
theorem does_ex {α : Type} (x : XD) (S : Store) (P : α → Store → Prop) : Does (.ex x S : R α) P = False := propext ⟨fun ⟨_, _, e, _⟩ => (by cases e), fun p => p.elim⟩
theorem does_bind {α β : Type} (r : R α) (f : α → Store → R β) (P : β → Store → Prop) : Does (r.bind f) P = Does r (fun a S => Does (f a S) P) := by
  cases r with
  | ok a S => rw [bind_ok, does_ok]
  | ex x S => rw [bind_ex, does_ex, does_ex]
  | no => rw [bind_no, does_no, does_no]
theorem does_noX {α : Type} (r : R α) (P : α → Store → Prop) : Does (noX r) P = Does r P := by
  cases r with
  | ok a S => rfl
  | ex x S => show Does .no P = _; rw [does_no, does_ex]
  | no => rfl
theorem does_some {α : Type} (a : α) (S : Store) (P : α → Store → Prop) : Does (ofO (some a) S) P = P a S := does_ok a S P
theorem does_none {α : Type} (S : Store) (P : α → Store → Prop) : Does (ofO (none : Option α) S) P = False := does_no P
theorem does_oif {α : Type} (c : Prop) [Decidable c] (a : α) (S : Store) (P : α → Store → Prop) : Does (ofO (if c then some a else none) S) P = (c ∧ P a S) := by
  by_cases h : c
  · simp only [h, if_true, true_and, does_some]
  · simp only [h, if_false, false_and, does_none]
theorem does_omap {α β : Type} (o : Option α) (f : α → β) (S : Store) (P : β → Store → Prop) : Does (ofO (o.map f) S) P = Does (ofO o S) (fun a S => P (f a) S) := by
  cases o
  · rw [Option.map_none, does_none, does_none]
  · rw [Option.map_some, does_some, does_some]
theorem does_ofS {α : Type} (S : Store) (a : α) (P : α → Store → Prop) : Does (ofS (some S) a) P = P a S := does_ok a S P
theorem does_ofSif {α : Type} (c : Prop) [Decidable c] (S : Store) (a : α) (P : α → Store → Prop) : Does (ofS (if c then some S else none) a) P = (c ∧ P a S) := by
  by_cases h : c
  · simp only [h, if_true, true_and, does_ofS]
  · simp only [h, if_false, false_and]
    exact does_no P
theorem does_if {α : Type} (c : Prop) [Decidable c] (r r' : R α) (P : α → Store → Prop) : Does (if c then r else r') P = if c then Does r P else Does r' P := by
  by_cases h : c <;> simp [h]
theorem if_no (c : Prop) [Decidable c] (p : Prop) : (if c then p else False) = (c ∧ p) := by
  by_cases h : c <;> simp [h]
theorem Does.get {α : Type} {r : R α} {P : α → Store → Prop} (h : Does r P) : ∃ a S, r = .ok a S ∧ P a S := by
  obtain ⟨a, S, e, p⟩ := h
  exact ⟨a, S, e, p⟩
theorem Does.imp {α : Type} {r : R α} {P Q : α → Store → Prop} (h : Does r P) (k : ∀ a S, P a S → Q a S) : Does r Q := by
  obtain ⟨a, S, e, p⟩ := h
  exact ⟨a, S, e, k a S p⟩
def Nxt (k : Env → Store → Prop) (P : Fl → Store → Prop) (fl : Fl) (S : Store) : Prop := match fl with
  | .nx Γ => k Γ S
  | f => P f S
theorem nxt_nx (k : Env → Store → Prop) (P : Fl → Store → Prop) (Γ : Env) (S : Store) : Nxt k P (.nx Γ) S = k Γ S := rfl
theorem nxt_ret (k : Env → Store → Prop) (P : Fl → Store → Prop) (d : D) (S : Store) : Nxt k P (.ret d) S = P (.ret d) S := rfl
theorem nxt_brk (k : Env → Store → Prop) (P : Fl → Store → Prop) (Γ : Env) (S : Store) : Nxt k P (.brk Γ) S = P (.brk Γ) S := rfl
theorem nxt_ct (k : Env → Store → Prop) (P : Fl → Store → Prop) (Γ : Env) (S : Store) : Nxt k P (.ct Γ) S = P (.ct Γ) S := rfl
theorem does_nil {Φ : Fns} {Γ : Env} {S : Store} {P : Fl → Store → Prop} : Does (exSs Φ [] Γ S) P = P (.nx Γ) S := by rw [exSs, does_ok]
theorem does_cons {Φ : Fns} {s : CS} {ss : List CS} {Γ : Env} {S : Store} {P : Fl → Store → Prop} : Does (exSs Φ (s :: ss) Γ S) P = Does (exS Φ s Γ S) (Nxt (fun Γ1 S1 => Does (exSs Φ ss Γ1 S1) P) P) := by
  rw [exSs, does_bind]
  congr 1
  funext fl S1
  cases fl with
  | nx Γ => rfl
  | ret d => exact does_ok _ _ _
  | brk Γ => exact does_ok _ _ _
  | ct Γ => exact does_ok _ _ _
def Turn (k : Env → Store → Prop) (P : Fl → Store → Prop) (fl : Fl) (S : Store) : Prop := match fl with
  | .nx Γ => k Γ S
  | .ct Γ => k Γ S
  | .brk Γ => P (.nx Γ) S
  | .ret d => P (.ret d) S
theorem turn_nx (k : Env → Store → Prop) (P : Fl → Store → Prop) (Γ : Env) (S : Store) : Turn k P (.nx Γ) S = k Γ S := rfl
theorem turn_ret (k : Env → Store → Prop) (P : Fl → Store → Prop) (d : D) (S : Store) : Turn k P (.ret d) S = P (.ret d) S := rfl
theorem turn_brk (k : Env → Store → Prop) (P : Fl → Store → Prop) (Γ : Env) (S : Store) : Turn k P (.brk Γ) S = P (.nx Γ) S := rfl
theorem turn_ct (k : Env → Store → Prop) (P : Fl → Store → Prop) (Γ : Env) (S : Store) : Turn k P (.ct Γ) S = k Γ S := rfl
theorem does_for {f : D → Env → Store → R Fl} {xs : List D} {P : Fl → Store → Prop} (I : Nat → Env → Store → Prop) {Γ : Env} {S : Store} (h0 : I 0 Γ S)
    (step : ∀ i x Γ S, xs[i]? = some x → I i Γ S → Does (f x Γ S) (Turn (I (i + 1)) P)) (fin : ∀ Γ S, I xs.length Γ S → P (.nx Γ) S) : Does (forLoop none f xs Γ S) P := by
  have key : ∀ (ys : List D) (i : Nat) (Γ : Env) (S : Store), i ≤ xs.length → xs.drop i = ys → I i Γ S → Does (forLoop none f ys Γ S) P := by
    intro ys
    induction ys with
    | nil =>
      intro i Γ S hi hd h
      have e : i = xs.length := Nat.le_antisymm hi (List.drop_eq_nil_iff.mp hd)
      subst e
      rw [forLoop, onG_none, does_ok]
      exact fin Γ S h
    | cons y ys ih =>
      intro i Γ S hi hd h
      have hl : i < xs.length := by
        apply Nat.lt_of_not_le
        intro hc
        rw [List.drop_eq_nil_iff.mpr hc] at hd
        cases hd
      rw [List.drop_eq_getElem_cons hl] at hd
      cases hd
      rw [forLoop, onG_none, does_bind]
      refine (step i _ Γ S (List.getElem?_eq_getElem hl) h).imp fun fl S' q => ?_
      cases fl with
      | nx Γ' => exact ih (i + 1) Γ' S' hl rfl q
      | ct Γ' => exact ih (i + 1) Γ' S' hl rfl q
      | brk Γ' => exact (by rw [does_ok]; exact q)
      | ret d => exact (by rw [does_ok]; exact q)
  exact key xs 0 Γ S (Nat.zero_le _) rfl h0
theorem does_while {c : Env → Store → R Bool} {f : Env → Store → R Fl} {P : Fl → Store → Prop} (I : Nat → Env → Store → Prop) {Γ : Env} {S : Store} {n0 : Nat} (h0 : I n0 Γ S)
    (step : ∀ n Γ S, I n Γ S → Does (c Γ S) (fun t S1 => if t = true then Does (f Γ S1) (Turn (fun Γ' S' => ∃ m, m < n ∧ I m Γ' S') P) else P (.nx Γ) S1)) {N : Nat} (hN : n0 < N) : Does (whileLoop c f N Γ S) P := by
  induction N generalizing n0 Γ S with
  | zero => omega
  | succ N ih =>
    rw [whileLoop, does_bind]
    refine (step n0 Γ S h0).imp fun t S1 q => ?_
    cases t with
    | false =>
      rw [if_neg Bool.false_ne_true] at q
      rw [if_neg Bool.false_ne_true, does_ok]
      exact q
    | true =>
      rw [if_pos rfl] at q
      rw [if_pos rfl, does_bind]
      refine q.imp fun fl S' r => ?_
      cases fl with
      | nx Γ' => obtain ⟨m, hm, h⟩ := r; exact ih h (by omega)
      | ct Γ' => obtain ⟨m, hm, h⟩ := r; exact ih h (by omega)
      | brk Γ' => exact (by rw [does_ok]; exact r)
      | ret d => exact (by rw [does_ok]; exact r)
def cDraws : List CS :=
  [.own 2 (.lst []),
  .asg (.nm 3) (.lit (.int 7)),
  .for_ (.nm 4) (.r1 (.c1 .len (.var 0)))
   [.asg (.nm 5) (.c1 .abs (.c1 .int (.sub (.var 0) (.var 4)))),
    .asg (.nm 3) (.bin .mod (.c1 .int (.bin .add (.bin .add (.bin .mul (.var 3) (.lit (.int 48271))) (.bin .mod (.var 5) (.lit (.int 1000003)))) (.var 4))) (.lit (.int 65537))),
    .asg (.nm 6) (.lit (.int 0)),
    .ite (.cmp .ge (.var 5) (.bin .pow (.lit (.int 10)) (.lit (.int 18))))
     [.asg (.nm 6) (.var 5)]
     [.app (.bor 2) (.bin .mod (.c1 .int (.var 5)) (.lit (.int 997))),
      .app (.bor 2) (.bin .mod (.bin .mod (.c1 .int (.bin .add (.bin .mul (.var 3) (.lit (.int 69621))) (.lit (.int 5)))) (.lit (.int 65521))) (.lit (.int 997)))],
    .for_ (.nm 7) (.r1 (.lit (.int 60)))
     [.ite (.cmp .gt (.var 6) (.lit (.int 0)))
       [.app (.bor 2) (.bin .mod (.c1 .int (.var 6)) (.lit (.int 997))),
        .asg (.nm 6) (.bin .fdiv (.var 6) (.lit (.int 997)))]
       []]],
  .for_ (.nm 4) (.r1 (.var 1))
   [.asg (.nm 3) (.bin .mod (.c1 .int (.bin .add (.bin .add (.bin .mul (.var 3) (.lit (.int 16807))) (.var 4)) (.lit (.int 1)))) (.lit (.int 65537))),
    .app (.bor 2) (.bin .mod (.c1 .int (.var 3)) (.lit (.int 997)))],
  .ret (.slice (.bor 2) none (some (.var 1)))]
def Draws (ns : List Int) : Prop := ∀ n ∈ ns, 0 ≤ n ∧ n < 997
theorem draw997 (n : Int) : 0 ≤ n % 997 ∧ n % 997 < 997 := ⟨Int.emod_nonneg _ (by decide), Int.emod_lt_of_pos _ (by decide)⟩
theorem Draws.app {ns : List Int} {n : Int} (h : Draws ns) (hn : 0 ≤ n ∧ n < 997) : Draws (ns ++ [n]) := fun m hm => by
  rcases List.mem_append.mp hm with hm | hm
  · exact h m hm
  · have e : m = n := by simpa using hm
    subst e; exact hn
theorem rngL_get {n : Int} {i : Nat} {x : D} (h : (rngL 0 n)[i]? = some x) : x = .int i ∧ (i : Int) < n := by
  unfold rngL at h
  rw [List.getElem?_map, Option.map_eq_some_iff] at h
  obtain ⟨j, h1, rfl⟩ := h
  obtain ⟨hl, h2⟩ := List.getElem?_eq_some_iff.mp h1
  simp at h2 hl
  subst h2
  exact ⟨by simp, by omega⟩
theorem rngL_length (n : Nat) : (rngL 0 (n : Int)).length = n := by
  unfold rngL
  simp
section
variable {S : Store}
theorem o_addII (a b : Int) : opB S .add (.int a) (.int b) = some (.int (a + b)) := rfl
theorem o_addIB (a : Int) (b : Bool) : opB S .add (.int a) (.bool b) = some (.int (a + b2i b)) := rfl
theorem o_addTT (a b : List D) : opB S .add (.tuple a) (.tuple b) = if a.length + b.length ≤ 1000000 then some (.tuple (a ++ b)) else none := rfl
theorem o_addLL (a b : List D) : opB S .add (.list a) (.list b) = if a.length + b.length ≤ 1000000 then some (.list (a ++ b)) else none := rfl
theorem o_addSS (a b : Str) : opB S .add (.str a) (.str b) = if a.length + b.length ≤ 1000000 then some (.str (a ++ b)) else none := rfl
theorem o_subII (a b : Int) : opB S .sub (.int a) (.int b) = some (.int (a - b)) := rfl
theorem o_mulII (a b : Int) : opB S .mul (.int a) (.int b) = if a.natAbs < 18446744073709551616 ∨ b.natAbs < 18446744073709551616 then some (.int (a * b)) else none := rfl
theorem o_divII (a b : Int) : opB S .fdiv (.int a) (.int b) = if 0 < b ∧ b < 1073741824 then some (.int (a / b)) else none := rfl
theorem o_modII (a b : Int) : opB S .mod (.int a) (.int b) = if 0 < b then some (.int (a % b)) else none := rfl
theorem o_powII (a b : Int) : opB S .pow (.int a) (.int b) = if 0 ≤ b ∧ b ≤ 1000000 ∧ a.natAbs < 18446744073709551616 then some (.int (a ^ b.toNat)) else none := rfl
theorem q_ltII (a b : Int) : opC S .lt (.int a) (.int b) = some (decide (a < b)) := rfl
theorem q_leII (a b : Int) : opC S .le (.int a) (.int b) = some (decide (a ≤ b)) := rfl
theorem q_gtII (a b : Int) : opC S .gt (.int a) (.int b) = some (decide (b < a)) := rfl
theorem q_geII (a b : Int) : opC S .ge (.int a) (.int b) = some (decide (b ≤ a)) := rfl
theorem q_isN (a : D) : opC S .isN a .none = some (isNone a) := rfl
theorem q_notN (a : D) : opC S .notN a .none = some (!isNone a) := rfl
theorem isNone_n : isNone .none = true := rfl
theorem isNone_i (i : Int) : isNone (.int i) = false := rfl
theorem isNone_b (i : Bool) : isNone (.bool i) = false := rfl
theorem isNone_s (i : Str) : isNone (.str i) = false := rfl
theorem isNone_t (i : List D) : isNone (.tuple i) = false := rfl
theorem isNone_l (i : List D) : isNone (.list i) = false := rfl
theorem q_isB (a b : Bool) : opC S .isB (.bool a) (.bool b) = some (decide (a = b)) := rfl
theorem q_notB (a b : Bool) : opC S .notB (.bool a) (.bool b) = some (!decide (a = b)) := rfl
theorem q_eq (a b : D) : opC S .eq a b = eqC S a b := rfl
theorem q_ne (a b : D) : opC S .ne a b = (eqC S a b).map (!·) := rfl
theorem dicOf_i (i : Int) : dicOf S (.int i) = none := rfl
theorem dicOf_n : dicOf S .none = none := rfl
theorem dicOf_b (i : Bool) : dicOf S (.bool i) = none := rfl
theorem dicOf_s (i : Str) : dicOf S (.str i) = none := rfl
theorem dicOf_t (i : List D) : dicOf S (.tuple i) = none := rfl
theorem dicOf_l (i : List D) : dicOf S (.list i) = none := rfl
theorem eqC_i (i : Int) (b : D) : eqC S (.int i) b = eqD (.int i) (unref S b) := rfl
theorem eqC_n (b : D) : eqC S .none b = eqD .none (unref S b) := rfl
theorem eqC_b (i : Bool) (b : D) : eqC S (.bool i) b = eqD (.bool i) (unref S b) := rfl
theorem eqC_s (i : Str) (b : D) : eqC S (.str i) b = eqD (.str i) (unref S b) := rfl
theorem eqC_t (i : List D) (b : D) : eqC S (.tuple i) b = eqD (.tuple i) (unref S b) := rfl
theorem eqC_l (i : List D) (b : D) : eqC S (.list i) b = eqD (.list i) (unref S b) := rfl
theorem unref_i (i : Int) : unref S (.int i) = .int i := rfl
theorem unref_n : unref S .none = .none := rfl
theorem unref_b (i : Bool) : unref S (.bool i) = .bool i := rfl
theorem unref_s (i : Str) : unref S (.str i) = .str i := rfl
theorem unref_t (i : List D) : unref S (.tuple i) = .tuple i := rfl
theorem unref_l (i : List D) : unref S (.list i) = .list i := rfl
theorem eqC_lay {a b : D} (ha : a.canLay0 = true) (hb : b.canLay0 = true) : eqC S a b = eqD a b := by
  have u : unref S b = b := by cases b <;> first | rfl | simp [PyData.canLay0] at hb
  cases a <;> first | (simp [PyData.canLay0] at ha; done) | (rw [← u]; first | exact congrArg _ u | rfl)
theorem eq_II (a b : Int) : eqD (.int a) (.int b) = some (decide (a = b)) := rfl
theorem eq_BB (a b : Bool) : eqD (.bool a) (.bool b) = some (decide (a = b)) := by cases a <;> cases b <;> rfl
theorem sh_str {s : Str} (h : PyData.strOk s = true) : SeqAt.shaped (.str s) = true := by simp [SeqAt.shaped, PyData.canLay0, PyData.depth, h]
theorem eq_SS (a b : Str) : eqD (.str a) (.str b) = some (decide (a = b)) := by
  unfold eqD
  split
  · by_cases h : a = b <;> simp [PyData.eqv, h]
  · rfl
theorem eq_NN : eqD .none .none = some true := rfl
theorem eq_NI (a : Int) : eqD .none (.int a) = some false := rfl
theorem eq_IN (a : Int) : eqD (.int a) .none = some false := rfl
theorem t_none : tru S .none = some false := rfl
theorem t_bool (b : Bool) : tru S (.bool b) = some b := rfl
theorem t_int (i : Int) : tru S (.int i) = some (i != 0) := rfl
theorem k_abs (i : Int) : call1 S .abs (.int i) = some (.int (if i < 0 then -i else i)) := rfl
theorem k_intI (i : Int) : call1 S .int (.int i) = some (.int i) := rfl
theorem k_intB (b : Bool) : call1 S .int (.bool b) = some (.int (if b then 1 else 0)) := rfl
theorem k_lenL (xs : List D) : call1 S .len (.list xs) = some (.int xs.length) := rfl
theorem k_lenT (xs : List D) : call1 S .len (.tuple xs) = some (.int xs.length) := rfl
theorem k_tupL (xs : List D) : call1 S .tuple (.list xs) = some (.tuple xs) := rfl
theorem k_tupT (xs : List D) : call1 S .tuple (.tuple xs) = some (.tuple xs) := rfl
theorem k_lstL (xs : List D) : call1 S .list (.list xs) = some (.list xs) := rfl
theorem k_lstT (xs : List D) : call1 S .list (.tuple xs) = some (.list xs) := rfl
theorem k_max2 (a b : Int) : call2 .max (.int a) (.int b) = some (.int (if b > a then b else a)) := rfl
theorem k_min2 (a b : Int) : call2 .min (.int a) (.int b) = some (.int (if b < a then b else a)) := rfl
theorem r_2 (a b : Int) : rng2 (.int a) (.int b) = if smallI a && smallI b && decide ((b - a).toNat ≤ 1000000) then some (rngL a b) else none := rfl
theorem u_II (o : BOp) (a b : Int) : augI o (.int a) (.int b) = some (.int (augV o a b)) := rfl
theorem u_add (a b : Int) : augV .add a b = a + b := rfl
theorem u_sub (a b : Int) : augV .sub a b = a - b := rfl
theorem l_list (xs : List D) : lstOf S (.list xs) = some xs := rfl
theorem s_list (xs : List D) : seqOf S (.list xs) = some xs := rfl
theorem s_tup (xs : List D) : seqOf S (.tuple xs) = some xs := rfl
theorem i_list (xs : List D) : iterOf S (.list xs) = some ⟨xs, none⟩ := rfl
theorem i_tup (xs : List D) : iterOf S (.tuple xs) = some ⟨xs, none⟩ := rfl
end
theorem smallI_eq (i : Int) : smallI i = decide (-1000000000000 ≤ i ∧ i ≤ 1000000000000) := rfl
theorem scr_objN (xs : List D) (S : Store) : objN S (scr xs) = none := rfl
theorem scr_get (xs : List D) (S : Store) (i : Nat) (x : D) (h : xs[i]? = some x) : getD S (scr xs) (.int i) = some x := by
  have hlt := (List.getElem?_eq_some_iff.mp h).1
  have e : ixN xs.length (i : Int) = some i := by
    unfold ixN
    rw [if_pos (by omega), if_pos (by omega)]
    simp
  show (at_ xs (i : Int)) = some x
  unfold at_
  rw [e]
  exact h
theorem get_list (xs : List D) (S : Store) (i : Nat) (x : D) (h : xs[i]? = some x) : getD S (.list xs) (.int i) = some x := by
  have hlt := (List.getElem?_eq_some_iff.mp h).1
  have e : ixN xs.length (i : Int) = some i := by
    unfold ixN
    rw [if_pos (by omega), if_pos (by omega)]
    simp
  show (at_ xs (i : Int)) = some x
  unfold at_
  rw [e]
  exact h
theorem scr_len (xs : List D) (S : Store) : call1 S .len (scr xs) = some (.int xs.length) := rfl
section
variable {Φ : Fns}
theorem inner_loop {z0 z1 a4 a5 a7 : Option Sl} {mixed r : Int} {ds : List Int} {S : Store} {P : Fl → Store → Prop} {L : Nat} (hd : Draws ds) (hl : ds.length ≤ L) (hL : L ≤ 990000) (hr : 0 ≤ r)
    (fin : ∀ (ds' : List Int) (r' : Int) (b7 : Option Sl), Draws ds' → ds'.length ≤ L + 60 → P (.nx [z0, z1, some (.own (ds'.map .int)), some (.pure (.int mixed)), a4, a5, some (.pure (.int r')), b7]) S) :
    Does (forLoop none (fun x Γ S => exSs Φ [.ite (.cmp .gt (.var 6) (.lit (.int 0)))
       [.app (.bor 2) (.bin .mod (.c1 .int (.var 6)) (.lit (.int 997))),
        .asg (.nm 6) (.bin .fdiv (.var 6) (.lit (.int 997)))]
       []] (Γ.set 7 (some (.pure x))) S) (rngL 0 60) [z0, z1, some (.own (ds.map .int)), some (.pure (.int mixed)), a4, a5, some (.pure (.int r)), a7] S) P := by
  refine does_for (fun j Γ S' => ∃ (es : List Int) (r : Int) (b7 : Option Sl), Γ = [z0, z1, some (.own (es.map .int)), some (.pure (.int mixed)), a4, a5, some (.pure (.int r)), b7] ∧ S = S' ∧ Draws es ∧ es.length ≤ L + j ∧ 0 ≤ r) ⟨ds, r, a7, rfl, rfl, hd, by omega, hr⟩ ?_ ?_
  · rintro j x _ _ hx ⟨es, r, b7, rfl, rfl, hes, hle, hr⟩
    have hj : j < 60 := by
      have := (rngL_get hx).2
      omega
    by_cases h : 0 < r
    · have e1 : List.map PyData.int es ++ [PyData.int (r % 997)] = List.map PyData.int (es ++ [r % 997]) := by simp
      have hle3 : es.length + (0 + 1) ≤ 1000000 := by omega
      simp only [does_ok, does_no, does_noX, does_bind, does_some, does_none, does_ofS, does_ofSif, does_oif, does_omap, does_if, does_cons, does_nil, nxt_nx, nxt_ret, nxt_brk, nxt_ct, turn_nx, turn_ret, turn_brk, turn_ct, if_no, exS, evE, evEs, evO, evC, evI, asgL, asgLs, asgT, asgTs, setPar, truR, appD, ownB, twos, scr_len, o_addII, o_addIB, o_addTT, o_addLL, o_addSS, o_subII, o_mulII, o_divII, o_modII, o_powII, q_ltII, q_leII, q_gtII, q_geII, q_isN, q_notN, isNone_n, isNone_i, isNone_b, isNone_s, isNone_t, isNone_l, q_isB, q_notB, q_eq, q_ne, eqC_i, eqC_n, eqC_b, eqC_s, eqC_t, eqC_l, unref_i, unref_n, unref_b, unref_s, unref_t, unref_l, eq_II, eq_SS, eq_BB, eq_NN, eq_NI, eq_IN, t_none, t_bool, t_int, k_abs, k_intI, k_intB, k_lenL, k_lenT, k_tupL, k_tupT, k_lstL, k_lstT, k_max2, k_min2, r_2, u_II, u_add, u_sub, l_list, s_list, s_tup, i_list, i_tup, smallI_eq, List.getElem?_cons_zero, List.getElem?_cons_succ, List.set_cons_zero, List.set_cons_succ, Option.map_some, Option.map_none, Option.bind_some, Option.isSome_some, if_true, if_false, Bool.and_eq_true, Bool.not_true, Bool.not_false, Bool.false_eq_true, decide_true, decide_false, decide_eq_true_eq, true_and, and_true, false_and, and_false, List.length_cons, List.length_nil, List.length_map, List.map_cons, List.map_nil, List.all_cons, List.all_nil, h, hle3, e1]
      exact ⟨by decide, by decide, es ++ [r % 997], r / 997, _, rfl, hes.app (draw997 r), by rw [List.length_append, List.length_singleton]; omega, Int.ediv_nonneg hr (by decide)⟩
    · simp only [does_ok, does_no, does_noX, does_bind, does_some, does_none, does_ofS, does_ofSif, does_oif, does_omap, does_if, does_cons, does_nil, nxt_nx, nxt_ret, nxt_brk, nxt_ct, turn_nx, turn_ret, turn_brk, turn_ct, if_no, exS, evE, evEs, evO, evC, evI, asgL, asgLs, asgT, asgTs, setPar, truR, appD, ownB, twos, scr_len, o_addII, o_addIB, o_addTT, o_addLL, o_addSS, o_subII, o_mulII, o_divII, o_modII, o_powII, q_ltII, q_leII, q_gtII, q_geII, q_isN, q_notN, isNone_n, isNone_i, isNone_b, isNone_s, isNone_t, isNone_l, q_isB, q_notB, q_eq, q_ne, eqC_i, eqC_n, eqC_b, eqC_s, eqC_t, eqC_l, unref_i, unref_n, unref_b, unref_s, unref_t, unref_l, eq_II, eq_SS, eq_BB, eq_NN, eq_NI, eq_IN, t_none, t_bool, t_int, k_abs, k_intI, k_intB, k_lenL, k_lenT, k_tupL, k_tupT, k_lstL, k_lstT, k_max2, k_min2, r_2, u_II, u_add, u_sub, l_list, s_list, s_tup, i_list, i_tup, smallI_eq, List.getElem?_cons_zero, List.getElem?_cons_succ, List.set_cons_zero, List.set_cons_succ, Option.map_some, Option.map_none, Option.bind_some, Option.isSome_some, if_true, if_false, Bool.and_eq_true, Bool.not_true, Bool.not_false, Bool.false_eq_true, decide_true, decide_false, decide_eq_true_eq, true_and, and_true, false_and, and_false, List.length_cons, List.length_nil, List.length_map, List.map_cons, List.map_nil, List.all_cons, List.all_nil, h]
      exact ⟨es, r, _, rfl, hes, by omega, hr⟩
  · rintro _ _ ⟨es, r, b7, rfl, rfl, hes, hle, hr⟩
    have e60 : (rngL 0 60).length = 60 := rngL_length 60
    rw [e60] at hle
    exact fin es r b7 hes hle
theorem draws_run (ns : List Int) (many : Nat) (hn : ns.length ≤ 63) (hm : many ≤ 1000) (S : Store) : Does (runDef Φ 8 2 cDraws [scr (ns.map .int), .int many] S) (fun d S' => ∃ ds : List Int, d = .list (ds.map .int) ∧ S' = S ∧ Draws ds ∧ ds.length = many) := by
  have mx : ∀ z : Int, 0 ≤ z % 65537 ∧ z % 65537 < 65537 := fun z => ⟨Int.emod_nonneg _ (by decide), Int.emod_lt_of_pos _ (by decide)⟩
  unfold runDef cDraws
  simp only [does_ok, does_no, does_noX, does_bind, does_some, does_none, does_ofS, does_ofSif, does_oif, does_omap, does_if, does_cons, does_nil, nxt_nx, nxt_ret, nxt_brk, nxt_ct, turn_nx, turn_ret, turn_brk, turn_ct, if_no, exS, evE, evEs, evO, evC, evI, asgL, asgLs, asgT, asgTs, setPar, truR, appD, ownB, twos, scr_len, o_addII, o_addIB, o_addTT, o_addLL, o_addSS, o_subII, o_mulII, o_divII, o_modII, o_powII, q_ltII, q_leII, q_gtII, q_geII, q_isN, q_notN, isNone_n, isNone_i, isNone_b, isNone_s, isNone_t, isNone_l, q_isB, q_notB, q_eq, q_ne, eqC_i, eqC_n, eqC_b, eqC_s, eqC_t, eqC_l, unref_i, unref_n, unref_b, unref_s, unref_t, unref_l, eq_II, eq_SS, eq_BB, eq_NN, eq_NI, eq_IN, t_none, t_bool, t_int, k_abs, k_intI, k_intB, k_lenL, k_lenT, k_tupL, k_tupT, k_lstL, k_lstT, k_max2, k_min2, r_2, u_II, u_add, u_sub, l_list, s_list, s_tup, i_list, i_tup, smallI_eq, List.getElem?_cons_zero, List.getElem?_cons_succ, List.set_cons_zero, List.set_cons_succ, Option.map_some, Option.map_none, Option.bind_some, Option.isSome_some, if_true, if_false, Bool.and_eq_true, Bool.not_true, Bool.not_false, Bool.false_eq_true, decide_true, decide_false, decide_eq_true_eq, true_and, and_true, false_and, and_false, List.length_cons, List.length_nil, List.length_map, List.map_cons, List.map_nil, List.all_cons, List.all_nil, scr_len, List.cons_append, List.nil_append, List.replicate]
  refine ⟨by omega, ?_⟩
  refine does_for (fun i Γ S' => ∃ (ds : List Int) (mixed : Int) (a4 a5 a6 a7 : Option Sl), Γ = [some (.pure (scr (ns.map .int))), some (.pure (.int many)), some (.own (ds.map .int)), some (.pure (.int mixed)), a4, a5, a6, a7] ∧ S = S' ∧ Draws ds ∧ ds.length ≤ 62 * i ∧ 0 ≤ mixed ∧ mixed < 65537)
    ⟨[], 7, _, _, _, _, rfl, rfl, (fun _ h => nomatch h), Nat.zero_le _, by decide, by decide⟩ ?_ ?_
  · rintro i x _ _ hx ⟨ds, mixed, a4, a5, a6, a7, rfl, rfl, hd, hl, m0, m1⟩
    obtain ⟨rfl, hi⟩ := rngL_get hx
    have hi' : i < ns.length := by omega
    have hget : getD S (scr (ns.map PyData.int)) (.int i) = some (.int ns[i]) := scr_get _ S i _ (by rw [List.getElem?_map, List.getElem?_eq_getElem hi']; rfl)
    simp only [does_ok, does_no, does_noX, does_bind, does_some, does_none, does_ofS, does_ofSif, does_oif, does_omap, does_if, does_cons, does_nil, nxt_nx, nxt_ret, nxt_brk, nxt_ct, turn_nx, turn_ret, turn_brk, turn_ct, if_no, exS, evE, evEs, evO, evC, evI, asgL, asgLs, asgT, asgTs, setPar, truR, appD, ownB, twos, scr_len, o_addII, o_addIB, o_addTT, o_addLL, o_addSS, o_subII, o_mulII, o_divII, o_modII, o_powII, q_ltII, q_leII, q_gtII, q_geII, q_isN, q_notN, isNone_n, isNone_i, isNone_b, isNone_s, isNone_t, isNone_l, q_isB, q_notB, q_eq, q_ne, eqC_i, eqC_n, eqC_b, eqC_s, eqC_t, eqC_l, unref_i, unref_n, unref_b, unref_s, unref_t, unref_l, eq_II, eq_SS, eq_BB, eq_NN, eq_NI, eq_IN, t_none, t_bool, t_int, k_abs, k_intI, k_intB, k_lenL, k_lenT, k_tupL, k_tupT, k_lstL, k_lstT, k_max2, k_min2, r_2, u_II, u_add, u_sub, l_list, s_list, s_tup, i_list, i_tup, smallI_eq, List.getElem?_cons_zero, List.getElem?_cons_succ, List.set_cons_zero, List.set_cons_succ, Option.map_some, Option.map_none, Option.bind_some, Option.isSome_some, if_true, if_false, Bool.and_eq_true, Bool.not_true, Bool.not_false, Bool.false_eq_true, decide_true, decide_false, decide_eq_true_eq, true_and, and_true, false_and, and_false, List.length_cons, List.length_nil, List.length_map, List.map_cons, List.map_nil, List.all_cons, List.all_nil, hget]
    have n0 : 0 ≤ (if ns[i] < 0 then -ns[i] else ns[i]) := by split <;> omega
    generalize (if ns[i] < 0 then -ns[i] else ns[i]) = n at n0
    have mz := mx (mixed * 48271 + n % 1000003 + (i : Int))
    generalize (mixed * 48271 + n % 1000003 + (i : Int)) % 65537 = mm at mz
    refine ⟨by omega, by decide, by decide, by decide, ?_⟩
    split
    · refine ⟨by decide, inner_loop (L := 62 * i + 2) hd (by omega) (by omega) n0 fun ds' r' b7 h1 h2 => ?_⟩
      exact ⟨ds', mm, _, _, _, _, rfl, rfl, h1, by omega, mz.1, mz.2⟩
    · have e1 : List.map PyData.int ds ++ [PyData.int (n % 997)] = List.map PyData.int (ds ++ [n % 997]) := by simp
      have e2 : ∀ z : Int, List.map PyData.int (ds ++ [n % 997]) ++ [PyData.int z] = List.map PyData.int (ds ++ [n % 997] ++ [z]) := fun z => by simp
      rw [e1, e2]
      refine ⟨by decide, by omega, by omega, by decide, by decide, by simp; omega, by decide, inner_loop (L := 62 * i + 2) ((hd.app (draw997 _)).app (draw997 _)) (by simp; omega) (by omega) (by decide) fun ds' r' b7 h1 h2 => ?_⟩
      exact ⟨ds', mm, _, _, _, _, rfl, rfl, h1, by omega, mz.1, mz.2⟩
  · rintro _ _ ⟨ds, mixed, a4, a5, a6, a7, rfl, rfl, hd, hl, m0, m1⟩
    have el : (rngL 0 (ns.length : Int)).length = ns.length := rngL_length _
    rw [el] at hl
    simp only [does_ok, does_no, does_noX, does_bind, does_some, does_none, does_ofS, does_ofSif, does_oif, does_omap, does_if, does_cons, does_nil, nxt_nx, nxt_ret, nxt_brk, nxt_ct, turn_nx, turn_ret, turn_brk, turn_ct, if_no, exS, evE, evEs, evO, evC, evI, asgL, asgLs, asgT, asgTs, setPar, truR, appD, ownB, twos, scr_len, o_addII, o_addIB, o_addTT, o_addLL, o_addSS, o_subII, o_mulII, o_divII, o_modII, o_powII, q_ltII, q_leII, q_gtII, q_geII, q_isN, q_notN, isNone_n, isNone_i, isNone_b, isNone_s, isNone_t, isNone_l, q_isB, q_notB, q_eq, q_ne, eqC_i, eqC_n, eqC_b, eqC_s, eqC_t, eqC_l, unref_i, unref_n, unref_b, unref_s, unref_t, unref_l, eq_II, eq_SS, eq_BB, eq_NN, eq_NI, eq_IN, t_none, t_bool, t_int, k_abs, k_intI, k_intB, k_lenL, k_lenT, k_tupL, k_tupT, k_lstL, k_lstT, k_max2, k_min2, r_2, u_II, u_add, u_sub, l_list, s_list, s_tup, i_list, i_tup, smallI_eq, List.getElem?_cons_zero, List.getElem?_cons_succ, List.set_cons_zero, List.set_cons_succ, Option.map_some, Option.map_none, Option.bind_some, Option.isSome_some, if_true, if_false, Bool.and_eq_true, Bool.not_true, Bool.not_false, Bool.false_eq_true, decide_true, decide_false, decide_eq_true_eq, true_and, and_true, false_and, and_false, List.length_cons, List.length_nil, List.length_map, List.map_cons, List.map_nil, List.all_cons, List.all_nil]
    refine ⟨by omega, ?_⟩
    refine does_for (fun i Γ S' => ∃ (ds : List Int) (mixed : Int) (b4 : Option Sl), Γ = [some (.pure (scr (ns.map .int))), some (.pure (.int many)), some (.own (ds.map .int)), some (.pure (.int mixed)), b4, a5, a6, a7] ∧ S = S' ∧ Draws ds ∧ ds.length ≤ 62 * 63 + i ∧ i ≤ ds.length ∧ 0 ≤ mixed ∧ mixed < 65537)
      ⟨ds, mixed, a4, rfl, rfl, hd, by omega, Nat.zero_le _, m0, m1⟩ ?_ ?_
    · rintro i x _ _ hx ⟨ds, mixed, b4, rfl, rfl, hd, hl, hi, m0, m1⟩
      obtain ⟨rfl, hi2⟩ := rngL_get hx
      have e1 : ∀ z : Int, List.map PyData.int ds ++ [PyData.int z] = List.map PyData.int (ds ++ [z]) := fun z => by simp
      simp only [does_ok, does_no, does_noX, does_bind, does_some, does_none, does_ofS, does_ofSif, does_oif, does_omap, does_if, does_cons, does_nil, nxt_nx, nxt_ret, nxt_brk, nxt_ct, turn_nx, turn_ret, turn_brk, turn_ct, if_no, exS, evE, evEs, evO, evC, evI, asgL, asgLs, asgT, asgTs, setPar, truR, appD, ownB, twos, scr_len, o_addII, o_addIB, o_addTT, o_addLL, o_addSS, o_subII, o_mulII, o_divII, o_modII, o_powII, q_ltII, q_leII, q_gtII, q_geII, q_isN, q_notN, isNone_n, isNone_i, isNone_b, isNone_s, isNone_t, isNone_l, q_isB, q_notB, q_eq, q_ne, eqC_i, eqC_n, eqC_b, eqC_s, eqC_t, eqC_l, unref_i, unref_n, unref_b, unref_s, unref_t, unref_l, eq_II, eq_SS, eq_BB, eq_NN, eq_NI, eq_IN, t_none, t_bool, t_int, k_abs, k_intI, k_intB, k_lenL, k_lenT, k_tupL, k_tupT, k_lstL, k_lstT, k_max2, k_min2, r_2, u_II, u_add, u_sub, l_list, s_list, s_tup, i_list, i_tup, smallI_eq, List.getElem?_cons_zero, List.getElem?_cons_succ, List.set_cons_zero, List.set_cons_succ, Option.map_some, Option.map_none, Option.bind_some, Option.isSome_some, if_true, if_false, Bool.and_eq_true, Bool.not_true, Bool.not_false, Bool.false_eq_true, decide_true, decide_false, decide_eq_true_eq, true_and, and_true, false_and, and_false, List.length_cons, List.length_nil, List.length_map, List.map_cons, List.map_nil, List.all_cons, List.all_nil, e1]
      have mz := mx (mixed * 16807 + (i : Int) + 1)
      exact ⟨by omega, by decide, by decide, by omega, _, _, _, rfl, hd.app (draw997 _), by simp; omega, by simp; omega, mz.1, mz.2⟩
    · rintro _ _ ⟨ds, mixed, b4, rfl, rfl, hd, hl, hi, m0, m1⟩
      have el : (rngL 0 (many : Int)).length = many := rngL_length _
      rw [el] at hi
      have hcut : cutD S (.list (ds.map .int)) none (some (many : Int)) = some (.list ((ds.take many).map .int)) := by
        have hlm : many ≤ ds.length := hi
        show some (PyData.list (cutL _ _ _)) = _
        have e1 : cutIx (ds.map PyData.int).length (ds.map PyData.int).length (some (many : Int)) = many := by
          unfold cutIx
          dsimp only
          rw [List.length_map]
          split <;> omega
        have e0 : cutIx (ds.map PyData.int).length 0 none = 0 := rfl
        unfold cutL
        rw [e1, e0]
        simp
      simp only [does_ok, does_no, does_noX, does_bind, does_some, does_none, does_ofS, does_ofSif, does_oif, does_omap, does_if, does_cons, does_nil, nxt_nx, nxt_ret, nxt_brk, nxt_ct, turn_nx, turn_ret, turn_brk, turn_ct, if_no, exS, evE, evEs, evO, evC, evI, asgL, asgLs, asgT, asgTs, setPar, truR, appD, ownB, twos, scr_len, o_addII, o_addIB, o_addTT, o_addLL, o_addSS, o_subII, o_mulII, o_divII, o_modII, o_powII, q_ltII, q_leII, q_gtII, q_geII, q_isN, q_notN, isNone_n, isNone_i, isNone_b, isNone_s, isNone_t, isNone_l, q_isB, q_notB, q_eq, q_ne, eqC_i, eqC_n, eqC_b, eqC_s, eqC_t, eqC_l, unref_i, unref_n, unref_b, unref_s, unref_t, unref_l, eq_II, eq_SS, eq_BB, eq_NN, eq_NI, eq_IN, t_none, t_bool, t_int, k_abs, k_intI, k_intB, k_lenL, k_lenT, k_tupL, k_tupT, k_lstL, k_lstT, k_max2, k_min2, r_2, u_II, u_add, u_sub, l_list, s_list, s_tup, i_list, i_tup, smallI_eq, List.getElem?_cons_zero, List.getElem?_cons_succ, List.set_cons_zero, List.set_cons_succ, Option.map_some, Option.map_none, Option.bind_some, Option.isSome_some, if_true, if_false, Bool.and_eq_true, Bool.not_true, Bool.not_false, Bool.false_eq_true, decide_true, decide_false, decide_eq_true_eq, true_and, and_true, false_and, and_false, List.length_cons, List.length_nil, List.length_map, List.map_cons, List.map_nil, List.all_cons, List.all_nil, hcut]
      exact ⟨ds.take many, rfl, fun n h => hd n (List.mem_of_mem_take h), by rw [List.length_take]; omega⟩
theorem eqv_str (a b : Str) : PyData.eqv (.str a) (.str b) = (a == b) := by simp [PyData.eqv]
theorem dfind_nil (k : D) : dfind [] k = none := rfl
theorem dfind_cons (a : Str) (v : D) (r : List (D × D)) (b : Str) : dfind ((.str a, v) :: r) (.str b) = if a == b then some v else dfind r (.str b) := by
  unfold dfind
  rw [List.find?_cons, eqv_str]
  cases a == b <;> rfl
def strKeys (m : List (D × D)) : Bool := m.all fun p => match p.1 with
  | .str _ => true
  | _ => false
theorem ok_str {m : List (D × D)} (h : strKeys m = true) (k : Str) : okKey m (.str k) = true := by
  unfold okKey
  rw [Bool.and_eq_true]
  refine ⟨rfl, List.all_eq_true.mpr fun p hp => ?_⟩
  have := List.all_eq_true.mp h p hp
  split at this
  · rename_i a e
    rw [e]; rfl
  · cases this
theorem dic_at {S : Store} {n : Nat} {m : List (D × D)} (h : S[n]? = some (.dic m)) : dicOf S (ref n) = some m := by
  unfold dicOf
  rw [objN_ref, h]; rfl
theorem get_str {S : Store} {n : Nat} {m : List (D × D)} (h : S[n]? = some (.dic m)) (hk : strKeys m = true) (k : Str) : getD S (ref n) (.str k) = dfind m (.str k) := by
  unfold getD
  rw [dic_at h]
  dsimp only
  rw [if_pos (ok_str hk k)]
theorem put_str {S : Store} {n : Nat} {m : List (D × D)} (h : S[n]? = some (.dic m)) (hk : strKeys m = true) (hl : m.length < 1000000) (k : Str) (v : D) : putD S (ref n) (.str k) v = some (S.set n (.dic (dput m (.str k) v))) := by
  unfold putD
  rw [objN_ref, h]
  exact if_pos ⟨ok_str hk k, hl⟩
def cNext : List CS :=
  [.augS (.var 0) (.lit (.str "at")) .add (.lit (.int 1)),
  .ite (.cmp .gt (.sub (.var 0) (.lit (.str "at"))) (.c1 .len (.sub (.var 0) (.lit (.str "draws")))))
   [.ret (.lit (.int 0))]
   [],
  .ret (.bin .mod (.c1 .int (.sub (.sub (.var 0) (.lit (.str "draws"))) (.bin .sub (.sub (.var 0) (.lit (.str "at"))) (.lit (.int 1))))) (.var 1))]
def wDic (ds : List Int) (i : Int) : SO := .dic [(.str "draws", .list (ds.map .int)), (.str "at", .int i)]
def WOk (S : Store) (n : Nat) : Prop := ∃ (ds : List Int) (i : Int), S[n]? = some (wDic ds i) ∧ Draws ds ∧ 0 ≤ i
theorem wdic_put (ds : List Int) (i j : Int) : dput [(PyData.str "draws", PyData.list (ds.map .int)), (.str "at", .int i)] (.str "at") (.int j) = [(.str "draws", .list (ds.map .int)), (.str "at", .int j)] := by
  have h1 : PyData.eqv (.str "draws") (.str "at") = false := by decide
  have h2 : PyData.eqv (.str "at") (.str "at") = true := by decide
  simp [dput, h1, h2]
theorem next_run {S : Store} {n : Nat} {many : Int} (h : WOk S n) (hm : 0 < many) : Does (runDef Φ 2 2 cNext [ref n, .int many] S) (fun d S' => ∃ v, d = .int v ∧ 0 ≤ v ∧ v < many ∧ ∃ o, S' = S.set n o ∧ WOk (S.set n o) n) := by
  obtain ⟨ds, i, hn, hd, hi⟩ := h
  have hlt : n < S.length := (List.getElem?_eq_some_iff.mp hn).1
  have k1 : ((("draws" : Str) == "at") : Bool) = false := by decide
  have k2 : ((("at" : Str) == "at") : Bool) = true := by decide
  have k3 : ((("draws" : Str) == "draws") : Bool) = true := by decide
  have hs : ∀ j : Int, strKeys [(PyData.str "draws", PyData.list (ds.map .int)), (.str "at", .int j)] = true := fun j => rfl
  have g1 := get_str hn (hs i)
  have gd := dic_at hn
  have p1 := put_str hn (hs i) (show 2 < 1000000 by decide)
  have hn2 : (S.set n (wDic ds (i + 1)))[n]? = some (wDic ds (i + 1)) := List.getElem?_set_self hlt
  have g2 := get_str hn2 (hs (i + 1))
  have w2 : WOk (S.set n (wDic ds (i + 1))) n := ⟨ds, i + 1, hn2, hd, by omega⟩
  have ep : SO.dic [(PyData.str "draws", PyData.list (ds.map .int)), (.str "at", .int (i + 1))] = wDic ds (i + 1) := rfl
  unfold runDef cNext
  simp only [does_ok, does_no, does_noX, does_bind, does_some, does_none, does_ofS, does_ofSif, does_oif, does_omap, does_if, does_cons, does_nil, nxt_nx, nxt_ret, nxt_brk, nxt_ct, turn_nx, turn_ret, turn_brk, turn_ct, if_no, exS, evE, evEs, evO, evC, evI, asgL, asgLs, asgT, asgTs, setPar, truR, appD, ownB, twos, scr_len, o_addII, o_addIB, o_addTT, o_addLL, o_addSS, o_subII, o_mulII, o_divII, o_modII, o_powII, q_ltII, q_leII, q_gtII, q_geII, q_isN, q_notN, isNone_n, isNone_i, isNone_b, isNone_s, isNone_t, isNone_l, q_isB, q_notB, q_eq, q_ne, eqC_i, eqC_n, eqC_b, eqC_s, eqC_t, eqC_l, unref_i, unref_n, unref_b, unref_s, unref_t, unref_l, eq_II, eq_SS, eq_BB, eq_NN, eq_NI, eq_IN, t_none, t_bool, t_int, k_abs, k_intI, k_intB, k_lenL, k_lenT, k_tupL, k_tupT, k_lstL, k_lstT, k_max2, k_min2, r_2, u_II, u_add, u_sub, l_list, s_list, s_tup, i_list, i_tup, smallI_eq, List.getElem?_cons_zero, List.getElem?_cons_succ, List.set_cons_zero, List.set_cons_succ, Option.map_some, Option.map_none, Option.bind_some, Option.isSome_some, if_true, if_false, Bool.and_eq_true, Bool.not_true, Bool.not_false, Bool.false_eq_true, decide_true, decide_false, decide_eq_true_eq, true_and, and_true, false_and, and_false, List.length_cons, List.length_nil, List.length_map, List.map_cons, List.map_nil, List.all_cons, List.all_nil, List.cons_append, List.nil_append, List.replicate, gd, g1, p1, dfind_cons, k1, k2, k3, wdic_put, ep, g2]
  split
  · exact ⟨0, rfl, by decide, hm, _, rfl, w2⟩
  · rename_i hc
    have hi' : i.toNat < ds.length := by omega
    have e : i + 1 - 1 = ((i.toNat : Nat) : Int) := by omega
    have hg : ∀ S' : Store, getD S' (PyData.list (ds.map PyData.int)) (.int (i + 1 - 1)) = some (.int ds[i.toNat]) := fun S' => by
      rw [e]
      exact get_list _ S' _ _ (by rw [List.getElem?_map, List.getElem?_eq_getElem hi']; rfl)
    have hb := hd _ (List.getElem_mem hi')
    simp only [does_ok, does_no, does_noX, does_bind, does_some, does_none, does_ofS, does_ofSif, does_oif, does_omap, does_if, does_cons, does_nil, nxt_nx, nxt_ret, nxt_brk, nxt_ct, turn_nx, turn_ret, turn_brk, turn_ct, if_no, exS, evE, evEs, evO, evC, evI, asgL, asgLs, asgT, asgTs, setPar, truR, appD, ownB, twos, scr_len, o_addII, o_addIB, o_addTT, o_addLL, o_addSS, o_subII, o_mulII, o_divII, o_modII, o_powII, q_ltII, q_leII, q_gtII, q_geII, q_isN, q_notN, isNone_n, isNone_i, isNone_b, isNone_s, isNone_t, isNone_l, q_isB, q_notB, q_eq, q_ne, eqC_i, eqC_n, eqC_b, eqC_s, eqC_t, eqC_l, unref_i, unref_n, unref_b, unref_s, unref_t, unref_l, eq_II, eq_SS, eq_BB, eq_NN, eq_NI, eq_IN, t_none, t_bool, t_int, k_abs, k_intI, k_intB, k_lenL, k_lenT, k_tupL, k_tupT, k_lstL, k_lstT, k_max2, k_min2, r_2, u_II, u_add, u_sub, l_list, s_list, s_tup, i_list, i_tup, smallI_eq, List.getElem?_cons_zero, List.getElem?_cons_succ, List.set_cons_zero, List.set_cons_succ, Option.map_some, Option.map_none, Option.bind_some, Option.isSome_some, if_true, if_false, Bool.and_eq_true, Bool.not_true, Bool.not_false, Bool.false_eq_true, decide_true, decide_false, decide_eq_true_eq, true_and, and_true, false_and, and_false, List.length_cons, List.length_nil, List.length_map, List.map_cons, List.map_nil, List.all_cons, List.all_nil, hg, hm]
    exact ⟨_, rfl, Int.emod_nonneg _ (by omega), Int.emod_lt_of_pos _ hm, _, rfl, w2⟩
end
end PL
set_option autoImplicit false
set_option linter.all false
set_option maxRecDepth 100000
set_option maxHeartbeats 4000000
set_option Elab.async false
namespace PL
open PySem
theorem ofString_inj {a b : String} : Str.ofString a = Str.ofString b ↔ a = b := by
  constructor
  · intro h
    have h1 : cpsOfBytes 0 0 a.toByteArray.data.toList = cpsOfBytes 0 0 b.toByteArray.data.toList := by
      have := congrArg (fun s => s.cps.toList) h
      simpa [Str.ofString] using this
    rw [cpsOfBytes_string, cpsOfBytes_string] at h1
    have h2 : a.toList = b.toList := by
      have inj : ∀ (l m : List Char), l.map Char.toNat = m.map Char.toNat → l = m := by
        intro l
        induction l with
        | nil => intro m h; cases m with
          | nil => rfl
          | cons _ _ => simp at h
        | cons c l ih => intro m h; cases m with
          | nil => simp at h
          | cons d m =>
            simp only [List.map_cons, List.cons.injEq] at h
            rw [ih m h.2]
            have : c = d := Char.ext (UInt32.toNat_inj.mp h.1)
            rw [this]
      exact inj _ _ h1
    exact String.ext h2
  · intro h; rw [h]
theorem str_beq (a b : String) : ((Str.ofString a == Str.ofString b) : Bool) = decide (a = b) := by
  by_cases h : a = b
  · subst h; simp
  · have : Str.ofString a ≠ Str.ofString b := fun e => h (ofString_inj.mp e)
    simp [h, this]
structure Rg (k n : Nat) (d : D) : Prop where
  lay : d.canLay0 = true
  dep : d.depth ≤ k
  sho : d.showable = true
  shr : d.intsShort 13 = true
  wei : d.weight ≤ n
theorem Rg.mono {k n k' n' : Nat} {d : D} (h : Rg k n d) (hk : k ≤ k') (hn : n ≤ n') : Rg k' n' d := ⟨h.lay, Nat.le_trans h.dep hk, h.sho, h.shr, Nat.le_trans h.wei hn⟩
theorem Rg.int {i : Int} (h : i.natAbs < 10 ^ 12) : Rg 0 40 (.int i) := by
  have hw : PyData.weight (.int i) ≤ 40 := by
    simp only [PyData.weight]
    split
    · decide
    · rename_i h0
      have h1 : i.natAbs ≠ 0 := by
        intro e
        apply h0
        simp [Int.natAbs_eq_zero.mp e]
      have : i.natAbs.log2 < 40 := (Nat.log2_lt h1).mpr (Nat.lt_trans h (by decide))
      omega
  refine ⟨rfl, Nat.le_refl _, ?_, ?_, hw⟩
  · simp only [PyData.showable, decide_eq_true_eq]
    by_cases h1 : i.natAbs = 0
    · rw [h1]; decide
    · exact (Nat.log2_lt h1).mpr (Nat.lt_trans h (by decide +kernel))
  · simp only [PyData.intsShort, decide_eq_true_eq]
    exact PyData.shown_int_le h
theorem Rg.non : Rg 0 0 .none := ⟨rfl, Nat.le_refl _, rfl, rfl, Nat.le_refl _⟩
theorem Rg.bool (b : Bool) : Rg 0 0 (.bool b) := ⟨rfl, Nat.le_refl _, rfl, rfl, Nat.le_refl _⟩
theorem Rg.str {s : Str} (h : PyData.strOk s = true) : Rg 0 s.length (.str s) := ⟨h, Nat.le_refl _, rfl, rfl, Nat.le_refl _⟩
theorem Rg.all {k n : Nat} : ∀ {xs : List D}, (∀ x ∈ xs, Rg k n x) → PyData.canLayAll0 xs = true ∧ PyData.depthAll xs ≤ k ∧ PyData.showableAll xs = true ∧ PyData.intsShortAll 13 xs = true ∧ PyData.weightAll xs ≤ (n + 1) * xs.length
  | [], _ => ⟨rfl, Nat.zero_le _, rfl, rfl, Nat.zero_le _⟩
  | x :: xs, h => by
    obtain ⟨a, b, c, d, e⟩ := Rg.all (xs := xs) fun y hy => h y (List.mem_cons_of_mem _ hy)
    have q := h x List.mem_cons_self
    refine ⟨by rw [PyData.canLayAll0, q.lay, a]; rfl, by rw [PyData.depthAll]; exact Nat.max_le.mpr ⟨q.dep, b⟩, by rw [PyData.showableAll, q.sho, c]; rfl, by rw [PyData.intsShortAll, q.shr, d]; rfl, ?_⟩
    rw [PyData.weightAll, List.length_cons, Nat.mul_add]
    have := q.wei
    omega
theorem Rg.tuple {k n m : Nat} {xs : List D} (h : ∀ x ∈ xs, Rg k n x) (hl : xs.length ≤ m) : Rg (k + 1) ((n + 1) * m) (.tuple xs) := by
  obtain ⟨a, b, c, d, e⟩ := Rg.all h
  exact ⟨by rw [PyData.canLay0]; exact a, by rw [PyData.depth]; omega, by rw [PyData.showable]; exact c, by rw [PyData.intsShort]; exact d, by rw [PyData.weight]; exact Nat.le_trans e (Nat.mul_le_mul_left _ hl)⟩
theorem Rg.list {k n m : Nat} {xs : List D} (h : ∀ x ∈ xs, Rg k n x) (hl : xs.length ≤ m) : Rg (k + 1) ((n + 1) * m) (.list xs) := by
  obtain ⟨a, b, c, d, e⟩ := Rg.all h
  exact ⟨by rw [PyData.canLay0]; exact a, by rw [PyData.depth]; omega, by rw [PyData.showable]; exact c, by rw [PyData.intsShort]; exact d, by rw [PyData.weight]; exact Nat.le_trans e (Nat.mul_le_mul_left _ hl)⟩
mutual
theorem eqv_refl : ∀ d : D, d.canLay0 = true → PyData.eqv d d = true
  | .none, _ => rfl
  | .bool b, _ => by simp [PyData.eqv]
  | .int i, _ => by simp [PyData.eqv]
  | .str s, _ => by simp [PyData.eqv]
  | .list xs, h => by rw [PyData.eqv]; exact eqvAll_refl xs (by simpa only [PyData.canLay0] using h)
  | .tuple xs, h => by rw [PyData.eqv]; exact eqvAll_refl xs (by simpa only [PyData.canLay0] using h)
  | .dict _, h => by simp only [PyData.canLay0] at h; exact nomatch h
theorem eqvAll_refl : ∀ xs : List D, PyData.canLayAll0 xs = true → PyData.eqvAll xs xs = true
  | [], _ => rfl
  | x :: xs, h => by
    have h' : x.canLay0 = true ∧ PyData.canLayAll0 xs = true := by simpa only [PyData.canLayAll0, Bool.and_eq_true] using h
    rw [PyData.eqvAll, eqv_refl x h'.1, eqvAll_refl xs h'.2]; rfl
end
theorem Rg.shaped {k n : Nat} {d : D} (h : Rg k n d) (hk : k ≤ 64) : SeqAt.shaped d = true := by
  unfold SeqAt.shaped
  rw [h.lay]
  have := h.dep
  simp only [Bool.true_and, decide_eq_true_eq]
  omega
theorem Rg.eq {k n : Nat} {d : D} (h : Rg k n d) (hk : k ≤ 64) : eqD d d = some true := by
  unfold eqD
  rw [h.shaped hk, eqv_refl d h.lay]; rfl
theorem Rg.repr {k n : Nat} {d : D} {S : Store} (h : Rg k n d) (hk : k ≤ 64) (hn : n ≤ 60000) : call1 S .repr d = some (.str d.shown) := by
  have hl : d.shown.length ≤ 1000000 := by
    have := PyData.shown_le 13 (by decide) d (PyData.leavesShort_of_canLay0 13 d h.lay h.shr)
    have := h.wei
    omega
  have e : (SeqAt.shaped d && d.showable && decide (d.shown.length ≤ 1000000)) = true := by
    rw [h.shaped hk, h.sho]
    simpa using hl
  have e2 : call1 S .repr d = if SeqAt.shaped d && d.showable && decide (d.shown.length ≤ 1000000) then some (.str d.shown) else none := by
    cases d <;> rfl
  rw [e2, if_pos e]
def cSame : List CS := [.ret (.and (.cmp .eq (.var 0) (.var 1)) (.cmp .eq (.c1 .repr (.var 0)) (.c1 .repr (.var 1))))]
theorem same_run {Φ : Fns} {k n : Nat} {d : D} {S : Store} {P : D → Store → Prop} (h : Rg k n d) (hk : k ≤ 64) (hn : n ≤ 60000) (fin : P (.bool true) S) : Does (runDef Φ 2 2 cSame [d, d] S) P := by
  unfold runDef cSame
  simp only [does_ok, does_no, does_noX, does_bind, does_some, does_none, does_ofS, does_ofSif, does_oif, does_omap, does_if, does_cons, does_nil, nxt_nx, nxt_ret, nxt_brk, nxt_ct, turn_nx, turn_ret, turn_brk, turn_ct, if_no, exS, evE, evEs, evO, evC, evI, asgL, asgLs, asgT, asgTs, setPar, truR, appD, ownB, twos, scr_len, o_addII, o_addIB, o_addTT, o_addLL, o_addSS, o_subII, o_mulII, o_divII, o_modII, o_powII, q_ltII, q_leII, q_gtII, q_geII, q_isN, q_notN, isNone_n, isNone_i, isNone_b, isNone_s, isNone_t, isNone_l, q_isB, q_notB, q_eq, q_ne, eqC_i, eqC_n, eqC_b, eqC_s, eqC_t, eqC_l, unref_i, unref_n, unref_b, unref_s, unref_t, unref_l, eq_II, eq_SS, eq_BB, eq_NN, eq_NI, eq_IN, t_none, t_bool, t_int, k_abs, k_intI, k_intB, k_lenL, k_lenT, k_tupL, k_tupT, k_lstL, k_lstT, k_max2, k_min2, r_2, u_II, u_add, u_sub, l_list, s_list, s_tup, i_list, i_tup, smallI_eq, List.getElem?_cons_zero, List.getElem?_cons_succ, List.set_cons_zero, List.set_cons_succ, Option.map_some, Option.map_none, Option.bind_some, Option.isSome_some, if_true, if_false, Bool.and_eq_true, Bool.not_true, Bool.not_false, Bool.false_eq_true, decide_true, decide_false, decide_eq_true_eq, true_and, and_true, false_and, and_false, List.length_cons, List.length_nil, List.length_map, List.map_cons, List.map_nil, List.all_cons, List.all_nil, eqC_lay h.lay h.lay, h.eq hk, h.repr hk hn, List.cons_append, List.nil_append, List.replicate, eq_SS]
  exact fin
theorem dicOf_ref (S : Store) (n : Nat) : dicOf S (ref n) = (match S[n]? with
    | some (.dic m) => some m
    | _ => none) := by
  unfold dicOf
  rw [objN_ref]
  cases h : S[n]? with
  | none => rfl
  | some o => cases o <;> rfl
theorem ref_cases (n : Nat) : ∃ kvs, ref n = .dict kvs ∧ refN (.dict kvs) = some n := ⟨_, rfl, refN_ref n⟩
theorem seqOf_dict {S : Store} {n : Nat} {kvs : List (D × D)} (h : refN (.dict kvs) = some n) : seqOf S (.dict kvs) = (match S[n]? with
    | some (.lst xs) => some xs
    | _ => none) := by
  have e : seqOf S (.dict kvs) = lstOf S (.dict kvs) := by
    unfold seqOf
    split
    · rename_i e; cases e
    · rename_i e; cases e; exact nomatch h
    · rfl
  rw [e]
  show (match objN S (.dict kvs) with
    | some (_, .lst xs) => some xs
    | _ => none) = _
  unfold objN
  rw [h]
  show (match (S[n]?).map fun o => (n, o) with
    | some (_, .lst xs) => some xs
    | _ => none) = _
  cases S[n]? with
  | none => rfl
  | some o => cases o <;> rfl
theorem seqOf_ref (S : Store) (n : Nat) : seqOf S (ref n) = (match S[n]? with
    | some (.lst xs) => some xs
    | _ => none) := seqOf_dict (refN_ref n)
theorem unref_ref (S : Store) (n : Nat) : unref S (ref n) = (match S[n]? with
    | some (.lst xs) => .list xs
    | _ => ref n) := by
  unfold unref
  rw [objN_ref]
  cases S[n]? with
  | none => rfl
  | some o => cases o <;> rfl
theorem eqC_refL (S : Store) (n : Nat) (ys : List D) : eqC S (ref n) (.list ys) = eqD (unref S (ref n)) (.list ys) := by
  unfold eqC
  rw [dicOf_ref]
  cases S[n]? with
  | none => rfl
  | some o => cases o <;> rfl
theorem lstOf_ref (S : Store) (n : Nat) : lstOf S (ref n) = (match S[n]? with
    | some (.lst xs) => some xs
    | _ => none) := by
  show (match objN S (ref n) with
    | some (_, .lst xs) => some xs
    | _ => none) = _
  rw [objN_ref]
  cases S[n]? with
  | none => rfl
  | some o => cases o <;> rfl
theorem iterOf_ref (S : Store) (n : Nat) : iterOf S (ref n) = (match S[n]? with
    | some (.lst xs) => some ⟨xs, some (n, .lst xs)⟩
    | some (.loc m) => if m.all (fun p => keyT p.1 == false) then some ⟨m.map (·.1), some (n, .loc m)⟩ else none
    | _ => none) := by
  have h := refN_ref n
  unfold ref at *
  unfold iterOf
  split
  · rename_i e; cases e
  · rename_i e; cases e
  · rename_i e; cases e
  · rename_i e; rw [e] at h; exact nomatch h
  · have e := objN_ref S n
    unfold ref at e
    rw [e]
    cases S[n]? with
    | none => rfl
    | some o => cases o <;> rfl
theorem locOf_ref (S : Store) (n : Nat) : locOf S (ref n) = (match S[n]? with
    | some (.loc m) => some m
    | _ => none) := by
  unfold locOf
  rw [objN_ref]
  cases h : S[n]? with
  | none => rfl
  | some o => cases o <;> rfl
theorem getD_ref (S : Store) (n : Nat) (i : D) : getD S (ref n) i = (match S[n]? with
    | some (.dic m) => if okKey m i then dfind m i else none
    | some (.loc m) => if okKey m i then dfind m i else none
    | some (.lst xs) => (match i with
      | .int i => at_ xs i
      | _ => none)
    | _ => none) := by
  unfold getD
  rw [dicOf_ref, locOf_ref]
  cases h : S[n]? with
  | none =>
    cases i with
    | int i => show (seqOf S (ref n)).bind _ = _; rw [seqOf_ref, h]; rfl
    | _ => rfl
  | some o =>
    cases o with
    | dic m => rfl
    | loc m => rfl
    | lst xs =>
      cases i with
      | int i => show (seqOf S (ref n)).bind _ = _; rw [seqOf_ref, h]; rfl
      | _ => rfl
    | ins c fs =>
      cases i with
      | int i => show (seqOf S (ref n)).bind _ = _; rw [seqOf_ref, h]; rfl
      | _ => rfl
theorem putD_ref (S : Store) (n : Nat) (i d : D) : putD S (ref n) i d = (match S[n]? with
    | some (.dic m) => if okKey m i ∧ m.length < 1000000 then some (S.set n (.dic (dput m i d))) else none
    | some (.lst xs) => (match i with
      | .int i => (ixN xs.length i).map fun j => S.set n (.lst (xs.set j d))
      | _ => none)
    | _ => none) := by
  unfold putD
  rw [objN_ref]
  cases S[n]? with
  | none => rfl
  | some o => cases o <;> rfl
theorem fldD_ref (Φ : Fns) (S : Store) (n : Nat) (f : Str) (d : D) : fldD Φ S (ref n) f d = (match S[n]? with
    | some (.ins c fs) => if Φ.fl c f ∧ fs.length < 900 then some (S.set n (.ins c (fput f d fs))) else none
    | _ => none) := by
  unfold fldD
  rw [objN_ref]
  cases S[n]? with
  | none => rfl
  | some o => cases o <;> rfl
theorem clsOf_ref (S : Store) (n : Nat) : clsOf S (ref n) = (match S[n]? with
    | some (.ins c _) => some c
    | _ => none) := by
  unfold clsOf
  rw [objN_ref]
  cases S[n]? with
  | none => rfl
  | some o => cases o <;> rfl
theorem tru_ref (S : Store) (n : Nat) : tru S (ref n) = (match S[n]? with
    | some (.lst xs) => some (!xs.isEmpty)
    | _ => none) := by
  show (seqOf S (ref n)).map _ = _
  rw [seqOf_ref]
  cases S[n]? with
  | none => rfl
  | some o => cases o <;> rfl
theorem call1_dict {S : Store} {n : Nat} {kvs : List (D × D)} (h : refN (.dict kvs) = some n) : call1 S .tuple (.dict kvs) = (match S[n]? with
    | some (.lst xs) => some (.tuple xs)
    | _ => none) := by
  show (seqOf S (.dict kvs)).map _ = _
  rw [seqOf_dict h]
  cases S[n]? with
  | none => rfl
  | some o => cases o <;> rfl
theorem k_tupR (S : Store) (n : Nat) : call1 S .tuple (ref n) = (match S[n]? with
    | some (.lst xs) => some (.tuple xs)
    | _ => none) := call1_dict (refN_ref n)
theorem k_lstR (S : Store) (n : Nat) : call1 S .list (ref n) = (match S[n]? with
    | some (.lst xs) => some (.list xs)
    | _ => none) := by
  show (seqOf S (ref n)).map _ = _
  rw [seqOf_ref]
  cases S[n]? with
  | none => rfl
  | some o => cases o <;> rfl
theorem k_sumR (S : Store) (n : Nat) : call1 S .sum (ref n) = (match S[n]? with
    | some (.lst xs) => (intsD xs).map fun ns => .int ns.sum
    | _ => none) := by
  show (lstOf S (ref n)).bind _ = _
  rw [lstOf_ref]
  cases S[n]? with
  | none => rfl
  | some o => cases o <;> rfl
theorem k_sumL (S : Store) (xs : List D) : call1 S .sum (.list xs) = (intsD xs).map fun ns => .int ns.sum := rfl
theorem intsD_map : ∀ ns : List Int, intsD (ns.map .int) = some ns
  | [] => rfl
  | n :: r => by rw [List.map_cons, intsD, intsD_map r]; rfl
theorem okKey_str (m : List (D × D)) (k : Str) : okKey m (.str k) = m.all fun p => keyT p.1 == false := by
  unfold okKey
  rw [show isKey (.str k) = true from rfl, Bool.true_and]
  rfl
theorem keyT_str (k : Str) : keyT (.str k) = false := rfl
theorem dput_def (kvs : List (D × D)) (k v : D) : dput kvs k v = if kvs.any fun p => PyData.eqv p.1 k then kvs.map fun p => if PyData.eqv p.1 k then (p.1, v) else p else kvs ++ [(k, v)] := rfl
theorem fk_str (s : Str) : flatKey (.str s) = true := rfl
theorem fk_int (i : Int) : flatKey (.int i) = true := rfl
theorem mergeD_nil (m : List (D × D)) : mergeD m [] = m := rfl
theorem mergeD_cons (m : List (D × D)) (k v : D) (r : List (D × D)) : mergeD m ((k, v) :: r) = mergeD (dput m k v) r := rfl
theorem ffind_nil (f : Str) : ffind [] f = none := rfl
theorem ffind_cons (g : Str) (w : D) (r : List (Str × D)) (f : Str) : ffind ((g, w) :: r) f = if f = g then some w else ffind r f := by
  unfold ffind
  rw [List.lookup_cons]
  by_cases h : f = g
  · subst h; simp
  · have e : (f == g) = false := by simpa using h
    rw [e, if_neg h]
theorem fput_nil (f : Str) (v : D) : fput f v [] = [(f, v)] := rfl
theorem fput_cons (f : Str) (v : D) (g : Str) (w : D) (r : List (Str × D)) : fput f v ((g, w) :: r) = if g = f then (f, v) :: r else (g, w) :: fput f v r := rfl
theorem does_alloc (o : SO) (S : Store) (P : D → Store → Prop) : Does (alloc o S) P = P (ref S.length) (S ++ [o]) := does_ok _ _ _
theorem get_new (S : Store) (o : SO) : (S ++ [o])[S.length]? = some o := by simp
theorem get_new' {S : Store} {o : SO} {n : Nat} (h : n = S.length) : (S ++ [o])[n]? = some o := by subst h; simp
theorem get_old {S : Store} {n : Nat} {o x : SO} (h : S[n]? = some x) : (S ++ [o])[n]? = some x := by
  rw [List.getElem?_append_left (List.getElem?_eq_some_iff.mp h).1]; exact h
theorem get_lt {S : Store} {n : Nat} {x : SO} (h : S[n]? = some x) : n < S.length := (List.getElem?_eq_some_iff.mp h).1
theorem get_set {S : Store} {n : Nat} {x o : SO} (h : S[n]? = some x) : (S.set n o)[n]? = some o := List.getElem?_set_self (get_lt h)
theorem get_set_ne {S : Store} {n m : Nat} {o : SO} (h : n ≠ m) : (S.set n o)[m]? = S[m]? := List.getElem?_set_ne h
theorem lc_pure {f : D → Store → R (Option D)} {S : Store} (g : D → Option D) : ∀ {xs : List D}, (∀ x ∈ xs, f x S = .ok (g x) S) → lcLoop none f xs S = .ok (xs.filterMap g) S
  | [], _ => by rw [lcLoop, onG_none]; rfl
  | x :: xs, h => by
    rw [lcLoop, onG_none, h x List.mem_cons_self]
    simp only [noX_ok, bind_ok]
    rw [lc_pure g fun y hy => h y (List.mem_cons_of_mem _ hy)]
    simp only [bind_ok, List.filterMap_cons]
    cases g x <;> rfl
theorem onG_ok {α : Type} {n : Nat} {o : SO} {S : Store} (h : S[n]? = some o) (r : R α) : onG (some (n, o)) S r = r := by
  unfold onG
  exact if_pos h
theorem lc_pureG {f : D → Store → R (Option D)} {S : Store} {n : Nat} {o : SO} (hS : S[n]? = some o) (g : D → Option D) : ∀ {xs : List D}, (∀ x ∈ xs, f x S = .ok (g x) S) → lcLoop (some (n, o)) f xs S = .ok (xs.filterMap g) S
  | [], _ => by rw [lcLoop, onG_ok hS]; rfl
  | x :: xs, h => by
    rw [lcLoop, onG_ok hS, h x List.mem_cons_self]
    simp only [noX_ok, bind_ok]
    rw [lc_pureG hS g fun y hy => h y (List.mem_cons_of_mem _ hy)]
    simp only [bind_ok, List.filterMap_cons]
    cases g x <;> rfl
theorem does_iff {α : Type} {r : R α} {a : α} {S : Store} : Does r (fun x S' => x = a ∧ S' = S) ↔ r = .ok a S := by
  constructor
  · rintro ⟨b, S', e, rfl, rfl⟩; exact e
  · intro e; exact ⟨a, S, e, rfl, rfl⟩
theorem Does.of_ok {α : Type} {r : R α} {a : α} {S : Store} {P : α → Store → Prop} (h : r = .ok a S) (k : P a S) : Does r P := by
  rw [h, does_ok]; exact k
section
variable {α : Type} {f : D → Store → R (Option D)} {S : Store}
theorem lc_fm (enc : α → D) (g : α → Option D) : ∀ {as : List α}, (∀ a ∈ as, f (enc a) S = .ok (g a) S) → lcLoop none f (as.map enc) S = .ok (as.filterMap g) S
  | [], _ => by rw [List.map_nil, lcLoop, onG_none]; rfl
  | a :: as, h => by
    rw [List.map_cons, lcLoop, onG_none, h a List.mem_cons_self]
    simp only [noX_ok, bind_ok]
    rw [lc_fm enc g fun y hy => h y (List.mem_cons_of_mem _ hy)]
    simp only [bind_ok, List.filterMap_cons]
    cases g a <;> rfl
theorem lc_fmG {n : Nat} {o : SO} (hS : S[n]? = some o) (enc : α → D) (g : α → Option D) : ∀ {as : List α}, (∀ a ∈ as, f (enc a) S = .ok (g a) S) → lcLoop (some (n, o)) f (as.map enc) S = .ok (as.filterMap g) S
  | [], _ => by rw [List.map_nil, lcLoop, onG_ok hS]; rfl
  | a :: as, h => by
    rw [List.map_cons, lcLoop, onG_ok hS, h a List.mem_cons_self]
    simp only [noX_ok, bind_ok]
    rw [lc_fmG hS enc g fun y hy => h y (List.mem_cons_of_mem _ hy)]
    simp only [bind_ok, List.filterMap_cons]
    cases g a <;> rfl
theorem lc_map (enc : α → D) (g : α → D) {as : List α} (h : ∀ a ∈ as, f (enc a) S = .ok (some (g a)) S) : lcLoop none f (as.map enc) S = .ok (as.map g) S := by
  rw [lc_fm enc (fun a => some (g a)) h, ← List.filterMap_eq_map]; rfl
theorem lc_mapG {n : Nat} {o : SO} (hS : S[n]? = some o) (enc : α → D) (g : α → D) {as : List α} (h : ∀ a ∈ as, f (enc a) S = .ok (some (g a)) S) : lcLoop (some (n, o)) f (as.map enc) S = .ok (as.map g) S := by
  rw [lc_fmG hS enc (fun a => some (g a)) h, ← List.filterMap_eq_map]; rfl
end
theorem next_does {Φ : Fns} {S : Store} {n : Nat} {many : Int} {P : D → Store → Prop} (h : WOk S n) (hm : 0 < many) (k : ∀ (v : Int) (o : SO), 0 ≤ v → v < many → WOk (S.set n o) n → P (.int v) (S.set n o)) : Does (runDef Φ 2 2 cNext [ref n, .int many] S) P :=
  (next_run h hm).imp fun d S' q => by
    obtain ⟨v, rfl, h0, h1, o, rfl, hw⟩ := q
    exact k v o h0 h1 hw
def Kt (Φ : Fns) (ss : List CS) (P K : Fl → Store → Prop) : Prop := ∀ fl S1, Nxt (fun Γ1 S1 => Does (exSs Φ ss Γ1 S1) P) P fl S1 → K fl S1
section
variable {Φ : Fns} {s : CS} {ss : List CS} {Γ : Env} {S : Store} {P K : Fl → Store → Prop} {d : D}
theorem step (h : ∀ K : Fl → Store → Prop, Kt Φ ss P K → Does (exS Φ s Γ S) K) : Does (exSs Φ (s :: ss) Γ S) P := by
  rw [does_cons]
  exact h _ fun _ _ q => q
theorem Kt.nx (hk : Kt Φ ss P K) (h : Does (exSs Φ ss Γ S) P) : K (.nx Γ) S := hk (.nx Γ) S h
theorem Kt.ret (hk : Kt Φ ss P K) (h : P (.ret d) S) : K (.ret d) S := hk (.ret d) S h
theorem Kt.brk (hk : Kt Φ ss P K) (h : P (.brk Γ) S) : K (.brk Γ) S := hk (.brk Γ) S h
theorem Kt.ct (hk : Kt Φ ss P K) (h : P (.ct Γ) S) : K (.ct Γ) S := hk (.ct Γ) S h
end
theorem does_nilp {Φ : Fns} {Γ : Env} {S : Store} {P : Fl → Store → Prop} (h : P (.nx Γ) S) : Does (exSs Φ [] Γ S) P := by
  rw [does_nil]; exact h
theorem draws_does {Φ : Fns} {S : Store} {ns : List Int} (many : Nat) {m : Int} (e : m = (many : Int)) {P : D → Store → Prop} (hn : ns.length ≤ 63) (hm : many ≤ 1000) (k : ∀ ds : List Int, Draws ds → P (.list (ds.map .int)) S) : Does (runDef Φ 8 2 cDraws [scr (ns.map .int), .int m] S) P := by
  subst e
  exact (draws_run ns many hn hm S).imp fun d S' q => by
    obtain ⟨ds, rfl, rfl, h, _⟩ := q
    exact k ds h
theorem at_nat {α : Type} {xs : List α} {v : Int} (h0 : 0 ≤ v) (h1 : v < xs.length) : at_ xs v = xs[v.toNat]? := by
  unfold at_ ixN
  rw [if_pos h0, if_pos h1]; rfl
theorem pick_int {S : Store} {xs : List D} {ys : List Int} {v : Int} (e : xs = ys.map .int) (h0 : 0 ≤ v) (h1 : v < ys.length) : ∃ y ∈ ys, getD S (.list xs) (.int v) = some (.int y) := by
  have hl : v.toNat < ys.length := by omega
  refine ⟨ys[v.toNat], List.getElem_mem hl, ?_⟩
  show at_ xs v = _
  rw [e, at_nat h0 (by simpa using h1), List.getElem?_map, List.getElem?_eq_getElem hl]; rfl
theorem pick_map {α : Type} {S : Store} {xs : List D} (enc : α → D) {ys : List α} {v : Int} (e : xs = ys.map enc) (h0 : 0 ≤ v) (h1 : v < ys.length) : ∃ y ∈ ys, getD S (.list xs) (.int v) = some (enc y) := by
  have hl : v.toNat < ys.length := by omega
  refine ⟨ys[v.toNat], List.getElem_mem hl, ?_⟩
  show at_ xs v = _
  rw [e, at_nat h0 (by simpa using h1), List.getElem?_map, List.getElem?_eq_getElem hl]; rfl
theorem set_new (S : Store) (x y : SO) : (S ++ [x]).set S.length y = S ++ [y] := by simp
theorem set_newL (S : Store) (x y : SO) (n : Nat) (h : n = S.length) : (S ++ [x]).set n y = S ++ [y] := by subst h; simp
section
variable {α β : Type} {f : D → Env → Store → R Fl} {P : Fl → Store → Prop}
theorem for_foldO (g : Option (Nat × SO)) (enc : α → D) (step : β → α → β) (I : β → Env → Store → Prop) (hG : ∀ b Γ S, I b Γ S → gOk g S) : ∀ (as : List α) (b : β) {Γ : Env} {S : Store}, I b Γ S →
    (∀ b a Γ S, a ∈ as → I b Γ S → Does (f (enc a) Γ S) (Turn (I (step b a)) P)) → (∀ Γ S, I (as.foldl step b) Γ S → P (.nx Γ) S) → Does (forLoop g f (as.map enc) Γ S) P
  | [], b, Γ, S, h, _, fin => by
    rw [List.map_nil, forLoop, onG, if_pos (hG b Γ S h), does_ok]
    exact fin Γ S h
  | a :: as, b, Γ, S, h, hs, fin => by
    rw [List.map_cons, forLoop, onG, if_pos (hG b Γ S h), does_bind]
    refine (hs b a Γ S List.mem_cons_self h).imp fun fl S' q => ?_
    have rest : ∀ Γ' , I (step b a) Γ' S' → Does (forLoop g f (as.map enc) Γ' S') P := fun Γ' h' => for_foldO g enc step I hG as (step b a) h' (fun b a Γ S ha => hs b a Γ S (List.mem_cons_of_mem _ ha)) fin
    cases fl with
    | nx Γ' => exact rest Γ' q
    | ct Γ' => exact rest Γ' q
    | brk Γ' => exact (by rw [does_ok]; exact q)
    | ret d => exact (by rw [does_ok]; exact q)
theorem for_fold (enc : α → D) (step : β → α → β) (I : β → Env → Store → Prop) (as : List α) (b : β) {Γ : Env} {S : Store} (h0 : I b Γ S)
    (hs : ∀ b a Γ S, a ∈ as → I b Γ S → Does (f (enc a) Γ S) (Turn (I (step b a)) P)) (fin : ∀ Γ S, I (as.foldl step b) Γ S → P (.nx Γ) S) : Does (forLoop none f (as.map enc) Γ S) P :=
  for_foldO none enc step I (fun _ _ _ _ => True.intro) as b h0 hs fin
end
section
variable {α : Type} {f : D → Env → Store → R Fl} {P : Fl → Store → Prop}
theorem for_preO (g : Option (Nat × SO)) (enc : α → D) (as : List α) (I : List α → Env → Store → Prop) (hG : ∀ pre Γ S, I pre Γ S → gOk g S) {Γ : Env} {S : Store} (h0 : I [] Γ S)
    (hs : ∀ pre a post Γ S, as = pre ++ a :: post → I pre Γ S → Does (f (enc a) Γ S) (Turn (I (pre ++ [a])) P)) (fin : ∀ Γ S, I as Γ S → P (.nx Γ) S) : Does (forLoop g f (as.map enc) Γ S) P := by
  have key : ∀ (post pre : List α) (Γ : Env) (S : Store), as = pre ++ post → I pre Γ S → Does (forLoop g f (post.map enc) Γ S) P := by
    intro post
    induction post with
    | nil =>
      intro pre Γ S e h
      rw [List.append_nil] at e
      subst e
      rw [List.map_nil, forLoop, onG, if_pos (hG _ Γ S h), does_ok]
      exact fin Γ S h
    | cons a post ih =>
      intro pre Γ S e h
      rw [List.map_cons, forLoop, onG, if_pos (hG _ Γ S h), does_bind]
      refine (hs pre a post Γ S e h).imp fun fl S' q => ?_
      have rest : ∀ Γ' , I (pre ++ [a]) Γ' S' → Does (forLoop g f (post.map enc) Γ' S') P := fun Γ' h' => ih (pre ++ [a]) Γ' S' (by rw [e, List.append_assoc]; rfl) h'
      cases fl with
      | nx Γ' => exact rest Γ' q
      | ct Γ' => exact rest Γ' q
      | brk Γ' => exact (by rw [does_ok]; exact q)
      | ret d => exact (by rw [does_ok]; exact q)
  exact key as [] Γ S rfl h0
theorem for_pre (enc : α → D) (as : List α) (I : List α → Env → Store → Prop) {Γ : Env} {S : Store} (h0 : I [] Γ S)
    (hs : ∀ pre a post Γ S, as = pre ++ a :: post → I pre Γ S → Does (f (enc a) Γ S) (Turn (I (pre ++ [a])) P)) (fin : ∀ Γ S, I as Γ S → P (.nx Γ) S) : Does (forLoop none f (as.map enc) Γ S) P :=
  for_preO none enc as I (fun _ _ _ _ => True.intro) h0 hs fin
end
section
variable {f : D → Env → Store → R Fl} {P : Fl → Store → Prop}
theorem for_rng (lo hi : Int) (n : Nat) (hn : (n : Int) = hi - lo) (I : Nat → Env → Store → Prop) {Γ : Env} {S : Store} (h0 : I 0 Γ S) (hs : ∀ (i : Nat) Γ S, i < n → I i Γ S → Does (f (.int (lo + (i : Int))) Γ S) (Turn (I (i + 1)) P))
    (fin : ∀ Γ S, I n Γ S → P (.nx Γ) S) : Does (forLoop none f (rngL lo hi) Γ S) P := by
  have hl : (rngL lo hi).length = n := by
    unfold rngL
    rw [List.length_map, List.length_range]
    omega
  refine does_for I h0 (fun i x Γ S hx hI => ?_) (fun Γ S h => fin Γ S (hl ▸ h))
  have hi : i < n := by rw [← hl]; exact (List.getElem?_eq_some_iff.mp hx).1
  unfold rngL at hx
  rw [List.getElem?_map, List.getElem?_range (by omega)] at hx
  cases hx
  exact hs i Γ S hi hI
end
theorem at_ints {xs : List Int} {i : Nat} (h : i < xs.length) : at_ (xs.map PyData.int) (i : Int) = some (.int (xs.getD i 0)) := by
  have h' : (i : Int) < (xs.map PyData.int).length := by rw [List.length_map]; omega
  rw [at_nat (by omega) h', Int.toNat_natCast, List.getElem?_map, List.getElem?_eq_getElem h, List.getD_eq_getElem?_getD, List.getElem?_eq_getElem h]; rfl
theorem at_ints1 {xs : List Int} {i : Nat} (h : i + 1 < xs.length) : at_ (xs.map PyData.int) ((i : Int) + 1) = some (.int (xs.getD (i + 1) 0)) := at_ints (i := i + 1) h
theorem set_last {α : Type} (xs : List α) (x y : α) : (xs ++ [x]).set xs.length y = xs ++ [y] := by simp
theorem set_lastM {α β : Type} (f : α → β) (m : List α) (x y : β) : (m.map f ++ [x]).set m.length y = m.map f ++ [y] := by
  have := set_last (m.map f) x y
  rwa [List.length_map] at this
theorem isE_map {α β : Type} (f : α → β) (xs : List α) : (xs.map f).isEmpty = xs.isEmpty := by cases xs <;> rfl
theorem isE_app {α : Type} (xs : List α) (x : α) : (xs ++ [x]).isEmpty = false := by cases xs <;> rfl
theorem k_sset (S : Store) (ns : List Int) : call1 S .sset (.list (ns.map .int)) = if ns.length < 64 then some (.list ((ssetI ns).map .int)) else none := by
  show ((some (ns.map PyData.int)).bind fun xs => (intsD xs).bind _) = _
  rw [Option.bind_some, intsD_map]; rfl
theorem rngL_map (a b : Int) : rngL a b = (List.range (b - a).toNat).map fun i : Nat => PyData.int (a + (i : Int)) := rfl
theorem at_last {α : Type} (xs : List α) (x : α) : at_ (xs ++ [x]) (-1) = some x := by
  unfold at_ ixN
  rw [if_neg (by decide), if_pos (by rw [List.length_append, List.length_singleton]; omega)]
  have e : (-1 + ((xs ++ [x]).length : Int)).toNat = xs.length := by rw [List.length_append, List.length_singleton]; omega
  rw [Option.bind_some, e]
  simp
theorem ix_last {α : Type} (xs : List α) (x : α) : ixN (xs ++ [x]).length (-1) = some xs.length := by
  unfold ixN
  rw [if_neg (by decide), if_pos (by rw [List.length_append, List.length_singleton]; omega)]
  have e : (-1 + ((xs ++ [x]).length : Int)).toNat = xs.length := by rw [List.length_append, List.length_singleton]; omega
  rw [e]
theorem eqv_nil (xs : List D) : PyData.eqv (.list xs) (.list []) = xs.isEmpty := by cases xs <;> rfl
theorem eq_nilL {k n : Nat} {xs : List D} (h : Rg k n (.list xs)) (hk : k ≤ 64) : eqD (.list xs) (.list []) = some xs.isEmpty := by
  unfold eqD
  rw [h.shaped hk, show SeqAt.shaped (.list []) = true from rfl, Bool.and_true, if_pos rfl, eqv_nil]
theorem get_l (S : Store) (xs : List D) (i : Int) : getD S (.list xs) (.int i) = at_ xs i := rfl
theorem get_t (S : Store) (xs : List D) (i : Int) : getD S (.tuple xs) (.int i) = at_ xs i := rfl
theorem at_0 {α : Type} (x : α) (xs : List α) : at_ (x :: xs) 0 = some x := by
  unfold at_ ixN
  rw [if_pos (by decide), if_pos (by rw [List.length_cons]; omega)]; rfl
theorem at_1 {α : Type} (x y : α) (xs : List α) : at_ (x :: y :: xs) 1 = some y := by
  unfold at_ ixN
  rw [if_pos (by decide), if_pos (by rw [List.length_cons, List.length_cons]; omega)]; rfl
theorem at_2 {α : Type} (x y z : α) (xs : List α) : at_ (x :: y :: z :: xs) 2 = some z := by
  unfold at_ ixN
  rw [if_pos (by decide), if_pos (by simp only [List.length_cons]; omega)]; rfl
theorem at_3 {α : Type} (x y z u : α) (xs : List α) : at_ (x :: y :: z :: u :: xs) 3 = some u := by
  unfold at_ ixN
  rw [if_pos (by decide), if_pos (by simp only [List.length_cons]; omega)]; rfl
theorem at_4 {α : Type} (x y z u v : α) (xs : List α) : at_ (x :: y :: z :: u :: v :: xs) 4 = some v := by
  unfold at_ ixN
  rw [if_pos (by decide), if_pos (by simp only [List.length_cons]; omega)]; rfl
def oi : Option Int → D
  | none => .none
  | some i => .int i
theorem oi_n : oi none = .none := rfl
theorem oi_s (i : Int) : oi (some i) = .int i := rfl
theorem isNone_oi (o : Option Int) : isNone (oi o) = o.isNone := by cases o <;> rfl
theorem eq_oi (a b : Option Int) : eqD (oi a) (oi b) = some (decide (a = b)) := by
  cases a <;> cases b <;> first | rfl | simp [oi, eq_II, eq_NI, eq_IN, eq_NN]
theorem eqC_oi {S : Store} (a b : Option Int) : eqC S (oi a) (oi b) = some (decide (a = b)) := by
  rw [← eq_oi]
  cases a <;> cases b <;> rfl
theorem Rg.oi {o : Option Int} (h : ∀ i, o = some i → i.natAbs < 10 ^ 12) : Rg 0 40 (oi o) := by
  cases o with
  | none => exact Rg.non.mono (Nat.le_refl _) (Nat.zero_le _)
  | some i => exact Rg.int (h i rfl)
theorem WOk.app {S : Store} {n : Nat} (h : WOk S n) (x : SO) : WOk (S ++ [x]) n := by
  obtain ⟨ds, i, a, b, c⟩ := h
  exact ⟨ds, i, get_old a, b, c⟩
section
variable {f : D → Env → Store → R Fl} {P : Fl → Store → Prop} {Γ : Env} {S : Store}
theorem does_fornil : Does (forLoop none f [] Γ S) P = P (.nx Γ) S := by rw [forLoop, onG_none, does_ok]
theorem does_forcons (x : D) (xs : List D) : Does (forLoop none f (x :: xs) Γ S) P = Does (f x Γ S) (Turn (fun Γ' S' => Does (forLoop none f xs Γ' S') P) P) := by
  rw [forLoop, onG_none, does_bind]
  congr 1
  funext fl S1
  cases fl with
  | nx Γ => rfl
  | ret d => exact does_ok _ _ _
  | brk Γ => exact does_ok _ _ _
  | ct Γ => rfl
end
end PL
set_option autoImplicit false
set_option linter.all false
set_option maxRecDepth 100000
set_option maxHeartbeats 4000000
set_option Elab.async false
namespace PL
open PySem
inductive Dx {α : Type} (r : R α) (P : α → Store → Prop) (E : XD → Store → Prop) : Prop where
  | ok (a : α) (S : Store) (e : r = .ok a S) (p : P a S)
  | ex (x : XD) (S : Store) (e : r = .ex x S) (p : E x S)
section
variable {α β : Type} {P : α → Store → Prop} {E : XD → Store → Prop} {S : Store} {r : R α}
theorem dx_ok (a : α) (S : Store) : Dx (.ok a S) P E = P a S := by
  refine propext ⟨fun h => ?_, fun p => .ok a S rfl p⟩
  cases h with
  | ok b S' e p => cases e; exact p
  | ex x S' e p => cases e
theorem dx_ex (x : XD) (S : Store) : Dx (.ex x S : R α) P E = E x S := by
  refine propext ⟨fun h => ?_, fun p => .ex x S rfl p⟩
  cases h with
  | ok b S' e p => cases e
  | ex x S' e p => cases e; exact p
theorem dx_no : Dx (.no : R α) P E = False := by
  refine propext ⟨fun h => ?_, fun p => p.elim⟩
  cases h with
  | ok b S' e p => cases e
  | ex x S' e p => cases e
theorem dx_bind (r : R β) (f : β → Store → R α) : Dx (r.bind f) P E = Dx r (fun a S => Dx (f a S) P E) E := by
  cases r with
  | ok a S => rw [bind_ok, dx_ok]
  | ex x S => rw [bind_ex, dx_ex, dx_ex]
  | no => rw [bind_no, dx_no, dx_no]
theorem dx_noX (r : R α) : Dx (noX r) P E = Does r P := by
  cases r with
  | ok a S => show Dx (.ok a S) P E = _; rw [dx_ok, does_ok]
  | ex x S => show Dx .no P E = _; rw [dx_no, does_ex]
  | no => show Dx .no P E = _; rw [dx_no, does_no]
theorem dx_if (c : Prop) [Decidable c] (r r' : R α) : Dx (if c then r else r') P E = if c then Dx r P E else Dx r' P E := by
  by_cases h : c <;> simp [h]
theorem dx_some (a : α) (S : Store) : Dx (ofO (some a) S) P E = P a S := dx_ok a S
theorem dx_truR (b : Bool) (S : Store) {P : Bool → Store → Prop} (d : D) (h : tru S d = some b) : Dx (truR S d) P E = P b S := by unfold truR; rw [h]; exact dx_ok b S
theorem Dx.imp {P' : α → Store → Prop} {E' : XD → Store → Prop} (h : Dx r P E) (k : ∀ a S, P a S → P' a S) (k' : ∀ x S, E x S → E' x S) : Dx r P' E' := by
  cases h with
  | ok a S e p => exact .ok a S e (k a S p)
  | ex x S e p => exact .ex x S e (k' x S p)
theorem Does.dx (h : Does r P) : Dx r P E := by
  obtain ⟨a, S, e, p⟩ := h
  exact .ok a S e p
theorem Dx.does (h : Dx r P (fun _ _ => False)) : Does r P := by
  cases h with
  | ok a S e p => exact ⟨a, S, e, p⟩
  | ex x S e p => exact p.elim
theorem dx_false : Dx r P (fun _ _ => False) = Does r P := propext ⟨Dx.does, Does.dx⟩
theorem Dx.of_ok {a : α} (h : r = .ok a S) (k : P a S) : Dx r P E := .ok a S h k
end
section
variable {Φ : Fns} {Γ : Env} {S : Store} {P : Fl → Store → Prop} {E : XD → Store → Prop} {s : CS} {ss : List CS}
theorem dx_nil : Dx (exSs Φ [] Γ S) P E = P (.nx Γ) S := by rw [exSs, dx_ok]
theorem dx_cons : Dx (exSs Φ (s :: ss) Γ S) P E = Dx (exS Φ s Γ S) (Nxt (fun Γ1 S1 => Dx (exSs Φ ss Γ1 S1) P E) P) E := by
  rw [exSs, dx_bind]
  congr 1
  funext fl S1
  cases fl with
  | nx Γ => rfl
  | ret d => exact dx_ok _ _
  | brk Γ => exact dx_ok _ _
  | ct Γ => exact dx_ok _ _
theorem dx_nilp (h : P (.nx Γ) S) : Dx (exSs Φ [] Γ S) P E := by rw [dx_nil]; exact h
def KtX (Φ : Fns) (ss : List CS) (P : Fl → Store → Prop) (E : XD → Store → Prop) (K : Fl → Store → Prop) : Prop := ∀ fl S1, Nxt (fun Γ1 S1 => Dx (exSs Φ ss Γ1 S1) P E) P fl S1 → K fl S1
variable {K : Fl → Store → Prop} {d : D}
theorem stepX (h : ∀ K : Fl → Store → Prop, KtX Φ ss P E K → Dx (exS Φ s Γ S) K E) : Dx (exSs Φ (s :: ss) Γ S) P E := by
  rw [dx_cons]
  exact h _ fun _ _ q => q
theorem KtX.nx (hk : KtX Φ ss P E K) (h : Dx (exSs Φ ss Γ S) P E) : K (.nx Γ) S := hk (.nx Γ) S h
theorem KtX.ret (hk : KtX Φ ss P E K) (h : P (.ret d) S) : K (.ret d) S := hk (.ret d) S h
theorem KtX.brk (hk : KtX Φ ss P E K) (h : P (.brk Γ) S) : K (.brk Γ) S := hk (.brk Γ) S h
theorem KtX.ct (hk : KtX Φ ss P E K) (h : P (.ct Γ) S) : K (.ct Γ) S := hk (.ct Γ) S h
theorem does_try {b : List CS} {nm : Str} {h : Hd} : Does (exS Φ (.tryX b nm h) Γ S) P = Dx (exSs Φ b Γ S) P (fun x S1 => Φ.xs x.cls nm = some true ∧ Does (exH Φ x S1 h) P) := by
  rw [exS]
  cases e : exSs Φ b Γ S with
  | ok fl S1 => dsimp only; rw [dx_ok, does_ok]
  | no => dsimp only; rw [dx_no, does_no]
  | ex x S1 =>
    dsimp only
    rw [dx_ex]
    cases e2 : Φ.xs x.cls nm with
    | none => dsimp only; rw [does_no]; simp
    | some b =>
      cases b with
      | true => dsimp only; simp
      | false => dsimp only; rw [does_ex]; simp
theorem dx_try {b : List CS} {nm : Str} {h : Hd} : Dx (exS Φ (.tryX b nm h) Γ S) P E = Dx (exSs Φ b Γ S) P (fun x S1 => (Φ.xs x.cls nm = some true ∧ Dx (exH Φ x S1 h) P E) ∨ (Φ.xs x.cls nm = some false ∧ E x S1)) := by
  rw [exS]
  cases e : exSs Φ b Γ S with
  | ok fl S1 => dsimp only; rw [dx_ok, dx_ok]
  | no => dsimp only; rw [dx_no, dx_no]
  | ex x S1 =>
    dsimp only
    rw [dx_ex]
    cases e2 : Φ.xs x.cls nm with
    | none => dsimp only; rw [dx_no]; simp
    | some b =>
      cases b with
      | true => dsimp only; simp
      | false => dsimp only; rw [dx_ex]; simp
end
theorem k_lenR (S : Store) (n : Nat) : call1 S .len (ref n) = (match S[n]? with
    | some (.lst xs) => some (.int xs.length)
    | some (.dic m) => some (.int m.length)
    | _ => none) := by
  show (match seqOf S (ref n) with
    | some xs => some (PyData.int xs.length)
    | none => (dicOf S (ref n)).map fun m : List (D × D) => PyData.int m.length) = _
  rw [seqOf_ref, dicOf_ref]
  cases S[n]? with
  | none => rfl
  | some o => cases o <;> rfl
theorem mul_one {S : Store} (x : D) (k : Nat) (hk : k ≤ 1000000) : opB S .mul (.list [x]) (.int k) = some (.list (List.replicate k x)) := by
  show (if 0 ≤ (k : Int) ∧ (k : Int) ≤ 1000000 ∧ [x].length * (k : Int).toNat ≤ 1000000 then some (PyData.list (List.replicate (k : Int).toNat [x]).flatten) else none) = _
  rw [if_pos ⟨by omega, by omega, by simp; omega⟩]
  congr 2
  rw [Int.toNat_natCast]
  induction k with
  | zero => rfl
  | succ k ih => rw [List.replicate_succ, List.flatten_cons, ih (by omega), List.replicate_succ]; rfl
theorem ix_nat {n : Nat} {i : Int} (h0 : 0 ≤ i) (h1 : i < n) : ixN n i = some i.toNat := by
  unfold ixN
  rw [if_pos h0, if_pos h1]
theorem at_int {xs : List Int} {i : Int} (h0 : 0 ≤ i) (h : i < xs.length) : at_ (xs.map PyData.int) i = some (.int (xs.getD i.toNat 0)) := by
  obtain ⟨n, rfl⟩ := Int.eq_ofNat_of_zero_le h0
  exact at_ints (by omega)
section
variable {α : Type} {f : D → Env → Store → R Fl} {P : Fl → Store → Prop} {E : XD → Store → Prop} {Γ : Env} {S : Store}
theorem xfor_nil : Dx (forLoop none f [] Γ S) P E = P (.nx Γ) S := by rw [forLoop, onG_none, dx_ok]
theorem xfor_cons (x : D) (xs : List D) : Dx (forLoop none f (x :: xs) Γ S) P E = Dx (f x Γ S) (Turn (fun Γ' S' => Dx (forLoop none f xs Γ' S') P E) P) E := by
  rw [forLoop, onG_none, dx_bind]
  congr 1
  funext fl S1
  cases fl with
  | nx Γ => rfl
  | ret d => exact dx_ok _ _
  | brk Γ => exact dx_ok _ _
  | ct Γ => rfl
theorem xfor_pre (enc : α → D) (as : List α) (I : List α → Env → Store → Prop) (h0 : I [] Γ S)
    (hs : ∀ pre a post Γ S, as = pre ++ a :: post → I pre Γ S → Dx (f (enc a) Γ S) (Turn (I (pre ++ [a])) P) E) (fin : ∀ Γ S, I as Γ S → P (.nx Γ) S) : Dx (forLoop none f (as.map enc) Γ S) P E := by
  have key : ∀ (post pre : List α) (Γ : Env) (S : Store), as = pre ++ post → I pre Γ S → Dx (forLoop none f (post.map enc) Γ S) P E := by
    intro post
    induction post with
    | nil =>
      intro pre Γ S e h
      rw [List.append_nil] at e
      subst e
      rw [List.map_nil, xfor_nil]
      exact fin Γ S h
    | cons a post ih =>
      intro pre Γ S e h
      rw [List.map_cons, xfor_cons]
      refine (hs pre a post Γ S e h).imp (fun fl S' q => ?_) fun _ _ q => q
      have rest : ∀ Γ' , I (pre ++ [a]) Γ' S' → Dx (forLoop none f (post.map enc) Γ' S') P E := fun Γ' h' => ih (pre ++ [a]) Γ' S' (by rw [e, List.append_assoc]; rfl) h'
      cases fl with
      | nx Γ' => exact rest Γ' q
      | ct Γ' => exact rest Γ' q
      | brk Γ' => exact q
      | ret d => exact q
  exact key as [] Γ S rfl h0
theorem xwhile {c : Env → Store → R Bool} {g : Env → Store → R Fl} (I : Nat → Env → Store → Prop) {n0 : Nat} (h0 : I n0 Γ S)
    (step : ∀ n Γ S, I n Γ S → Does (c Γ S) (fun t S1 => if t = true then Dx (g Γ S1) (Turn (fun Γ' S' => ∃ m, m < n ∧ I m Γ' S') P) E else P (.nx Γ) S1)) (hc : ∀ Γ S x S', c Γ S ≠ .ex x S') {N : Nat} (hN : n0 < N) : Dx (whileLoop c g N Γ S) P E := by
  induction N generalizing n0 Γ S with
  | zero => omega
  | succ N ih =>
    rw [whileLoop, dx_bind]
    refine Does.dx ((step n0 Γ S h0).imp fun t S1 q => ?_)
    cases t with
    | false =>
      rw [if_neg Bool.false_ne_true] at q
      rw [if_neg Bool.false_ne_true, dx_ok]
      exact q
    | true =>
      rw [if_pos rfl] at q
      rw [if_pos rfl, dx_bind]
      refine q.imp (fun fl S' r => ?_) fun _ _ r => r
      cases fl with
      | nx Γ' => obtain ⟨m, hm, h⟩ := r; exact ih h (by omega)
      | ct Γ' => obtain ⟨m, hm, h⟩ := r; exact ih h (by omega)
      | brk Γ' => exact (by rw [dx_ok]; exact r)
      | ret d => exact (by rw [dx_ok]; exact r)
end
end PL
set_option autoImplicit false
set_option linter.all false
set_option maxRecDepth 100000
set_option maxHeartbeats 4000000
set_option Elab.async false
namespace PL
open PySem
def n_TurnClocksu_initu : List Str := ["self", "first", "more", "players"]
def p_TurnClocksu_initu : List Str := ["self", "first", "more", "players"]
def b_TurnClocksu_initu : List CS :=
  [.asg (.attr (.var 0) "more") (.var 2),
  .asg (.attr (.var 0) "rest") (.box (.bin .mul (.lst [(.var 1)]) (.var 3))),
  .asg (.attr (.var 0) "now") (.lit (.int 0)),
  .asg (.attr (.var 0) "latest") (.lit (.int 0)),
  .asg (.attr (.var 0) "loser") (.lit .none)]
def n_TurnClocks_turn : List Str := ["self"]
def p_TurnClocks_turn : List Str := ["self"]
def b_TurnClocks_turn : List CS :=
  [.ret (.attr (.var 0) "now")]
def n_TurnClocks_lost : List Str := ["self"]
def p_TurnClocks_lost : List Str := ["self"]
def b_TurnClocks_lost : List CS :=
  [.ret (.attr (.var 0) "loser")]
def n_TurnClocks_left : List Str := ["self", "player", "time", "runs"]
def p_TurnClocks_left : List Str := ["self", "player", "time"]
def b_TurnClocks_left : List CS :=
  [.ite (.cmp .lt (.var 2) (.attr (.var 0) "latest"))
   [.raise_ "NoDay" (.lit (.str "time"))]
   [],
  .asg (.nm 3) (.and (.cmp .isN (.attr (.var 0) "loser") (.lit .none)) (.cmp .eq (.var 1) (.attr (.var 0) "now"))),
  .ret (.bin .sub (.sub (.attr (.var 0) "rest") (.var 1)) (.ite (.var 3) (.bin .sub (.var 2) (.attr (.var 0) "latest")) (.lit (.int 0))))]
def n_TurnClocks_move : List Str := ["self", "time", "rest", "told"]
def p_TurnClocks_move : List Str := ["self", "time"]
def b_TurnClocks_move : List CS :=
  [.ite (.cmp .lt (.var 1) (.attr (.var 0) "latest"))
   [.raise_ "NoDay" (.lit (.str "time"))]
   [],
  .ite (.cmp .notN (.attr (.var 0) "loser") (.lit .none))
   [.ret (.lit .none)]
   [],
  .asgX (.nm 2) (.mcall "TurnClocks" (.var 0) "left" [(.e (.attr (.var 0) "now")), (.e (.var 1))]),
  .asg (.sub (.attr (.var 0) "rest") (.attr (.var 0) "now")) (.var 2),
  .asg (.attr (.var 0) "latest") (.var 1),
  .ite (.cmp .le (.var 2) (.lit (.int 0)))
   [.asg (.attr (.var 0) "loser") (.attr (.var 0) "now"),
    .ret (.lit .none)]
   [],
  .asg (.sub (.attr (.var 0) "rest") (.attr (.var 0) "now")) (.bin .add (.var 2) (.attr (.var 0) "more")),
  .asg (.nm 3) (.bin .add (.var 2) (.attr (.var 0) "more")),
  .asg (.attr (.var 0) "now") (.bin .mod (.bin .add (.attr (.var 0) "now") (.lit (.int 1))) (.c1 .len (.attr (.var 0) "rest"))),
  .ret (.var 3)]
def n_TurnClocks_out_at : List Str := ["self"]
def p_TurnClocks_out_at : List Str := ["self"]
def b_TurnClocks_out_at : List CS :=
  [.ret (.ite (.cmp .notN (.attr (.var 0) "loser") (.lit .none)) (.lit .none) (.bin .add (.attr (.var 0) "latest") (.sub (.attr (.var 0) "rest") (.attr (.var 0) "now"))))]
def n__law_draws : List Str := ["script", "many", "draws", "mixed", "k", "cell", "rest", "turn"]
def p__law_draws : List Str := ["script", "many"]
def b__law_draws : List CS :=
  [.own 2 (.lst []),
  .asg (.nm 3) (.lit (.int 7)),
  .for_ (.nm 4) (.r1 (.c1 .len (.var 0)))
   [.asg (.nm 5) (.c1 .abs (.c1 .int (.sub (.var 0) (.var 4)))),
    .asg (.nm 3) (.bin .mod (.c1 .int (.bin .add (.bin .add (.bin .mul (.var 3) (.lit (.int 48271))) (.bin .mod (.var 5) (.lit (.int 1000003)))) (.var 4))) (.lit (.int 65537))),
    .asg (.nm 6) (.lit (.int 0)),
    .ite (.cmp .ge (.var 5) (.bin .pow (.lit (.int 10)) (.lit (.int 18))))
     [.asg (.nm 6) (.var 5)]
     [.app (.bor 2) (.bin .mod (.c1 .int (.var 5)) (.lit (.int 997))),
      .app (.bor 2) (.bin .mod (.bin .mod (.c1 .int (.bin .add (.bin .mul (.var 3) (.lit (.int 69621))) (.lit (.int 5)))) (.lit (.int 65521))) (.lit (.int 997)))],
    .for_ (.nm 7) (.r1 (.lit (.int 60)))
     [.ite (.cmp .gt (.var 6) (.lit (.int 0)))
       [.app (.bor 2) (.bin .mod (.c1 .int (.var 6)) (.lit (.int 997))),
        .asg (.nm 6) (.bin .fdiv (.var 6) (.lit (.int 997)))]
       []]],
  .for_ (.nm 4) (.r1 (.var 1))
   [.asg (.nm 3) (.bin .mod (.c1 .int (.bin .add (.bin .add (.bin .mul (.var 3) (.lit (.int 16807))) (.var 4)) (.lit (.int 1)))) (.lit (.int 65537))),
    .app (.bor 2) (.bin .mod (.c1 .int (.var 3)) (.lit (.int 997)))],
  .ret (.slice (.bor 2) none (some (.var 1)))]
def n__law_next : List Str := ["w", "many"]
def p__law_next : List Str := ["w", "many"]
def b__law_next : List CS :=
  [.augS (.var 0) (.lit (.str "at")) .add (.lit (.int 1)),
  .ite (.cmp .gt (.sub (.var 0) (.lit (.str "at"))) (.c1 .len (.sub (.var 0) (.lit (.str "draws")))))
   [.ret (.lit (.int 0))]
   [],
  .ret (.bin .mod (.c1 .int (.sub (.sub (.var 0) (.lit (.str "draws"))) (.bin .sub (.sub (.var 0) (.lit (.str "at"))) (.lit (.int 1))))) (.var 1))]
def n__law_same : List Str := ["told", "due"]
def p__law_same : List Str := ["told", "due"]
def b__law_same : List CS :=
  [.ret (.and (.cmp .eq (.var 0) (.var 1)) (.cmp .eq (.c1 .repr (.var 0)) (.c1 .repr (.var 1))))]
def n__law_told : List Str := ["which", "clocks", "player", "time", "e"]
def p__law_told : List Str := ["which", "clocks", "player", "time"]
def b__law_told : List CS :=
  [.tryX
   [.retX (.ite (.cmp .eq (.var 0) (.lit (.int 0))) (.mcall "TurnClocks" (.var 1) "move" [(.e (.var 3))]) (.mcall "TurnClocks" (.var 1) "left" [(.e (.var 2)), (.e (.var 3))]))]
   "NoDay" (.word 4 "none" "word" ["DayError", "ValueError"])]
def n__law_looks_right : List Str := ["w", "clocks", "m", "time", "player", "runs", "due"]
def p__law_looks_right : List Str := ["w", "clocks", "m", "time"]
def b__law_looks_right : List CS :=
  [.ite (.or (.not (.call "_law_same" [(.mcall "TurnClocks" (.var 1) "turn" []), (.sub (.var 2) (.lit (.str "now")))])) (.not (.call "_law_same" [(.mcall "TurnClocks" (.var 1) "lost" []), (.sub (.var 2) (.lit (.str "lost")))])))
   [.ret (.lit (.bool false))]
   [],
  .ite (.not (.call "_law_same" [(.mcall "TurnClocks" (.var 1) "out_at" []), (.ite (.cmp .notN (.sub (.var 2) (.lit (.str "lost"))) (.lit .none)) (.lit .none) (.bin .add (.sub (.var 2) (.lit (.str "latest"))) (.sub (.sub (.var 2) (.lit (.str "left"))) (.sub (.var 2) (.lit (.str "now"))))))]))
   [.ret (.lit (.bool false))]
   [],
  .for_ (.nm 4) (.r1 (.c1 .len (.sub (.var 2) (.lit (.str "left")))))
   [.ite (.cmp .ne (.var 4) (.sub (.var 2) (.lit (.str "lost"))))
     [.asg (.nm 5) (.and (.cmp .isN (.sub (.var 2) (.lit (.str "lost"))) (.lit .none)) (.cmp .eq (.var 4) (.sub (.var 2) (.lit (.str "now"))))),
      .asg (.nm 6) (.bin .sub (.sub (.sub (.var 2) (.lit (.str "left"))) (.var 4)) (.ite (.var 5) (.bin .sub (.var 3) (.sub (.var 2) (.lit (.str "latest")))) (.lit (.int 0)))),
      .ite (.not (.call "_law_same" [(.call "_law_told" [(.lit (.int 1)), (.var 1), (.var 4), (.var 3)]), (.var 6)]))
       [.ret (.lit (.bool false))]
       []]
     []],
  .ite (.cmp .isN (.sub (.var 2) (.lit (.str "lost"))) (.lit .none))
   [.ret (.and (.cmp .eq (.call "_law_told" [(.lit (.int 1)), (.var 1), (.lit (.int 0)), (.bin .sub (.sub (.var 2) (.lit (.str "latest"))) (.lit (.int 1)))]) (.lst [(.lit (.str "none")), (.lit (.str "time"))])) (.cmp .eq (.call "_law_told" [(.lit (.int 0)), (.var 1), (.lit (.int 0)), (.bin .sub (.sub (.var 2) (.lit (.str "latest"))) (.lit (.int 1)))]) (.lst [(.lit (.str "none")), (.lit (.str "time"))])))]
   [],
  .ret (.lit (.bool true))]
def n_law : List Str := ["script", "w", "m", "time", "turn", "first", "more", "players", "clocks", "second", "due", "left"]
def p_law : List Str := ["script"]
def b_law : List CS :=
  [.asg (.nm 1) (.dict [(.lit (.str "draws")), (.call "_law_draws" [(.var 0), (.lit (.int 160))]), (.lit (.str "at")), (.lit (.int 0))]),
  .par [(false, 5), (false, 6), (false, 7)] [(.bin .add (.lit (.int 1)) (.call "_law_next" [(.var 1), (.lit (.int 30))])), (.call "_law_next" [(.var 1), (.lit (.int 5))]), (.bin .add (.lit (.int 2)) (.call "_law_next" [(.var 1), (.lit (.int 3))]))],
  .par [(false, 8), (false, 9)] [(.new "TurnClocks" [(.var 5), (.var 6), (.var 7)]), (.new "TurnClocks" [(.lit (.int 9)), (.lit (.int 1)), (.lit (.int 2))])],
  .asg (.nm 2) (.dict [(.lit (.str "left")), (.box (.bin .mul (.lst [(.var 5)]) (.var 7))), (.lit (.str "now")), (.lit (.int 0)), (.lit (.str "latest")), (.lit (.int 0)), (.lit (.str "lost")), (.lit .none)]),
  .asg (.nm 3) (.lit (.int 0)),
  .for_ (.nm 4) (.r1 (.bin .add (.lit (.int 3)) (.call "_law_next" [(.var 1), (.lit (.int 18))])))
   [.asg (.nm 3) (.bin .add (.var 3) (.sub (.lst [(.lit (.int 0)), (.lit (.int 1)), (.call "_law_next" [(.var 1), (.lit (.int 5))]), (.call "_law_next" [(.var 1), (.lit (.int 20))]), (.lit (.int 3))]) (.call "_law_next" [(.var 1), (.lit (.int 5))]))),
    .ite (.not (.call "_law_looks_right" [(.var 1), (.var 8), (.var 2), (.var 3)]))
     [.ret (.lit (.bool false))]
     [],
    .asg (.nm 10) (.lit .none),
    .ite (.cmp .isN (.sub (.var 2) (.lit (.str "lost"))) (.lit .none))
     [.asg (.nm 11) (.bin .sub (.sub (.sub (.var 2) (.lit (.str "left"))) (.sub (.var 2) (.lit (.str "now")))) (.bin .sub (.var 3) (.sub (.var 2) (.lit (.str "latest"))))),
      .asg (.tp [(.sub (.sub (.var 2) (.lit (.str "left"))) (.sub (.var 2) (.lit (.str "now")))), (.sub (.var 2) (.lit (.str "latest")))]) (.tup [(.var 11), (.var 3)]),
      .ite (.cmp .le (.var 11) (.lit (.int 0)))
       [.asg (.sub (.var 2) (.lit (.str "lost"))) (.sub (.var 2) (.lit (.str "now")))]
       [.asg (.nm 10) (.bin .add (.var 11) (.var 6)),
        .asg (.sub (.sub (.var 2) (.lit (.str "left"))) (.sub (.var 2) (.lit (.str "now")))) (.var 10),
        .asg (.sub (.var 2) (.lit (.str "now"))) (.bin .mod (.bin .add (.sub (.var 2) (.lit (.str "now"))) (.lit (.int 1))) (.var 7))]]
     [],
    .ite (.not (.call "_law_same" [(.call "_law_told" [(.lit (.int 0)), (.var 8), (.lit (.int 0)), (.var 3)]), (.var 10)]))
     [.ret (.lit (.bool false))]
     [],
    .ite (.not (.call "_law_looks_right" [(.var 1), (.var 8), (.var 2), (.bin .add (.var 3) (.call "_law_next" [(.var 1), (.lit (.int 4))]))]))
     [.ret (.lit (.bool false))]
     []],
  .ret (.and (.call "_law_same" [(.mcall "TurnClocks" (.var 9) "turn" []), (.lit (.int 0))]) (.and (.call "_law_same" [(.mcall "TurnClocks" (.var 9) "out_at" []), (.lit (.int 9))]) (.and (.call "_law_same" [(.mcall "TurnClocks" (.var 9) "move" [(.lit (.int 4))]), (.lit (.int 6))]) (.and (.call "_law_same" [(.mcall "TurnClocks" (.var 9) "left" [(.lit (.int 0)), (.lit (.int 5))]), (.lit (.int 6))]) (.call "_law_same" [(.mcall "TurnClocks" (.var 9) "left" [(.lit (.int 1)), (.lit (.int 6))]), (.lit (.int 7))])))))]
def tb0 : Fns := (((((Fns.none_.x "NoDay" "word" true).s "NoDay" "NoDay" true).s "NoDay" "DayError" true).s "NoDay" "ValueError" true).a "TurnClocks" ["more", "rest", "now", "latest", "loser"])
theorem xn0_NoDay : tb0.xn "NoDay" = some (("word" : Str), true) := by decide +kernel
theorem xs0_NoDay_NoDay : tb0.xs "NoDay" "NoDay" = some true := by decide +kernel
theorem xs0_NoDay_DayError : tb0.xs "NoDay" "DayError" = some true := by decide +kernel
theorem xs0_NoDay_ValueError : tb0.xs "NoDay" "ValueError" = some true := by decide +kernel
theorem attrs_TurnClocks_more : tb0.fl "TurnClocks" "more" = true := by decide +kernel
theorem attrs_TurnClocks_rest : tb0.fl "TurnClocks" "rest" = true := by decide +kernel
theorem attrs_TurnClocks_now : tb0.fl "TurnClocks" "now" = true := by decide +kernel
theorem attrs_TurnClocks_latest : tb0.fl "TurnClocks" "latest" = true := by decide +kernel
theorem attrs_TurnClocks_loser : tb0.fl "TurnClocks" "loser" = true := by decide +kernel
noncomputable def r_TurnClocksu_initu : FnS := runDef tb0 n_TurnClocksu_initu.length p_TurnClocksu_initu.length b_TurnClocksu_initu
theorem R_TurnClocksu_initu : r_TurnClocksu_initu = runDef tb0 4 4 b_TurnClocksu_initu := rfl
theorem A_TurnClocksu_initu_TurnClocks_more : tb0.fl "TurnClocks" "more" = true := attrs_TurnClocks_more
theorem A_TurnClocksu_initu_TurnClocks_rest : tb0.fl "TurnClocks" "rest" = true := attrs_TurnClocks_rest
theorem A_TurnClocksu_initu_TurnClocks_now : tb0.fl "TurnClocks" "now" = true := attrs_TurnClocks_now
theorem A_TurnClocksu_initu_TurnClocks_latest : tb0.fl "TurnClocks" "latest" = true := attrs_TurnClocks_latest
theorem A_TurnClocksu_initu_TurnClocks_loser : tb0.fl "TurnClocks" "loser" = true := attrs_TurnClocks_loser
noncomputable def tb1 : Fns := tb0.n "TurnClocks" r_TurnClocksu_initu
noncomputable def r_TurnClocks_turn : FnS := runDef tb1 n_TurnClocks_turn.length p_TurnClocks_turn.length b_TurnClocks_turn
theorem R_TurnClocks_turn : r_TurnClocks_turn = runDef tb1 1 1 b_TurnClocks_turn := rfl
theorem A_TurnClocks_turn_TurnClocks_now : tb1.fl "TurnClocks" "now" = true := Fns.lna <| attrs_TurnClocks_now
noncomputable def tb2 : Fns := tb1.m "TurnClocks" "turn" r_TurnClocks_turn
noncomputable def r_TurnClocks_left : FnS := runDef tb2 n_TurnClocks_left.length p_TurnClocks_left.length b_TurnClocks_left
theorem R_TurnClocks_left : r_TurnClocks_left = runDef tb2 4 3 b_TurnClocks_left := rfl
theorem A_TurnClocks_left_TurnClocks_rest : tb2.fl "TurnClocks" "rest" = true := Fns.lma <| Fns.lna <| attrs_TurnClocks_rest
theorem A_TurnClocks_left_TurnClocks_now : tb2.fl "TurnClocks" "now" = true := Fns.lma <| Fns.lna <| attrs_TurnClocks_now
theorem A_TurnClocks_left_TurnClocks_latest : tb2.fl "TurnClocks" "latest" = true := Fns.lma <| Fns.lna <| attrs_TurnClocks_latest
theorem A_TurnClocks_left_TurnClocks_loser : tb2.fl "TurnClocks" "loser" = true := Fns.lma <| Fns.lna <| attrs_TurnClocks_loser
theorem X_TurnClocks_left_NoDay : tb2.xn "NoDay" = some (("word" : Str), true) := Fns.lmx <| Fns.lnx <| xn0_NoDay
noncomputable def tb3 : Fns := tb2.m "TurnClocks" "left" r_TurnClocks_left
noncomputable def r_TurnClocks_move : FnS := runDef tb3 n_TurnClocks_move.length p_TurnClocks_move.length b_TurnClocks_move
theorem R_TurnClocks_move : r_TurnClocks_move = runDef tb3 4 2 b_TurnClocks_move := rfl
theorem L_TurnClocks_move_TurnClocks_left : tb3.mt "TurnClocks" "left" = some r_TurnClocks_left := Fns.hm
theorem A_TurnClocks_move_TurnClocks_more : tb3.fl "TurnClocks" "more" = true := Fns.lma <| Fns.lma <| Fns.lna <| attrs_TurnClocks_more
theorem A_TurnClocks_move_TurnClocks_rest : tb3.fl "TurnClocks" "rest" = true := Fns.lma <| Fns.lma <| Fns.lna <| attrs_TurnClocks_rest
theorem A_TurnClocks_move_TurnClocks_now : tb3.fl "TurnClocks" "now" = true := Fns.lma <| Fns.lma <| Fns.lna <| attrs_TurnClocks_now
theorem A_TurnClocks_move_TurnClocks_latest : tb3.fl "TurnClocks" "latest" = true := Fns.lma <| Fns.lma <| Fns.lna <| attrs_TurnClocks_latest
theorem A_TurnClocks_move_TurnClocks_loser : tb3.fl "TurnClocks" "loser" = true := Fns.lma <| Fns.lma <| Fns.lna <| attrs_TurnClocks_loser
theorem X_TurnClocks_move_NoDay : tb3.xn "NoDay" = some (("word" : Str), true) := Fns.lmx <| Fns.lmx <| Fns.lnx <| xn0_NoDay
noncomputable def tb4 : Fns := tb3.m "TurnClocks" "move" r_TurnClocks_move
noncomputable def r_TurnClocks_out_at : FnS := runDef tb4 n_TurnClocks_out_at.length p_TurnClocks_out_at.length b_TurnClocks_out_at
theorem R_TurnClocks_out_at : r_TurnClocks_out_at = runDef tb4 1 1 b_TurnClocks_out_at := rfl
theorem A_TurnClocks_out_at_TurnClocks_rest : tb4.fl "TurnClocks" "rest" = true := Fns.lma <| Fns.lma <| Fns.lma <| Fns.lna <| attrs_TurnClocks_rest
theorem A_TurnClocks_out_at_TurnClocks_now : tb4.fl "TurnClocks" "now" = true := Fns.lma <| Fns.lma <| Fns.lma <| Fns.lna <| attrs_TurnClocks_now
theorem A_TurnClocks_out_at_TurnClocks_latest : tb4.fl "TurnClocks" "latest" = true := Fns.lma <| Fns.lma <| Fns.lma <| Fns.lna <| attrs_TurnClocks_latest
theorem A_TurnClocks_out_at_TurnClocks_loser : tb4.fl "TurnClocks" "loser" = true := Fns.lma <| Fns.lma <| Fns.lma <| Fns.lna <| attrs_TurnClocks_loser
noncomputable def tb5 : Fns := tb4.m "TurnClocks" "out_at" r_TurnClocks_out_at
noncomputable def r__law_draws : FnS := runDef tb5 n__law_draws.length p__law_draws.length b__law_draws
theorem R__law_draws : r__law_draws = runDef tb5 8 2 b__law_draws := rfl
noncomputable def tb6 : Fns := tb5.f "_law_draws" r__law_draws
noncomputable def r__law_next : FnS := runDef tb6 n__law_next.length p__law_next.length b__law_next
theorem R__law_next : r__law_next = runDef tb6 2 2 b__law_next := rfl
noncomputable def tb7 : Fns := tb6.f "_law_next" r__law_next
noncomputable def r__law_same : FnS := runDef tb7 n__law_same.length p__law_same.length b__law_same
theorem R__law_same : r__law_same = runDef tb7 2 2 b__law_same := rfl
noncomputable def tb8 : Fns := tb7.f "_law_same" r__law_same
noncomputable def r__law_told : FnS := runDef tb8 n__law_told.length p__law_told.length b__law_told
theorem R__law_told : r__law_told = runDef tb8 5 4 b__law_told := rfl
theorem L__law_told_TurnClocks_left : tb8.mt "TurnClocks" "left" = some r_TurnClocks_left := Fns.lfm <| Fns.lfm <| Fns.lfm <| Fns.lmm (by decide +kernel) <| Fns.lmm (by decide +kernel) <| Fns.hm
theorem L__law_told_TurnClocks_move : tb8.mt "TurnClocks" "move" = some r_TurnClocks_move := Fns.lfm <| Fns.lfm <| Fns.lfm <| Fns.lmm (by decide +kernel) <| Fns.hm
theorem X__law_told_NoDay : tb8.xn "NoDay" = some (("word" : Str), true) := Fns.lfx <| Fns.lfx <| Fns.lfx <| Fns.lmx <| Fns.lmx <| Fns.lmx <| Fns.lmx <| Fns.lnx <| xn0_NoDay
theorem Y__law_told_NoDay_NoDay : tb8.xs "NoDay" "NoDay" = some true := Fns.lfs <| Fns.lfs <| Fns.lfs <| Fns.lms <| Fns.lms <| Fns.lms <| Fns.lms <| Fns.lns <| xs0_NoDay_NoDay
theorem Y__law_told_NoDay_DayError : tb8.xs "NoDay" "DayError" = some true := Fns.lfs <| Fns.lfs <| Fns.lfs <| Fns.lms <| Fns.lms <| Fns.lms <| Fns.lms <| Fns.lns <| xs0_NoDay_DayError
theorem Y__law_told_NoDay_ValueError : tb8.xs "NoDay" "ValueError" = some true := Fns.lfs <| Fns.lfs <| Fns.lfs <| Fns.lms <| Fns.lms <| Fns.lms <| Fns.lms <| Fns.lns <| xs0_NoDay_ValueError
noncomputable def tb9 : Fns := tb8.f "_law_told" r__law_told
noncomputable def r_TurnClocks_lost : FnS := runDef tb9 n_TurnClocks_lost.length p_TurnClocks_lost.length b_TurnClocks_lost
theorem R_TurnClocks_lost : r_TurnClocks_lost = runDef tb9 1 1 b_TurnClocks_lost := rfl
theorem A_TurnClocks_lost_TurnClocks_loser : tb9.fl "TurnClocks" "loser" = true := Fns.lfa <| Fns.lfa <| Fns.lfa <| Fns.lfa <| Fns.lma <| Fns.lma <| Fns.lma <| Fns.lma <| Fns.lna <| attrs_TurnClocks_loser
noncomputable def tb10 : Fns := tb9.m "TurnClocks" "lost" r_TurnClocks_lost
noncomputable def r__law_looks_right : FnS := runDef tb10 n__law_looks_right.length p__law_looks_right.length b__law_looks_right
theorem R__law_looks_right : r__law_looks_right = runDef tb10 7 4 b__law_looks_right := rfl
theorem L__law_looks_right_TurnClocks_lost : tb10.mt "TurnClocks" "lost" = some r_TurnClocks_lost := Fns.hm
theorem L__law_looks_right_TurnClocks_out_at : tb10.mt "TurnClocks" "out_at" = some r_TurnClocks_out_at := Fns.lmm (by decide +kernel) <| Fns.lfm <| Fns.lfm <| Fns.lfm <| Fns.lfm <| Fns.hm
theorem L__law_looks_right_TurnClocks_turn : tb10.mt "TurnClocks" "turn" = some r_TurnClocks_turn := Fns.lmm (by decide +kernel) <| Fns.lfm <| Fns.lfm <| Fns.lfm <| Fns.lfm <| Fns.lmm (by decide +kernel) <| Fns.lmm (by decide +kernel) <| Fns.lmm (by decide +kernel) <| Fns.hm
theorem L__law_looks_right__law_same : tb10.fn "_law_same" = some r__law_same := Fns.lmf <| Fns.lff (by decide +kernel) <| Fns.hf
theorem L__law_looks_right__law_told : tb10.fn "_law_told" = some r__law_told := Fns.lmf <| Fns.hf
noncomputable def tb11 : Fns := tb10.f "_law_looks_right" r__law_looks_right
noncomputable def r_law : FnS := runDef tb11 n_law.length p_law.length b_law
theorem R_law : r_law = runDef tb11 12 1 b_law := rfl
theorem L_law_TurnClocks_left : tb11.mt "TurnClocks" "left" = some r_TurnClocks_left := Fns.lfm <| Fns.lmm (by decide +kernel) <| Fns.lfm <| Fns.lfm <| Fns.lfm <| Fns.lfm <| Fns.lmm (by decide +kernel) <| Fns.lmm (by decide +kernel) <| Fns.hm
theorem L_law_TurnClocks_move : tb11.mt "TurnClocks" "move" = some r_TurnClocks_move := Fns.lfm <| Fns.lmm (by decide +kernel) <| Fns.lfm <| Fns.lfm <| Fns.lfm <| Fns.lfm <| Fns.lmm (by decide +kernel) <| Fns.hm
theorem L_law_TurnClocks_out_at : tb11.mt "TurnClocks" "out_at" = some r_TurnClocks_out_at := Fns.lfm <| Fns.lmm (by decide +kernel) <| Fns.lfm <| Fns.lfm <| Fns.lfm <| Fns.lfm <| Fns.hm
theorem L_law_TurnClocks_turn : tb11.mt "TurnClocks" "turn" = some r_TurnClocks_turn := Fns.lfm <| Fns.lmm (by decide +kernel) <| Fns.lfm <| Fns.lfm <| Fns.lfm <| Fns.lfm <| Fns.lmm (by decide +kernel) <| Fns.lmm (by decide +kernel) <| Fns.lmm (by decide +kernel) <| Fns.hm
theorem L_law_TurnClocksu_initu : tb11.nw "TurnClocks" = some r_TurnClocksu_initu := Fns.lfn <| Fns.lmn <| Fns.lfn <| Fns.lfn <| Fns.lfn <| Fns.lfn <| Fns.lmn <| Fns.lmn <| Fns.lmn <| Fns.lmn <| Fns.hn
theorem L_law__law_draws : tb11.fn "_law_draws" = some r__law_draws := Fns.lff (by decide +kernel) <| Fns.lmf <| Fns.lff (by decide +kernel) <| Fns.lff (by decide +kernel) <| Fns.lff (by decide +kernel) <| Fns.hf
theorem L_law__law_looks_right : tb11.fn "_law_looks_right" = some r__law_looks_right := Fns.hf
theorem L_law__law_next : tb11.fn "_law_next" = some r__law_next := Fns.lff (by decide +kernel) <| Fns.lmf <| Fns.lff (by decide +kernel) <| Fns.lff (by decide +kernel) <| Fns.hf
theorem L_law__law_same : tb11.fn "_law_same" = some r__law_same := Fns.lff (by decide +kernel) <| Fns.lmf <| Fns.lff (by decide +kernel) <| Fns.hf
theorem L_law__law_told : tb11.fn "_law_told" = some r__law_told := Fns.lff (by decide +kernel) <| Fns.lmf <| Fns.hf
end PL
set_option autoImplicit false
set_option linter.all false
set_option maxRecDepth 100000
set_option maxHeartbeats 4000000
set_option Elab.async false
namespace PL
open PySem
def tcO (more : Int) (r : Nat) (now latest : Int) (lost : Option Int) : SO := .ins "TurnClocks" [("more", .int more), ("rest", ref r), ("now", .int now), ("latest", .int latest), ("loser", oi lost)]
def lstO (xs : List Int) : SO := .lst (xs.map .int)
theorem tc_fold (more : Int) (r : Nat) (now latest : Int) (lost : Option Int) : SO.ins "TurnClocks" [("more", .int more), ("rest", ref r), ("now", .int now), ("latest", .int latest), ("loser", oi lost)] = tcO more r now latest lost := rfl
def tmX : XD := ⟨"NoDay", [("word", .str "time")]⟩
def runI (lost : Option Int) (now latest : Int) (player time : Int) : Int := if lost = none ∧ player = now then time - latest else 0
section
variable {S : Store} {P : D → Store → Prop} {E : XD → Store → Prop} {n r : Nat} {more now latest : Int} {lost : Option Int} {rows : List Int} {player time : Int}
theorem init_does {first : Int} {players : Nat} (hp : players ≤ 10) (hS : S[n]? = some (.ins "TurnClocks" [])) (k : P .none (S.set n (tcO more S.length 0 0 none) ++ [lstO (List.replicate players first)])) : Does (r_TurnClocksu_initu [ref n, .int first, .int more, .int players] S) P := by
  rw [R_TurnClocksu_initu]
  unfold runDef b_TurnClocksu_initu
  have hl := get_lt hS
  have e := tc_fold more S.length 0 0 none
  simp only [oi_n] at e
  have em : ∀ S : Store, opB S .mul (.list [.int first]) (.int (players : Int)) = some (.list (List.replicate players (.int first))) := fun S => mul_one _ _ (by omega)
  simp only [does_ok, does_no, does_noX, does_bind, does_some, does_none, does_ofS, does_ofSif, does_oif, does_omap, does_if, does_cons, does_nil, nxt_nx, nxt_ret, nxt_brk, nxt_ct, turn_nx, turn_ret, turn_brk, turn_ct, if_no, exS, evE, evEs, evO, evC, evI, asgL, asgLs, asgT, asgTs, setPar, truR, appD, ownB, twos, scr_len, o_addII, o_addIB, o_addTT, o_addLL, o_addSS, o_subII, o_mulII, o_divII, o_modII, o_powII, q_ltII, q_leII, q_gtII, q_geII, q_isN, q_notN, isNone_n, isNone_i, isNone_b, isNone_s, isNone_t, isNone_l, q_isB, q_notB, q_eq, q_ne, eqC_i, eqC_n, eqC_b, eqC_s, eqC_t, eqC_l, unref_i, unref_n, unref_b, unref_s, unref_t, unref_l, eq_II, eq_SS, eq_BB, eq_NN, eq_NI, eq_IN, t_none, t_bool, t_int, k_abs, k_intI, k_intB, k_lenL, k_lenT, k_tupL, k_tupT, k_lstL, k_lstT, k_max2, k_min2, r_2, u_II, u_add, u_sub, l_list, s_list, s_tup, i_list, i_tup, smallI_eq, List.getElem?_cons_zero, List.getElem?_cons_succ, List.set_cons_zero, List.set_cons_succ, Option.map_some, Option.map_none, Option.bind_some, Option.isSome_some, if_true, if_false, Bool.and_eq_true, Bool.not_true, Bool.not_false, Bool.false_eq_true, decide_true, decide_false, decide_eq_true_eq, true_and, and_true, false_and, and_false, List.length_cons, List.length_nil, List.length_map, List.map_cons, List.map_nil, List.all_cons, List.all_nil, does_alloc, objN_ref, ix_last, set_last, set_lastM, isE_app, List.map_append, isNone_oi, eqC_oi, eq_oi, get_l, get_t, at_0, at_1, at_2, at_3, at_4, at_last, unref_ref, eqC_refL, dicOf_ref, seqOf_ref, lstOf_ref, iterOf_ref, getD_ref, putD_ref, fldD_ref, clsOf_ref, tru_ref, k_tupR, k_lstR, k_sumR, k_sumL, okKey_str, keyT_str, dput_def, fk_str, fk_int, mergeD_nil, mergeD_cons, ffind_nil, ffind_cons, fput_nil, fput_cons, ofString_inj, dfind_nil, dfind_cons, eqv_str, str_beq, twos, appD, ownB, String.reduceEq, Nat.reduceAdd, Nat.reduceLT, Nat.reduceLeDiff, Int.reduceLT, Int.reduceLE, Int.reduceNeg, Nat.reduceSub, Nat.zero_add, asgL, asgLs, List.any_cons, List.any_nil, List.cons_append, List.nil_append, List.replicate, List.reduceReplicate, Nat.sub_self, Option.isSome_none, Bool.or_false, Bool.or_true, Bool.false_or, Bool.true_or, beq_self_eq_true, reduceCtorEq, Bool.and_true, Bool.true_and, hS, em, List.getElem?_set_self hl, List.set_set, List.length_set, List.getElem?_append_left, hl, List.set_append_left, A_TurnClocksu_initu_TurnClocks_more, A_TurnClocksu_initu_TurnClocks_rest, A_TurnClocksu_initu_TurnClocks_now, A_TurnClocksu_initu_TurnClocks_latest, A_TurnClocksu_initu_TurnClocks_loser, e]
  have e2 : SO.lst (List.replicate players (PyData.int first)) = lstO (List.replicate players first) := by unfold lstO; rw [List.map_replicate]
  rw [e2]
  exact k
theorem turn_does (hS : S[n]? = some (tcO more r now latest lost)) (k : P (.int now) S) : Does (r_TurnClocks_turn [ref n] S) P := by
  rw [R_TurnClocks_turn]
  unfold runDef b_TurnClocks_turn
  unfold tcO at hS
  simp only [does_ok, does_no, does_noX, does_bind, does_some, does_none, does_ofS, does_ofSif, does_oif, does_omap, does_if, does_cons, does_nil, nxt_nx, nxt_ret, nxt_brk, nxt_ct, turn_nx, turn_ret, turn_brk, turn_ct, if_no, exS, evE, evEs, evO, evC, evI, asgL, asgLs, asgT, asgTs, setPar, truR, appD, ownB, twos, scr_len, o_addII, o_addIB, o_addTT, o_addLL, o_addSS, o_subII, o_mulII, o_divII, o_modII, o_powII, q_ltII, q_leII, q_gtII, q_geII, q_isN, q_notN, isNone_n, isNone_i, isNone_b, isNone_s, isNone_t, isNone_l, q_isB, q_notB, q_eq, q_ne, eqC_i, eqC_n, eqC_b, eqC_s, eqC_t, eqC_l, unref_i, unref_n, unref_b, unref_s, unref_t, unref_l, eq_II, eq_SS, eq_BB, eq_NN, eq_NI, eq_IN, t_none, t_bool, t_int, k_abs, k_intI, k_intB, k_lenL, k_lenT, k_tupL, k_tupT, k_lstL, k_lstT, k_max2, k_min2, r_2, u_II, u_add, u_sub, l_list, s_list, s_tup, i_list, i_tup, smallI_eq, List.getElem?_cons_zero, List.getElem?_cons_succ, List.set_cons_zero, List.set_cons_succ, Option.map_some, Option.map_none, Option.bind_some, Option.isSome_some, if_true, if_false, Bool.and_eq_true, Bool.not_true, Bool.not_false, Bool.false_eq_true, decide_true, decide_false, decide_eq_true_eq, true_and, and_true, false_and, and_false, List.length_cons, List.length_nil, List.length_map, List.map_cons, List.map_nil, List.all_cons, List.all_nil, does_alloc, objN_ref, ix_last, set_last, set_lastM, isE_app, List.map_append, isNone_oi, eqC_oi, eq_oi, get_l, get_t, at_0, at_1, at_2, at_3, at_4, at_last, unref_ref, eqC_refL, dicOf_ref, seqOf_ref, lstOf_ref, iterOf_ref, getD_ref, putD_ref, fldD_ref, clsOf_ref, tru_ref, k_tupR, k_lstR, k_sumR, k_sumL, okKey_str, keyT_str, dput_def, fk_str, fk_int, mergeD_nil, mergeD_cons, ffind_nil, ffind_cons, fput_nil, fput_cons, ofString_inj, dfind_nil, dfind_cons, eqv_str, str_beq, twos, appD, ownB, String.reduceEq, Nat.reduceAdd, Nat.reduceLT, Nat.reduceLeDiff, Int.reduceLT, Int.reduceLE, Int.reduceNeg, Nat.reduceSub, Nat.zero_add, asgL, asgLs, List.any_cons, List.any_nil, List.cons_append, List.nil_append, List.replicate, List.reduceReplicate, Nat.sub_self, Option.isSome_none, Bool.or_false, Bool.or_true, Bool.false_or, Bool.true_or, beq_self_eq_true, reduceCtorEq, Bool.and_true, Bool.true_and, hS, A_TurnClocks_turn_TurnClocks_now]
  exact k
theorem lost_does (hS : S[n]? = some (tcO more r now latest lost)) (k : P (oi lost) S) : Does (r_TurnClocks_lost [ref n] S) P := by
  rw [R_TurnClocks_lost]
  unfold runDef b_TurnClocks_lost
  unfold tcO at hS
  simp only [does_ok, does_no, does_noX, does_bind, does_some, does_none, does_ofS, does_ofSif, does_oif, does_omap, does_if, does_cons, does_nil, nxt_nx, nxt_ret, nxt_brk, nxt_ct, turn_nx, turn_ret, turn_brk, turn_ct, if_no, exS, evE, evEs, evO, evC, evI, asgL, asgLs, asgT, asgTs, setPar, truR, appD, ownB, twos, scr_len, o_addII, o_addIB, o_addTT, o_addLL, o_addSS, o_subII, o_mulII, o_divII, o_modII, o_powII, q_ltII, q_leII, q_gtII, q_geII, q_isN, q_notN, isNone_n, isNone_i, isNone_b, isNone_s, isNone_t, isNone_l, q_isB, q_notB, q_eq, q_ne, eqC_i, eqC_n, eqC_b, eqC_s, eqC_t, eqC_l, unref_i, unref_n, unref_b, unref_s, unref_t, unref_l, eq_II, eq_SS, eq_BB, eq_NN, eq_NI, eq_IN, t_none, t_bool, t_int, k_abs, k_intI, k_intB, k_lenL, k_lenT, k_tupL, k_tupT, k_lstL, k_lstT, k_max2, k_min2, r_2, u_II, u_add, u_sub, l_list, s_list, s_tup, i_list, i_tup, smallI_eq, List.getElem?_cons_zero, List.getElem?_cons_succ, List.set_cons_zero, List.set_cons_succ, Option.map_some, Option.map_none, Option.bind_some, Option.isSome_some, if_true, if_false, Bool.and_eq_true, Bool.not_true, Bool.not_false, Bool.false_eq_true, decide_true, decide_false, decide_eq_true_eq, true_and, and_true, false_and, and_false, List.length_cons, List.length_nil, List.length_map, List.map_cons, List.map_nil, List.all_cons, List.all_nil, does_alloc, objN_ref, ix_last, set_last, set_lastM, isE_app, List.map_append, isNone_oi, eqC_oi, eq_oi, get_l, get_t, at_0, at_1, at_2, at_3, at_4, at_last, unref_ref, eqC_refL, dicOf_ref, seqOf_ref, lstOf_ref, iterOf_ref, getD_ref, putD_ref, fldD_ref, clsOf_ref, tru_ref, k_tupR, k_lstR, k_sumR, k_sumL, okKey_str, keyT_str, dput_def, fk_str, fk_int, mergeD_nil, mergeD_cons, ffind_nil, ffind_cons, fput_nil, fput_cons, ofString_inj, dfind_nil, dfind_cons, eqv_str, str_beq, twos, appD, ownB, String.reduceEq, Nat.reduceAdd, Nat.reduceLT, Nat.reduceLeDiff, Int.reduceLT, Int.reduceLE, Int.reduceNeg, Nat.reduceSub, Nat.zero_add, asgL, asgLs, List.any_cons, List.any_nil, List.cons_append, List.nil_append, List.replicate, List.reduceReplicate, Nat.sub_self, Option.isSome_none, Bool.or_false, Bool.or_true, Bool.false_or, Bool.true_or, beq_self_eq_true, reduceCtorEq, Bool.and_true, Bool.true_and, hS, A_TurnClocks_lost_TurnClocks_loser]
  exact k
theorem out_does (hS : S[n]? = some (tcO more r now latest lost)) (hr : S[r]? = some (lstO rows)) (h0 : 0 ≤ now) (h1 : now < rows.length) (k : P (oi (if lost = none then some (latest + rows.getD now.toNat 0) else none)) S) : Does (r_TurnClocks_out_at [ref n] S) P := by
  rw [R_TurnClocks_out_at]
  unfold runDef b_TurnClocks_out_at
  unfold tcO at hS
  unfold lstO at hr
  cases lost with
  | some x =>
    simp only [does_ok, does_no, does_noX, does_bind, does_some, does_none, does_ofS, does_ofSif, does_oif, does_omap, does_if, does_cons, does_nil, nxt_nx, nxt_ret, nxt_brk, nxt_ct, turn_nx, turn_ret, turn_brk, turn_ct, if_no, exS, evE, evEs, evO, evC, evI, asgL, asgLs, asgT, asgTs, setPar, truR, appD, ownB, twos, scr_len, o_addII, o_addIB, o_addTT, o_addLL, o_addSS, o_subII, o_mulII, o_divII, o_modII, o_powII, q_ltII, q_leII, q_gtII, q_geII, q_isN, q_notN, isNone_n, isNone_i, isNone_b, isNone_s, isNone_t, isNone_l, q_isB, q_notB, q_eq, q_ne, eqC_i, eqC_n, eqC_b, eqC_s, eqC_t, eqC_l, unref_i, unref_n, unref_b, unref_s, unref_t, unref_l, eq_II, eq_SS, eq_BB, eq_NN, eq_NI, eq_IN, t_none, t_bool, t_int, k_abs, k_intI, k_intB, k_lenL, k_lenT, k_tupL, k_tupT, k_lstL, k_lstT, k_max2, k_min2, r_2, u_II, u_add, u_sub, l_list, s_list, s_tup, i_list, i_tup, smallI_eq, List.getElem?_cons_zero, List.getElem?_cons_succ, List.set_cons_zero, List.set_cons_succ, Option.map_some, Option.map_none, Option.bind_some, Option.isSome_some, if_true, if_false, Bool.and_eq_true, Bool.not_true, Bool.not_false, Bool.false_eq_true, decide_true, decide_false, decide_eq_true_eq, true_and, and_true, false_and, and_false, List.length_cons, List.length_nil, List.length_map, List.map_cons, List.map_nil, List.all_cons, List.all_nil, does_alloc, objN_ref, ix_last, set_last, set_lastM, isE_app, List.map_append, isNone_oi, eqC_oi, eq_oi, get_l, get_t, at_0, at_1, at_2, at_3, at_4, at_last, unref_ref, eqC_refL, dicOf_ref, seqOf_ref, lstOf_ref, iterOf_ref, getD_ref, putD_ref, fldD_ref, clsOf_ref, tru_ref, k_tupR, k_lstR, k_sumR, k_sumL, okKey_str, keyT_str, dput_def, fk_str, fk_int, mergeD_nil, mergeD_cons, ffind_nil, ffind_cons, fput_nil, fput_cons, ofString_inj, dfind_nil, dfind_cons, eqv_str, str_beq, twos, appD, ownB, String.reduceEq, Nat.reduceAdd, Nat.reduceLT, Nat.reduceLeDiff, Int.reduceLT, Int.reduceLE, Int.reduceNeg, Nat.reduceSub, Nat.zero_add, asgL, asgLs, List.any_cons, List.any_nil, List.cons_append, List.nil_append, List.replicate, List.reduceReplicate, Nat.sub_self, Option.isSome_none, Bool.or_false, Bool.or_true, Bool.false_or, Bool.true_or, beq_self_eq_true, reduceCtorEq, Bool.and_true, Bool.true_and, hS, oi_s, A_TurnClocks_out_at_TurnClocks_loser]
    exact k
  | none =>
    simp only [does_ok, does_no, does_noX, does_bind, does_some, does_none, does_ofS, does_ofSif, does_oif, does_omap, does_if, does_cons, does_nil, nxt_nx, nxt_ret, nxt_brk, nxt_ct, turn_nx, turn_ret, turn_brk, turn_ct, if_no, exS, evE, evEs, evO, evC, evI, asgL, asgLs, asgT, asgTs, setPar, truR, appD, ownB, twos, scr_len, o_addII, o_addIB, o_addTT, o_addLL, o_addSS, o_subII, o_mulII, o_divII, o_modII, o_powII, q_ltII, q_leII, q_gtII, q_geII, q_isN, q_notN, isNone_n, isNone_i, isNone_b, isNone_s, isNone_t, isNone_l, q_isB, q_notB, q_eq, q_ne, eqC_i, eqC_n, eqC_b, eqC_s, eqC_t, eqC_l, unref_i, unref_n, unref_b, unref_s, unref_t, unref_l, eq_II, eq_SS, eq_BB, eq_NN, eq_NI, eq_IN, t_none, t_bool, t_int, k_abs, k_intI, k_intB, k_lenL, k_lenT, k_tupL, k_tupT, k_lstL, k_lstT, k_max2, k_min2, r_2, u_II, u_add, u_sub, l_list, s_list, s_tup, i_list, i_tup, smallI_eq, List.getElem?_cons_zero, List.getElem?_cons_succ, List.set_cons_zero, List.set_cons_succ, Option.map_some, Option.map_none, Option.bind_some, Option.isSome_some, if_true, if_false, Bool.and_eq_true, Bool.not_true, Bool.not_false, Bool.false_eq_true, decide_true, decide_false, decide_eq_true_eq, true_and, and_true, false_and, and_false, List.length_cons, List.length_nil, List.length_map, List.map_cons, List.map_nil, List.all_cons, List.all_nil, does_alloc, objN_ref, ix_last, set_last, set_lastM, isE_app, List.map_append, isNone_oi, eqC_oi, eq_oi, get_l, get_t, at_0, at_1, at_2, at_3, at_4, at_last, unref_ref, eqC_refL, dicOf_ref, seqOf_ref, lstOf_ref, iterOf_ref, getD_ref, putD_ref, fldD_ref, clsOf_ref, tru_ref, k_tupR, k_lstR, k_sumR, k_sumL, okKey_str, keyT_str, dput_def, fk_str, fk_int, mergeD_nil, mergeD_cons, ffind_nil, ffind_cons, fput_nil, fput_cons, ofString_inj, dfind_nil, dfind_cons, eqv_str, str_beq, twos, appD, ownB, String.reduceEq, Nat.reduceAdd, Nat.reduceLT, Nat.reduceLeDiff, Int.reduceLT, Int.reduceLE, Int.reduceNeg, Nat.reduceSub, Nat.zero_add, asgL, asgLs, List.any_cons, List.any_nil, List.cons_append, List.nil_append, List.replicate, List.reduceReplicate, Nat.sub_self, Option.isSome_none, Bool.or_false, Bool.or_true, Bool.false_or, Bool.true_or, beq_self_eq_true, reduceCtorEq, Bool.and_true, Bool.true_and, hS, oi_n, hr, at_int h0 h1, A_TurnClocks_out_at_TurnClocks_loser, A_TurnClocks_out_at_TurnClocks_latest, A_TurnClocks_out_at_TurnClocks_rest, A_TurnClocks_out_at_TurnClocks_now]
    exact k
theorem left_dx (hS : S[n]? = some (tcO more r now latest lost)) (hr : S[r]? = some (lstO rows)) (h0 : 0 ≤ player) (h1 : player < rows.length)
    (k0 : time < latest → E tmX S) (k1 : latest ≤ time → P (.int (rows.getD player.toNat 0 - runI lost now latest player time)) S) : Dx (r_TurnClocks_left [ref n, .int player, .int time] S) P E := by
  rw [R_TurnClocks_left]
  unfold runDef b_TurnClocks_left
  unfold tcO at hS
  unfold lstO at hr
  simp only [does_ok, does_no, does_noX, does_bind, does_some, does_none, does_ofS, does_ofSif, does_oif, does_omap, does_if, nxt_nx, nxt_ret, nxt_brk, nxt_ct, turn_nx, turn_ret, turn_brk, turn_ct, if_no, exS, evE, evEs, evO, evC, evI, asgL, asgLs, asgT, asgTs, setPar, truR, appD, ownB, twos, scr_len, o_addII, o_addIB, o_addTT, o_addLL, o_addSS, o_subII, o_mulII, o_divII, o_modII, o_powII, q_ltII, q_leII, q_gtII, q_geII, q_isN, q_notN, isNone_n, isNone_i, isNone_b, isNone_s, isNone_t, isNone_l, q_isB, q_notB, q_eq, q_ne, eqC_i, eqC_n, eqC_b, eqC_s, eqC_t, eqC_l, unref_i, unref_n, unref_b, unref_s, unref_t, unref_l, eq_II, eq_SS, eq_BB, eq_NN, eq_NI, eq_IN, t_none, t_bool, t_int, k_abs, k_intI, k_intB, k_lenL, k_lenT, k_tupL, k_tupT, k_lstL, k_lstT, k_max2, k_min2, r_2, u_II, u_add, u_sub, l_list, s_list, s_tup, i_list, i_tup, smallI_eq, List.getElem?_cons_zero, List.getElem?_cons_succ, List.set_cons_zero, List.set_cons_succ, Option.map_some, Option.map_none, Option.bind_some, Option.isSome_some, if_true, if_false, Bool.and_eq_true, Bool.not_true, Bool.not_false, Bool.false_eq_true, decide_true, decide_false, decide_eq_true_eq, true_and, and_true, false_and, and_false, List.length_cons, List.length_nil, List.length_map, List.map_cons, List.map_nil, List.all_cons, List.all_nil, does_alloc, objN_ref, ix_last, set_last, set_lastM, isE_app, List.map_append, isNone_oi, eqC_oi, eq_oi, get_l, get_t, at_0, at_1, at_2, at_3, at_4, at_last, unref_ref, eqC_refL, dicOf_ref, seqOf_ref, lstOf_ref, iterOf_ref, getD_ref, putD_ref, fldD_ref, clsOf_ref, tru_ref, k_tupR, k_lstR, k_sumR, k_sumL, okKey_str, keyT_str, dput_def, fk_str, fk_int, mergeD_nil, mergeD_cons, ffind_nil, ffind_cons, fput_nil, fput_cons, ofString_inj, dfind_nil, dfind_cons, eqv_str, str_beq, twos, appD, ownB, String.reduceEq, Nat.reduceAdd, Nat.reduceLT, Nat.reduceLeDiff, Int.reduceLT, Int.reduceLE, Int.reduceNeg, Nat.reduceSub, Nat.zero_add, asgL, asgLs, List.any_cons, List.any_nil, List.cons_append, List.nil_append, List.replicate, List.reduceReplicate, Nat.sub_self, Option.isSome_none, Bool.or_false, Bool.or_true, Bool.false_or, Bool.true_or, beq_self_eq_true, reduceCtorEq, Bool.and_true, Bool.true_and, dx_ok, dx_no, dx_ex, dx_bind, dx_noX, dx_if, dx_some, does_try, dx_try, evX, evXs, exH, hS, A_TurnClocks_left_TurnClocks_latest]
  refine stepX fun K hk => ?_
  simp only [does_ok, does_no, does_noX, does_bind, does_some, does_none, does_ofS, does_ofSif, does_oif, does_omap, does_if, nxt_nx, nxt_ret, nxt_brk, nxt_ct, turn_nx, turn_ret, turn_brk, turn_ct, if_no, exS, evE, evEs, evO, evC, evI, asgL, asgLs, asgT, asgTs, setPar, truR, appD, ownB, twos, scr_len, o_addII, o_addIB, o_addTT, o_addLL, o_addSS, o_subII, o_mulII, o_divII, o_modII, o_powII, q_ltII, q_leII, q_gtII, q_geII, q_isN, q_notN, isNone_n, isNone_i, isNone_b, isNone_s, isNone_t, isNone_l, q_isB, q_notB, q_eq, q_ne, eqC_i, eqC_n, eqC_b, eqC_s, eqC_t, eqC_l, unref_i, unref_n, unref_b, unref_s, unref_t, unref_l, eq_II, eq_SS, eq_BB, eq_NN, eq_NI, eq_IN, t_none, t_bool, t_int, k_abs, k_intI, k_intB, k_lenL, k_lenT, k_tupL, k_tupT, k_lstL, k_lstT, k_max2, k_min2, r_2, u_II, u_add, u_sub, l_list, s_list, s_tup, i_list, i_tup, smallI_eq, List.getElem?_cons_zero, List.getElem?_cons_succ, List.set_cons_zero, List.set_cons_succ, Option.map_some, Option.map_none, Option.bind_some, Option.isSome_some, if_true, if_false, Bool.and_eq_true, Bool.not_true, Bool.not_false, Bool.false_eq_true, decide_true, decide_false, decide_eq_true_eq, true_and, and_true, false_and, and_false, List.length_cons, List.length_nil, List.length_map, List.map_cons, List.map_nil, List.all_cons, List.all_nil, does_alloc, objN_ref, ix_last, set_last, set_lastM, isE_app, List.map_append, isNone_oi, eqC_oi, eq_oi, get_l, get_t, at_0, at_1, at_2, at_3, at_4, at_last, unref_ref, eqC_refL, dicOf_ref, seqOf_ref, lstOf_ref, iterOf_ref, getD_ref, putD_ref, fldD_ref, clsOf_ref, tru_ref, k_tupR, k_lstR, k_sumR, k_sumL, okKey_str, keyT_str, dput_def, fk_str, fk_int, mergeD_nil, mergeD_cons, ffind_nil, ffind_cons, fput_nil, fput_cons, ofString_inj, dfind_nil, dfind_cons, eqv_str, str_beq, twos, appD, ownB, String.reduceEq, Nat.reduceAdd, Nat.reduceLT, Nat.reduceLeDiff, Int.reduceLT, Int.reduceLE, Int.reduceNeg, Nat.reduceSub, Nat.zero_add, asgL, asgLs, List.any_cons, List.any_nil, List.cons_append, List.nil_append, List.replicate, List.reduceReplicate, Nat.sub_self, Option.isSome_none, Bool.or_false, Bool.or_true, Bool.false_or, Bool.true_or, beq_self_eq_true, reduceCtorEq, Bool.and_true, Bool.true_and, dx_ok, dx_no, dx_ex, dx_bind, dx_noX, dx_if, dx_some, does_try, dx_try, evX, evXs, exH, hS, A_TurnClocks_left_TurnClocks_latest]
  by_cases h : time < latest
  · simp only [does_ok, does_no, does_noX, does_bind, does_some, does_none, does_ofS, does_ofSif, does_oif, does_omap, does_if, nxt_nx, nxt_ret, nxt_brk, nxt_ct, turn_nx, turn_ret, turn_brk, turn_ct, if_no, exS, evE, evEs, evO, evC, evI, asgL, asgLs, asgT, asgTs, setPar, truR, appD, ownB, twos, scr_len, o_addII, o_addIB, o_addTT, o_addLL, o_addSS, o_subII, o_mulII, o_divII, o_modII, o_powII, q_ltII, q_leII, q_gtII, q_geII, q_isN, q_notN, isNone_n, isNone_i, isNone_b, isNone_s, isNone_t, isNone_l, q_isB, q_notB, q_eq, q_ne, eqC_i, eqC_n, eqC_b, eqC_s, eqC_t, eqC_l, unref_i, unref_n, unref_b, unref_s, unref_t, unref_l, eq_II, eq_SS, eq_BB, eq_NN, eq_NI, eq_IN, t_none, t_bool, t_int, k_abs, k_intI, k_intB, k_lenL, k_lenT, k_tupL, k_tupT, k_lstL, k_lstT, k_max2, k_min2, r_2, u_II, u_add, u_sub, l_list, s_list, s_tup, i_list, i_tup, smallI_eq, List.getElem?_cons_zero, List.getElem?_cons_succ, List.set_cons_zero, List.set_cons_succ, Option.map_some, Option.map_none, Option.bind_some, Option.isSome_some, if_true, if_false, Bool.and_eq_true, Bool.not_true, Bool.not_false, Bool.false_eq_true, decide_true, decide_false, decide_eq_true_eq, true_and, and_true, false_and, and_false, List.length_cons, List.length_nil, List.length_map, List.map_cons, List.map_nil, List.all_cons, List.all_nil, does_alloc, objN_ref, ix_last, set_last, set_lastM, isE_app, List.map_append, isNone_oi, eqC_oi, eq_oi, get_l, get_t, at_0, at_1, at_2, at_3, at_4, at_last, unref_ref, eqC_refL, dicOf_ref, seqOf_ref, lstOf_ref, iterOf_ref, getD_ref, putD_ref, fldD_ref, clsOf_ref, tru_ref, k_tupR, k_lstR, k_sumR, k_sumL, okKey_str, keyT_str, dput_def, fk_str, fk_int, mergeD_nil, mergeD_cons, ffind_nil, ffind_cons, fput_nil, fput_cons, ofString_inj, dfind_nil, dfind_cons, eqv_str, str_beq, twos, appD, ownB, String.reduceEq, Nat.reduceAdd, Nat.reduceLT, Nat.reduceLeDiff, Int.reduceLT, Int.reduceLE, Int.reduceNeg, Nat.reduceSub, Nat.zero_add, asgL, asgLs, List.any_cons, List.any_nil, List.cons_append, List.nil_append, List.replicate, List.reduceReplicate, Nat.sub_self, Option.isSome_none, Bool.or_false, Bool.or_true, Bool.false_or, Bool.true_or, beq_self_eq_true, reduceCtorEq, Bool.and_true, Bool.true_and, dx_ok, dx_no, dx_ex, dx_bind, dx_noX, dx_if, dx_some, does_try, dx_try, evX, evXs, exH, h, X_TurnClocks_left_NoDay, xOk]
    refine stepX fun K hk => ?_
    simp only [does_ok, does_no, does_noX, does_bind, does_some, does_none, does_ofS, does_ofSif, does_oif, does_omap, does_if, nxt_nx, nxt_ret, nxt_brk, nxt_ct, turn_nx, turn_ret, turn_brk, turn_ct, if_no, exS, evE, evEs, evO, evC, evI, asgL, asgLs, asgT, asgTs, setPar, truR, appD, ownB, twos, scr_len, o_addII, o_addIB, o_addTT, o_addLL, o_addSS, o_subII, o_mulII, o_divII, o_modII, o_powII, q_ltII, q_leII, q_gtII, q_geII, q_isN, q_notN, isNone_n, isNone_i, isNone_b, isNone_s, isNone_t, isNone_l, q_isB, q_notB, q_eq, q_ne, eqC_i, eqC_n, eqC_b, eqC_s, eqC_t, eqC_l, unref_i, unref_n, unref_b, unref_s, unref_t, unref_l, eq_II, eq_SS, eq_BB, eq_NN, eq_NI, eq_IN, t_none, t_bool, t_int, k_abs, k_intI, k_intB, k_lenL, k_lenT, k_tupL, k_tupT, k_lstL, k_lstT, k_max2, k_min2, r_2, u_II, u_add, u_sub, l_list, s_list, s_tup, i_list, i_tup, smallI_eq, List.getElem?_cons_zero, List.getElem?_cons_succ, List.set_cons_zero, List.set_cons_succ, Option.map_some, Option.map_none, Option.bind_some, Option.isSome_some, if_true, if_false, Bool.and_eq_true, Bool.not_true, Bool.not_false, Bool.false_eq_true, decide_true, decide_false, decide_eq_true_eq, true_and, and_true, false_and, and_false, List.length_cons, List.length_nil, List.length_map, List.map_cons, List.map_nil, List.all_cons, List.all_nil, does_alloc, objN_ref, ix_last, set_last, set_lastM, isE_app, List.map_append, isNone_oi, eqC_oi, eq_oi, get_l, get_t, at_0, at_1, at_2, at_3, at_4, at_last, unref_ref, eqC_refL, dicOf_ref, seqOf_ref, lstOf_ref, iterOf_ref, getD_ref, putD_ref, fldD_ref, clsOf_ref, tru_ref, k_tupR, k_lstR, k_sumR, k_sumL, okKey_str, keyT_str, dput_def, fk_str, fk_int, mergeD_nil, mergeD_cons, ffind_nil, ffind_cons, fput_nil, fput_cons, ofString_inj, dfind_nil, dfind_cons, eqv_str, str_beq, twos, appD, ownB, String.reduceEq, Nat.reduceAdd, Nat.reduceLT, Nat.reduceLeDiff, Int.reduceLT, Int.reduceLE, Int.reduceNeg, Nat.reduceSub, Nat.zero_add, asgL, asgLs, List.any_cons, List.any_nil, List.cons_append, List.nil_append, List.replicate, List.reduceReplicate, Nat.sub_self, Option.isSome_none, Bool.or_false, Bool.or_true, Bool.false_or, Bool.true_or, beq_self_eq_true, reduceCtorEq, Bool.and_true, Bool.true_and, dx_ok, dx_no, dx_ex, dx_bind, dx_noX, dx_if, dx_some, does_try, dx_try, evX, evXs, exH, X_TurnClocks_left_NoDay, xOk]
    exact ⟨by decide, k0 h⟩
  · simp only [h, if_false, dx_nil, does_ok, does_no, does_noX, does_bind, does_some, does_none, does_ofS, does_ofSif, does_oif, does_omap, does_if, nxt_nx, nxt_ret, nxt_brk, nxt_ct, turn_nx, turn_ret, turn_brk, turn_ct, if_no, exS, evE, evEs, evO, evC, evI, asgL, asgLs, asgT, asgTs, setPar, truR, appD, ownB, twos, scr_len, o_addII, o_addIB, o_addTT, o_addLL, o_addSS, o_subII, o_mulII, o_divII, o_modII, o_powII, q_ltII, q_leII, q_gtII, q_geII, q_isN, q_notN, isNone_n, isNone_i, isNone_b, isNone_s, isNone_t, isNone_l, q_isB, q_notB, q_eq, q_ne, eqC_i, eqC_n, eqC_b, eqC_s, eqC_t, eqC_l, unref_i, unref_n, unref_b, unref_s, unref_t, unref_l, eq_II, eq_SS, eq_BB, eq_NN, eq_NI, eq_IN, t_none, t_bool, t_int, k_abs, k_intI, k_intB, k_lenL, k_lenT, k_tupL, k_tupT, k_lstL, k_lstT, k_max2, k_min2, r_2, u_II, u_add, u_sub, l_list, s_list, s_tup, i_list, i_tup, smallI_eq, List.getElem?_cons_zero, List.getElem?_cons_succ, List.set_cons_zero, List.set_cons_succ, Option.map_some, Option.map_none, Option.bind_some, Option.isSome_some, if_true, if_false, Bool.and_eq_true, Bool.not_true, Bool.not_false, Bool.false_eq_true, decide_true, decide_false, decide_eq_true_eq, true_and, and_true, false_and, and_false, List.length_cons, List.length_nil, List.length_map, List.map_cons, List.map_nil, List.all_cons, List.all_nil, does_alloc, objN_ref, ix_last, set_last, set_lastM, isE_app, List.map_append, isNone_oi, eqC_oi, eq_oi, get_l, get_t, at_0, at_1, at_2, at_3, at_4, at_last, unref_ref, eqC_refL, dicOf_ref, seqOf_ref, lstOf_ref, iterOf_ref, getD_ref, putD_ref, fldD_ref, clsOf_ref, tru_ref, k_tupR, k_lstR, k_sumR, k_sumL, okKey_str, keyT_str, dput_def, fk_str, fk_int, mergeD_nil, mergeD_cons, ffind_nil, ffind_cons, fput_nil, fput_cons, ofString_inj, dfind_nil, dfind_cons, eqv_str, str_beq, twos, appD, ownB, String.reduceEq, Nat.reduceAdd, Nat.reduceLT, Nat.reduceLeDiff, Int.reduceLT, Int.reduceLE, Int.reduceNeg, Nat.reduceSub, Nat.zero_add, asgL, asgLs, List.any_cons, List.any_nil, List.cons_append, List.nil_append, List.replicate, List.reduceReplicate, Nat.sub_self, Option.isSome_none, Bool.or_false, Bool.or_true, Bool.false_or, Bool.true_or, beq_self_eq_true, reduceCtorEq, Bool.and_true, Bool.true_and, dx_ok, dx_no, dx_ex, dx_bind, dx_noX, dx_if, dx_some, does_try, dx_try, evX, evXs, exH]
    (refine hk.nx ?_; clear hk K; try with_reducible refine dx_nilp ?_)
    refine stepX fun K hk => ?_
    simp only [exS, does_noX, dx_noX, asgL, does_bind, does_ok]
    refine Does.of_ok (a := .bool (decide (lost = none ∧ player = now))) (S := S) (does_iff.mp ?_) (?_)
    · cases lost <;> simp only [does_ok, does_no, does_noX, does_bind, does_some, does_none, does_ofS, does_ofSif, does_oif, does_omap, does_if, nxt_nx, nxt_ret, nxt_brk, nxt_ct, turn_nx, turn_ret, turn_brk, turn_ct, if_no, exS, evE, evEs, evO, evC, evI, asgL, asgLs, asgT, asgTs, setPar, truR, appD, ownB, twos, scr_len, o_addII, o_addIB, o_addTT, o_addLL, o_addSS, o_subII, o_mulII, o_divII, o_modII, o_powII, q_ltII, q_leII, q_gtII, q_geII, q_isN, q_notN, isNone_n, isNone_i, isNone_b, isNone_s, isNone_t, isNone_l, q_isB, q_notB, q_eq, q_ne, eqC_i, eqC_n, eqC_b, eqC_s, eqC_t, eqC_l, unref_i, unref_n, unref_b, unref_s, unref_t, unref_l, eq_II, eq_SS, eq_BB, eq_NN, eq_NI, eq_IN, t_none, t_bool, t_int, k_abs, k_intI, k_intB, k_lenL, k_lenT, k_tupL, k_tupT, k_lstL, k_lstT, k_max2, k_min2, r_2, u_II, u_add, u_sub, l_list, s_list, s_tup, i_list, i_tup, smallI_eq, List.getElem?_cons_zero, List.getElem?_cons_succ, List.set_cons_zero, List.set_cons_succ, Option.map_some, Option.map_none, Option.bind_some, Option.isSome_some, if_true, if_false, Bool.and_eq_true, Bool.not_true, Bool.not_false, Bool.false_eq_true, decide_true, decide_false, decide_eq_true_eq, true_and, and_true, false_and, and_false, List.length_cons, List.length_nil, List.length_map, List.map_cons, List.map_nil, List.all_cons, List.all_nil, does_alloc, objN_ref, ix_last, set_last, set_lastM, isE_app, List.map_append, isNone_oi, eqC_oi, eq_oi, get_l, get_t, at_0, at_1, at_2, at_3, at_4, at_last, unref_ref, eqC_refL, dicOf_ref, seqOf_ref, lstOf_ref, iterOf_ref, getD_ref, putD_ref, fldD_ref, clsOf_ref, tru_ref, k_tupR, k_lstR, k_sumR, k_sumL, okKey_str, keyT_str, dput_def, fk_str, fk_int, mergeD_nil, mergeD_cons, ffind_nil, ffind_cons, fput_nil, fput_cons, ofString_inj, dfind_nil, dfind_cons, eqv_str, str_beq, twos, appD, ownB, String.reduceEq, Nat.reduceAdd, Nat.reduceLT, Nat.reduceLeDiff, Int.reduceLT, Int.reduceLE, Int.reduceNeg, Nat.reduceSub, Nat.zero_add, asgL, asgLs, List.any_cons, List.any_nil, List.cons_append, List.nil_append, List.replicate, List.reduceReplicate, Nat.sub_self, Option.isSome_none, Bool.or_false, Bool.or_true, Bool.false_or, Bool.true_or, beq_self_eq_true, reduceCtorEq, Bool.and_true, Bool.true_and, hS, oi_n, oi_s, A_TurnClocks_left_TurnClocks_loser, A_TurnClocks_left_TurnClocks_now] <;> simp
    (refine hk.nx ?_; clear hk K; try with_reducible refine dx_nilp ?_)
    refine stepX fun K hk => ?_
    have kk := k1 (by omega)
    unfold runI at kk
    by_cases hc : lost = none ∧ player = now
    · rw [if_pos hc] at kk
      rw [show decide (lost = none ∧ player = now) = true by simpa using hc]
      simp only [does_ok, does_no, does_noX, does_bind, does_some, does_none, does_ofS, does_ofSif, does_oif, does_omap, does_if, nxt_nx, nxt_ret, nxt_brk, nxt_ct, turn_nx, turn_ret, turn_brk, turn_ct, if_no, exS, evE, evEs, evO, evC, evI, asgL, asgLs, asgT, asgTs, setPar, truR, appD, ownB, twos, scr_len, o_addII, o_addIB, o_addTT, o_addLL, o_addSS, o_subII, o_mulII, o_divII, o_modII, o_powII, q_ltII, q_leII, q_gtII, q_geII, q_isN, q_notN, isNone_n, isNone_i, isNone_b, isNone_s, isNone_t, isNone_l, q_isB, q_notB, q_eq, q_ne, eqC_i, eqC_n, eqC_b, eqC_s, eqC_t, eqC_l, unref_i, unref_n, unref_b, unref_s, unref_t, unref_l, eq_II, eq_SS, eq_BB, eq_NN, eq_NI, eq_IN, t_none, t_bool, t_int, k_abs, k_intI, k_intB, k_lenL, k_lenT, k_tupL, k_tupT, k_lstL, k_lstT, k_max2, k_min2, r_2, u_II, u_add, u_sub, l_list, s_list, s_tup, i_list, i_tup, smallI_eq, List.getElem?_cons_zero, List.getElem?_cons_succ, List.set_cons_zero, List.set_cons_succ, Option.map_some, Option.map_none, Option.bind_some, Option.isSome_some, if_true, if_false, Bool.and_eq_true, Bool.not_true, Bool.not_false, Bool.false_eq_true, decide_true, decide_false, decide_eq_true_eq, true_and, and_true, false_and, and_false, List.length_cons, List.length_nil, List.length_map, List.map_cons, List.map_nil, List.all_cons, List.all_nil, does_alloc, objN_ref, ix_last, set_last, set_lastM, isE_app, List.map_append, isNone_oi, eqC_oi, eq_oi, get_l, get_t, at_0, at_1, at_2, at_3, at_4, at_last, unref_ref, eqC_refL, dicOf_ref, seqOf_ref, lstOf_ref, iterOf_ref, getD_ref, putD_ref, fldD_ref, clsOf_ref, tru_ref, k_tupR, k_lstR, k_sumR, k_sumL, okKey_str, keyT_str, dput_def, fk_str, fk_int, mergeD_nil, mergeD_cons, ffind_nil, ffind_cons, fput_nil, fput_cons, ofString_inj, dfind_nil, dfind_cons, eqv_str, str_beq, twos, appD, ownB, String.reduceEq, Nat.reduceAdd, Nat.reduceLT, Nat.reduceLeDiff, Int.reduceLT, Int.reduceLE, Int.reduceNeg, Nat.reduceSub, Nat.zero_add, asgL, asgLs, List.any_cons, List.any_nil, List.cons_append, List.nil_append, List.replicate, List.reduceReplicate, Nat.sub_self, Option.isSome_none, Bool.or_false, Bool.or_true, Bool.false_or, Bool.true_or, beq_self_eq_true, reduceCtorEq, Bool.and_true, Bool.true_and, dx_ok, dx_no, dx_ex, dx_bind, dx_noX, dx_if, dx_some, does_try, dx_try, evX, evXs, exH, hS, hr, at_int h0 h1, A_TurnClocks_left_TurnClocks_rest, A_TurnClocks_left_TurnClocks_latest]
      (refine hk.ret ?_; clear hk K; try simp only [dx_ok])
      exact kk
    · rw [if_neg hc] at kk
      rw [show decide (lost = none ∧ player = now) = false by simpa using hc]
      simp only [does_ok, does_no, does_noX, does_bind, does_some, does_none, does_ofS, does_ofSif, does_oif, does_omap, does_if, nxt_nx, nxt_ret, nxt_brk, nxt_ct, turn_nx, turn_ret, turn_brk, turn_ct, if_no, exS, evE, evEs, evO, evC, evI, asgL, asgLs, asgT, asgTs, setPar, truR, appD, ownB, twos, scr_len, o_addII, o_addIB, o_addTT, o_addLL, o_addSS, o_subII, o_mulII, o_divII, o_modII, o_powII, q_ltII, q_leII, q_gtII, q_geII, q_isN, q_notN, isNone_n, isNone_i, isNone_b, isNone_s, isNone_t, isNone_l, q_isB, q_notB, q_eq, q_ne, eqC_i, eqC_n, eqC_b, eqC_s, eqC_t, eqC_l, unref_i, unref_n, unref_b, unref_s, unref_t, unref_l, eq_II, eq_SS, eq_BB, eq_NN, eq_NI, eq_IN, t_none, t_bool, t_int, k_abs, k_intI, k_intB, k_lenL, k_lenT, k_tupL, k_tupT, k_lstL, k_lstT, k_max2, k_min2, r_2, u_II, u_add, u_sub, l_list, s_list, s_tup, i_list, i_tup, smallI_eq, List.getElem?_cons_zero, List.getElem?_cons_succ, List.set_cons_zero, List.set_cons_succ, Option.map_some, Option.map_none, Option.bind_some, Option.isSome_some, if_true, if_false, Bool.and_eq_true, Bool.not_true, Bool.not_false, Bool.false_eq_true, decide_true, decide_false, decide_eq_true_eq, true_and, and_true, false_and, and_false, List.length_cons, List.length_nil, List.length_map, List.map_cons, List.map_nil, List.all_cons, List.all_nil, does_alloc, objN_ref, ix_last, set_last, set_lastM, isE_app, List.map_append, isNone_oi, eqC_oi, eq_oi, get_l, get_t, at_0, at_1, at_2, at_3, at_4, at_last, unref_ref, eqC_refL, dicOf_ref, seqOf_ref, lstOf_ref, iterOf_ref, getD_ref, putD_ref, fldD_ref, clsOf_ref, tru_ref, k_tupR, k_lstR, k_sumR, k_sumL, okKey_str, keyT_str, dput_def, fk_str, fk_int, mergeD_nil, mergeD_cons, ffind_nil, ffind_cons, fput_nil, fput_cons, ofString_inj, dfind_nil, dfind_cons, eqv_str, str_beq, twos, appD, ownB, String.reduceEq, Nat.reduceAdd, Nat.reduceLT, Nat.reduceLeDiff, Int.reduceLT, Int.reduceLE, Int.reduceNeg, Nat.reduceSub, Nat.zero_add, asgL, asgLs, List.any_cons, List.any_nil, List.cons_append, List.nil_append, List.replicate, List.reduceReplicate, Nat.sub_self, Option.isSome_none, Bool.or_false, Bool.or_true, Bool.false_or, Bool.true_or, beq_self_eq_true, reduceCtorEq, Bool.and_true, Bool.true_and, dx_ok, dx_no, dx_ex, dx_bind, dx_noX, dx_if, dx_some, does_try, dx_try, evX, evXs, exH, hS, hr, at_int h0 h1, A_TurnClocks_left_TurnClocks_rest, A_TurnClocks_left_TurnClocks_latest]
      (refine hk.ret ?_; clear hk K; try simp only [dx_ok])
      exact kk
theorem left_does (hS : S[n]? = some (tcO more r now latest lost)) (hr : S[r]? = some (lstO rows)) (h0 : 0 ≤ player) (h1 : player < rows.length) (ht : latest ≤ time)
    (k : P (.int (rows.getD player.toNat 0 - runI lost now latest player time)) S) : Does (r_TurnClocks_left [ref n, .int player, .int time] S) P :=
  Dx.does (left_dx hS hr h0 h1 (fun h => by omega) fun _ => k)
def restI (rows : List Int) (now latest time : Int) : Int := rows.getD now.toNat 0 - (time - latest)
def outL (rows : List Int) (now latest time : Int) : Bool := decide (restI rows now latest time ≤ 0)
def rowsM (rows : List Int) (now latest time more : Int) : List Int := rows.set now.toNat (if outL rows now latest time then restI rows now latest time else restI rows now latest time + more)
def nowM (rows : List Int) (now latest time : Int) : Int := if outL rows now latest time then now else (now + 1) % rows.length
def toldM (rows : List Int) (now latest time more : Int) : Option Int := if outL rows now latest time then none else some (restI rows now latest time + more)
theorem move_dx (hS : S[n]? = some (tcO more r now latest lost)) (hr : S[r]? = some (lstO rows)) (h0 : 0 ≤ now) (h1 : now < rows.length) (hnr : n ≠ r)
    (k0 : time < latest → E tmX S) (kl : latest ≤ time → lost ≠ none → P .none S)
    (k1 : latest ≤ time → lost = none → P (oi (toldM rows now latest time more)) ((S.set n (tcO more r (nowM rows now latest time) time (if outL rows now latest time then some now else none))).set r (lstO (rowsM rows now latest time more)))) :
    Dx (r_TurnClocks_move [ref n, .int time] S) P E := by
  rw [R_TurnClocks_move]
  unfold runDef b_TurnClocks_move
  have hS' := hS
  have hr' := hr
  unfold tcO at hS
  unfold lstO at hr
  simp only [does_ok, does_no, does_noX, does_bind, does_some, does_none, does_ofS, does_ofSif, does_oif, does_omap, does_if, nxt_nx, nxt_ret, nxt_brk, nxt_ct, turn_nx, turn_ret, turn_brk, turn_ct, if_no, exS, evE, evEs, evO, evC, evI, asgL, asgLs, asgT, asgTs, setPar, truR, appD, ownB, twos, scr_len, o_addII, o_addIB, o_addTT, o_addLL, o_addSS, o_subII, o_mulII, o_divII, o_modII, o_powII, q_ltII, q_leII, q_gtII, q_geII, q_isN, q_notN, isNone_n, isNone_i, isNone_b, isNone_s, isNone_t, isNone_l, q_isB, q_notB, q_eq, q_ne, eqC_i, eqC_n, eqC_b, eqC_s, eqC_t, eqC_l, unref_i, unref_n, unref_b, unref_s, unref_t, unref_l, eq_II, eq_SS, eq_BB, eq_NN, eq_NI, eq_IN, t_none, t_bool, t_int, k_abs, k_intI, k_intB, k_lenL, k_lenT, k_tupL, k_tupT, k_lstL, k_lstT, k_max2, k_min2, r_2, u_II, u_add, u_sub, l_list, s_list, s_tup, i_list, i_tup, smallI_eq, List.getElem?_cons_zero, List.getElem?_cons_succ, List.set_cons_zero, List.set_cons_succ, Option.map_some, Option.map_none, Option.bind_some, Option.isSome_some, if_true, if_false, Bool.and_eq_true, Bool.not_true, Bool.not_false, Bool.false_eq_true, decide_true, decide_false, decide_eq_true_eq, true_and, and_true, false_and, and_false, List.length_cons, List.length_nil, List.length_map, List.map_cons, List.map_nil, List.all_cons, List.all_nil, does_alloc, objN_ref, ix_last, set_last, set_lastM, isE_app, List.map_append, isNone_oi, eqC_oi, eq_oi, get_l, get_t, at_0, at_1, at_2, at_3, at_4, at_last, unref_ref, eqC_refL, dicOf_ref, seqOf_ref, lstOf_ref, iterOf_ref, getD_ref, putD_ref, fldD_ref, clsOf_ref, tru_ref, k_tupR, k_lstR, k_sumR, k_sumL, okKey_str, keyT_str, dput_def, fk_str, fk_int, mergeD_nil, mergeD_cons, ffind_nil, ffind_cons, fput_nil, fput_cons, ofString_inj, dfind_nil, dfind_cons, eqv_str, str_beq, twos, appD, ownB, String.reduceEq, Nat.reduceAdd, Nat.reduceLT, Nat.reduceLeDiff, Int.reduceLT, Int.reduceLE, Int.reduceNeg, Nat.reduceSub, Nat.zero_add, asgL, asgLs, List.any_cons, List.any_nil, List.cons_append, List.nil_append, List.replicate, List.reduceReplicate, Nat.sub_self, Option.isSome_none, Bool.or_false, Bool.or_true, Bool.false_or, Bool.true_or, beq_self_eq_true, reduceCtorEq, Bool.and_true, Bool.true_and, dx_ok, dx_no, dx_ex, dx_bind, dx_noX, dx_if, dx_some, does_try, dx_try, evX, evXs, exH, hS, A_TurnClocks_move_TurnClocks_latest]
  refine stepX fun K hk => ?_
  simp only [does_ok, does_no, does_noX, does_bind, does_some, does_none, does_ofS, does_ofSif, does_oif, does_omap, does_if, nxt_nx, nxt_ret, nxt_brk, nxt_ct, turn_nx, turn_ret, turn_brk, turn_ct, if_no, exS, evE, evEs, evO, evC, evI, asgL, asgLs, asgT, asgTs, setPar, truR, appD, ownB, twos, scr_len, o_addII, o_addIB, o_addTT, o_addLL, o_addSS, o_subII, o_mulII, o_divII, o_modII, o_powII, q_ltII, q_leII, q_gtII, q_geII, q_isN, q_notN, isNone_n, isNone_i, isNone_b, isNone_s, isNone_t, isNone_l, q_isB, q_notB, q_eq, q_ne, eqC_i, eqC_n, eqC_b, eqC_s, eqC_t, eqC_l, unref_i, unref_n, unref_b, unref_s, unref_t, unref_l, eq_II, eq_SS, eq_BB, eq_NN, eq_NI, eq_IN, t_none, t_bool, t_int, k_abs, k_intI, k_intB, k_lenL, k_lenT, k_tupL, k_tupT, k_lstL, k_lstT, k_max2, k_min2, r_2, u_II, u_add, u_sub, l_list, s_list, s_tup, i_list, i_tup, smallI_eq, List.getElem?_cons_zero, List.getElem?_cons_succ, List.set_cons_zero, List.set_cons_succ, Option.map_some, Option.map_none, Option.bind_some, Option.isSome_some, if_true, if_false, Bool.and_eq_true, Bool.not_true, Bool.not_false, Bool.false_eq_true, decide_true, decide_false, decide_eq_true_eq, true_and, and_true, false_and, and_false, List.length_cons, List.length_nil, List.length_map, List.map_cons, List.map_nil, List.all_cons, List.all_nil, does_alloc, objN_ref, ix_last, set_last, set_lastM, isE_app, List.map_append, isNone_oi, eqC_oi, eq_oi, get_l, get_t, at_0, at_1, at_2, at_3, at_4, at_last, unref_ref, eqC_refL, dicOf_ref, seqOf_ref, lstOf_ref, iterOf_ref, getD_ref, putD_ref, fldD_ref, clsOf_ref, tru_ref, k_tupR, k_lstR, k_sumR, k_sumL, okKey_str, keyT_str, dput_def, fk_str, fk_int, mergeD_nil, mergeD_cons, ffind_nil, ffind_cons, fput_nil, fput_cons, ofString_inj, dfind_nil, dfind_cons, eqv_str, str_beq, twos, appD, ownB, String.reduceEq, Nat.reduceAdd, Nat.reduceLT, Nat.reduceLeDiff, Int.reduceLT, Int.reduceLE, Int.reduceNeg, Nat.reduceSub, Nat.zero_add, asgL, asgLs, List.any_cons, List.any_nil, List.cons_append, List.nil_append, List.replicate, List.reduceReplicate, Nat.sub_self, Option.isSome_none, Bool.or_false, Bool.or_true, Bool.false_or, Bool.true_or, beq_self_eq_true, reduceCtorEq, Bool.and_true, Bool.true_and, dx_ok, dx_no, dx_ex, dx_bind, dx_noX, dx_if, dx_some, does_try, dx_try, evX, evXs, exH, hS, A_TurnClocks_move_TurnClocks_latest]
  by_cases h : time < latest
  · simp only [does_ok, does_no, does_noX, does_bind, does_some, does_none, does_ofS, does_ofSif, does_oif, does_omap, does_if, nxt_nx, nxt_ret, nxt_brk, nxt_ct, turn_nx, turn_ret, turn_brk, turn_ct, if_no, exS, evE, evEs, evO, evC, evI, asgL, asgLs, asgT, asgTs, setPar, truR, appD, ownB, twos, scr_len, o_addII, o_addIB, o_addTT, o_addLL, o_addSS, o_subII, o_mulII, o_divII, o_modII, o_powII, q_ltII, q_leII, q_gtII, q_geII, q_isN, q_notN, isNone_n, isNone_i, isNone_b, isNone_s, isNone_t, isNone_l, q_isB, q_notB, q_eq, q_ne, eqC_i, eqC_n, eqC_b, eqC_s, eqC_t, eqC_l, unref_i, unref_n, unref_b, unref_s, unref_t, unref_l, eq_II, eq_SS, eq_BB, eq_NN, eq_NI, eq_IN, t_none, t_bool, t_int, k_abs, k_intI, k_intB, k_lenL, k_lenT, k_tupL, k_tupT, k_lstL, k_lstT, k_max2, k_min2, r_2, u_II, u_add, u_sub, l_list, s_list, s_tup, i_list, i_tup, smallI_eq, List.getElem?_cons_zero, List.getElem?_cons_succ, List.set_cons_zero, List.set_cons_succ, Option.map_some, Option.map_none, Option.bind_some, Option.isSome_some, if_true, if_false, Bool.and_eq_true, Bool.not_true, Bool.not_false, Bool.false_eq_true, decide_true, decide_false, decide_eq_true_eq, true_and, and_true, false_and, and_false, List.length_cons, List.length_nil, List.length_map, List.map_cons, List.map_nil, List.all_cons, List.all_nil, does_alloc, objN_ref, ix_last, set_last, set_lastM, isE_app, List.map_append, isNone_oi, eqC_oi, eq_oi, get_l, get_t, at_0, at_1, at_2, at_3, at_4, at_last, unref_ref, eqC_refL, dicOf_ref, seqOf_ref, lstOf_ref, iterOf_ref, getD_ref, putD_ref, fldD_ref, clsOf_ref, tru_ref, k_tupR, k_lstR, k_sumR, k_sumL, okKey_str, keyT_str, dput_def, fk_str, fk_int, mergeD_nil, mergeD_cons, ffind_nil, ffind_cons, fput_nil, fput_cons, ofString_inj, dfind_nil, dfind_cons, eqv_str, str_beq, twos, appD, ownB, String.reduceEq, Nat.reduceAdd, Nat.reduceLT, Nat.reduceLeDiff, Int.reduceLT, Int.reduceLE, Int.reduceNeg, Nat.reduceSub, Nat.zero_add, asgL, asgLs, List.any_cons, List.any_nil, List.cons_append, List.nil_append, List.replicate, List.reduceReplicate, Nat.sub_self, Option.isSome_none, Bool.or_false, Bool.or_true, Bool.false_or, Bool.true_or, beq_self_eq_true, reduceCtorEq, Bool.and_true, Bool.true_and, dx_ok, dx_no, dx_ex, dx_bind, dx_noX, dx_if, dx_some, does_try, dx_try, evX, evXs, exH, h, X_TurnClocks_move_NoDay, xOk]
    refine stepX fun K hk => ?_
    simp only [does_ok, does_no, does_noX, does_bind, does_some, does_none, does_ofS, does_ofSif, does_oif, does_omap, does_if, nxt_nx, nxt_ret, nxt_brk, nxt_ct, turn_nx, turn_ret, turn_brk, turn_ct, if_no, exS, evE, evEs, evO, evC, evI, asgL, asgLs, asgT, asgTs, setPar, truR, appD, ownB, twos, scr_len, o_addII, o_addIB, o_addTT, o_addLL, o_addSS, o_subII, o_mulII, o_divII, o_modII, o_powII, q_ltII, q_leII, q_gtII, q_geII, q_isN, q_notN, isNone_n, isNone_i, isNone_b, isNone_s, isNone_t, isNone_l, q_isB, q_notB, q_eq, q_ne, eqC_i, eqC_n, eqC_b, eqC_s, eqC_t, eqC_l, unref_i, unref_n, unref_b, unref_s, unref_t, unref_l, eq_II, eq_SS, eq_BB, eq_NN, eq_NI, eq_IN, t_none, t_bool, t_int, k_abs, k_intI, k_intB, k_lenL, k_lenT, k_tupL, k_tupT, k_lstL, k_lstT, k_max2, k_min2, r_2, u_II, u_add, u_sub, l_list, s_list, s_tup, i_list, i_tup, smallI_eq, List.getElem?_cons_zero, List.getElem?_cons_succ, List.set_cons_zero, List.set_cons_succ, Option.map_some, Option.map_none, Option.bind_some, Option.isSome_some, if_true, if_false, Bool.and_eq_true, Bool.not_true, Bool.not_false, Bool.false_eq_true, decide_true, decide_false, decide_eq_true_eq, true_and, and_true, false_and, and_false, List.length_cons, List.length_nil, List.length_map, List.map_cons, List.map_nil, List.all_cons, List.all_nil, does_alloc, objN_ref, ix_last, set_last, set_lastM, isE_app, List.map_append, isNone_oi, eqC_oi, eq_oi, get_l, get_t, at_0, at_1, at_2, at_3, at_4, at_last, unref_ref, eqC_refL, dicOf_ref, seqOf_ref, lstOf_ref, iterOf_ref, getD_ref, putD_ref, fldD_ref, clsOf_ref, tru_ref, k_tupR, k_lstR, k_sumR, k_sumL, okKey_str, keyT_str, dput_def, fk_str, fk_int, mergeD_nil, mergeD_cons, ffind_nil, ffind_cons, fput_nil, fput_cons, ofString_inj, dfind_nil, dfind_cons, eqv_str, str_beq, twos, appD, ownB, String.reduceEq, Nat.reduceAdd, Nat.reduceLT, Nat.reduceLeDiff, Int.reduceLT, Int.reduceLE, Int.reduceNeg, Nat.reduceSub, Nat.zero_add, asgL, asgLs, List.any_cons, List.any_nil, List.cons_append, List.nil_append, List.replicate, List.reduceReplicate, Nat.sub_self, Option.isSome_none, Bool.or_false, Bool.or_true, Bool.false_or, Bool.true_or, beq_self_eq_true, reduceCtorEq, Bool.and_true, Bool.true_and, dx_ok, dx_no, dx_ex, dx_bind, dx_noX, dx_if, dx_some, does_try, dx_try, evX, evXs, exH, X_TurnClocks_move_NoDay, xOk]
    exact ⟨by decide, k0 h⟩
  · simp only [h, if_false, dx_nil, does_ok, does_no, does_noX, does_bind, does_some, does_none, does_ofS, does_ofSif, does_oif, does_omap, does_if, nxt_nx, nxt_ret, nxt_brk, nxt_ct, turn_nx, turn_ret, turn_brk, turn_ct, if_no, exS, evE, evEs, evO, evC, evI, asgL, asgLs, asgT, asgTs, setPar, truR, appD, ownB, twos, scr_len, o_addII, o_addIB, o_addTT, o_addLL, o_addSS, o_subII, o_mulII, o_divII, o_modII, o_powII, q_ltII, q_leII, q_gtII, q_geII, q_isN, q_notN, isNone_n, isNone_i, isNone_b, isNone_s, isNone_t, isNone_l, q_isB, q_notB, q_eq, q_ne, eqC_i, eqC_n, eqC_b, eqC_s, eqC_t, eqC_l, unref_i, unref_n, unref_b, unref_s, unref_t, unref_l, eq_II, eq_SS, eq_BB, eq_NN, eq_NI, eq_IN, t_none, t_bool, t_int, k_abs, k_intI, k_intB, k_lenL, k_lenT, k_tupL, k_tupT, k_lstL, k_lstT, k_max2, k_min2, r_2, u_II, u_add, u_sub, l_list, s_list, s_tup, i_list, i_tup, smallI_eq, List.getElem?_cons_zero, List.getElem?_cons_succ, List.set_cons_zero, List.set_cons_succ, Option.map_some, Option.map_none, Option.bind_some, Option.isSome_some, if_true, if_false, Bool.and_eq_true, Bool.not_true, Bool.not_false, Bool.false_eq_true, decide_true, decide_false, decide_eq_true_eq, true_and, and_true, false_and, and_false, List.length_cons, List.length_nil, List.length_map, List.map_cons, List.map_nil, List.all_cons, List.all_nil, does_alloc, objN_ref, ix_last, set_last, set_lastM, isE_app, List.map_append, isNone_oi, eqC_oi, eq_oi, get_l, get_t, at_0, at_1, at_2, at_3, at_4, at_last, unref_ref, eqC_refL, dicOf_ref, seqOf_ref, lstOf_ref, iterOf_ref, getD_ref, putD_ref, fldD_ref, clsOf_ref, tru_ref, k_tupR, k_lstR, k_sumR, k_sumL, okKey_str, keyT_str, dput_def, fk_str, fk_int, mergeD_nil, mergeD_cons, ffind_nil, ffind_cons, fput_nil, fput_cons, ofString_inj, dfind_nil, dfind_cons, eqv_str, str_beq, twos, appD, ownB, String.reduceEq, Nat.reduceAdd, Nat.reduceLT, Nat.reduceLeDiff, Int.reduceLT, Int.reduceLE, Int.reduceNeg, Nat.reduceSub, Nat.zero_add, asgL, asgLs, List.any_cons, List.any_nil, List.cons_append, List.nil_append, List.replicate, List.reduceReplicate, Nat.sub_self, Option.isSome_none, Bool.or_false, Bool.or_true, Bool.false_or, Bool.true_or, beq_self_eq_true, reduceCtorEq, Bool.and_true, Bool.true_and, dx_ok, dx_no, dx_ex, dx_bind, dx_noX, dx_if, dx_some, does_try, dx_try, evX, evXs, exH]
    (refine hk.nx ?_; clear hk K; try with_reducible refine dx_nilp ?_)
    refine stepX fun K hk => ?_
    cases lost with
    | some x =>
      simp only [does_ok, does_no, does_noX, does_bind, does_some, does_none, does_ofS, does_ofSif, does_oif, does_omap, does_if, nxt_nx, nxt_ret, nxt_brk, nxt_ct, turn_nx, turn_ret, turn_brk, turn_ct, if_no, exS, evE, evEs, evO, evC, evI, asgL, asgLs, asgT, asgTs, setPar, truR, appD, ownB, twos, scr_len, o_addII, o_addIB, o_addTT, o_addLL, o_addSS, o_subII, o_mulII, o_divII, o_modII, o_powII, q_ltII, q_leII, q_gtII, q_geII, q_isN, q_notN, isNone_n, isNone_i, isNone_b, isNone_s, isNone_t, isNone_l, q_isB, q_notB, q_eq, q_ne, eqC_i, eqC_n, eqC_b, eqC_s, eqC_t, eqC_l, unref_i, unref_n, unref_b, unref_s, unref_t, unref_l, eq_II, eq_SS, eq_BB, eq_NN, eq_NI, eq_IN, t_none, t_bool, t_int, k_abs, k_intI, k_intB, k_lenL, k_lenT, k_tupL, k_tupT, k_lstL, k_lstT, k_max2, k_min2, r_2, u_II, u_add, u_sub, l_list, s_list, s_tup, i_list, i_tup, smallI_eq, List.getElem?_cons_zero, List.getElem?_cons_succ, List.set_cons_zero, List.set_cons_succ, Option.map_some, Option.map_none, Option.bind_some, Option.isSome_some, if_true, if_false, Bool.and_eq_true, Bool.not_true, Bool.not_false, Bool.false_eq_true, decide_true, decide_false, decide_eq_true_eq, true_and, and_true, false_and, and_false, List.length_cons, List.length_nil, List.length_map, List.map_cons, List.map_nil, List.all_cons, List.all_nil, does_alloc, objN_ref, ix_last, set_last, set_lastM, isE_app, List.map_append, isNone_oi, eqC_oi, eq_oi, get_l, get_t, at_0, at_1, at_2, at_3, at_4, at_last, unref_ref, eqC_refL, dicOf_ref, seqOf_ref, lstOf_ref, iterOf_ref, getD_ref, putD_ref, fldD_ref, clsOf_ref, tru_ref, k_tupR, k_lstR, k_sumR, k_sumL, okKey_str, keyT_str, dput_def, fk_str, fk_int, mergeD_nil, mergeD_cons, ffind_nil, ffind_cons, fput_nil, fput_cons, ofString_inj, dfind_nil, dfind_cons, eqv_str, str_beq, twos, appD, ownB, String.reduceEq, Nat.reduceAdd, Nat.reduceLT, Nat.reduceLeDiff, Int.reduceLT, Int.reduceLE, Int.reduceNeg, Nat.reduceSub, Nat.zero_add, asgL, asgLs, List.any_cons, List.any_nil, List.cons_append, List.nil_append, List.replicate, List.reduceReplicate, Nat.sub_self, Option.isSome_none, Bool.or_false, Bool.or_true, Bool.false_or, Bool.true_or, beq_self_eq_true, reduceCtorEq, Bool.and_true, Bool.true_and, dx_ok, dx_no, dx_ex, dx_bind, dx_noX, dx_if, dx_some, does_try, dx_try, evX, evXs, exH, hS, oi_s, A_TurnClocks_move_TurnClocks_loser]
      refine stepX fun K hk => ?_
      simp only [does_ok, does_no, does_noX, does_bind, does_some, does_none, does_ofS, does_ofSif, does_oif, does_omap, does_if, nxt_nx, nxt_ret, nxt_brk, nxt_ct, turn_nx, turn_ret, turn_brk, turn_ct, if_no, exS, evE, evEs, evO, evC, evI, asgL, asgLs, asgT, asgTs, setPar, truR, appD, ownB, twos, scr_len, o_addII, o_addIB, o_addTT, o_addLL, o_addSS, o_subII, o_mulII, o_divII, o_modII, o_powII, q_ltII, q_leII, q_gtII, q_geII, q_isN, q_notN, isNone_n, isNone_i, isNone_b, isNone_s, isNone_t, isNone_l, q_isB, q_notB, q_eq, q_ne, eqC_i, eqC_n, eqC_b, eqC_s, eqC_t, eqC_l, unref_i, unref_n, unref_b, unref_s, unref_t, unref_l, eq_II, eq_SS, eq_BB, eq_NN, eq_NI, eq_IN, t_none, t_bool, t_int, k_abs, k_intI, k_intB, k_lenL, k_lenT, k_tupL, k_tupT, k_lstL, k_lstT, k_max2, k_min2, r_2, u_II, u_add, u_sub, l_list, s_list, s_tup, i_list, i_tup, smallI_eq, List.getElem?_cons_zero, List.getElem?_cons_succ, List.set_cons_zero, List.set_cons_succ, Option.map_some, Option.map_none, Option.bind_some, Option.isSome_some, if_true, if_false, Bool.and_eq_true, Bool.not_true, Bool.not_false, Bool.false_eq_true, decide_true, decide_false, decide_eq_true_eq, true_and, and_true, false_and, and_false, List.length_cons, List.length_nil, List.length_map, List.map_cons, List.map_nil, List.all_cons, List.all_nil, does_alloc, objN_ref, ix_last, set_last, set_lastM, isE_app, List.map_append, isNone_oi, eqC_oi, eq_oi, get_l, get_t, at_0, at_1, at_2, at_3, at_4, at_last, unref_ref, eqC_refL, dicOf_ref, seqOf_ref, lstOf_ref, iterOf_ref, getD_ref, putD_ref, fldD_ref, clsOf_ref, tru_ref, k_tupR, k_lstR, k_sumR, k_sumL, okKey_str, keyT_str, dput_def, fk_str, fk_int, mergeD_nil, mergeD_cons, ffind_nil, ffind_cons, fput_nil, fput_cons, ofString_inj, dfind_nil, dfind_cons, eqv_str, str_beq, twos, appD, ownB, String.reduceEq, Nat.reduceAdd, Nat.reduceLT, Nat.reduceLeDiff, Int.reduceLT, Int.reduceLE, Int.reduceNeg, Nat.reduceSub, Nat.zero_add, asgL, asgLs, List.any_cons, List.any_nil, List.cons_append, List.nil_append, List.replicate, List.reduceReplicate, Nat.sub_self, Option.isSome_none, Bool.or_false, Bool.or_true, Bool.false_or, Bool.true_or, beq_self_eq_true, reduceCtorEq, Bool.and_true, Bool.true_and, dx_ok, dx_no, dx_ex, dx_bind, dx_noX, dx_if, dx_some, does_try, dx_try, evX, evXs, exH]
      (refine hk.ret ?_; clear hk K; try simp only [dx_ok])
      (refine hk.ret ?_; clear hk K; try simp only [dx_ok])
      exact kl (by omega) (by simp)
    | none =>
      simp only [does_ok, does_no, does_noX, does_bind, does_some, does_none, does_ofS, does_ofSif, does_oif, does_omap, does_if, nxt_nx, nxt_ret, nxt_brk, nxt_ct, turn_nx, turn_ret, turn_brk, turn_ct, if_no, exS, evE, evEs, evO, evC, evI, asgL, asgLs, asgT, asgTs, setPar, truR, appD, ownB, twos, scr_len, o_addII, o_addIB, o_addTT, o_addLL, o_addSS, o_subII, o_mulII, o_divII, o_modII, o_powII, q_ltII, q_leII, q_gtII, q_geII, q_isN, q_notN, isNone_n, isNone_i, isNone_b, isNone_s, isNone_t, isNone_l, q_isB, q_notB, q_eq, q_ne, eqC_i, eqC_n, eqC_b, eqC_s, eqC_t, eqC_l, unref_i, unref_n, unref_b, unref_s, unref_t, unref_l, eq_II, eq_SS, eq_BB, eq_NN, eq_NI, eq_IN, t_none, t_bool, t_int, k_abs, k_intI, k_intB, k_lenL, k_lenT, k_tupL, k_tupT, k_lstL, k_lstT, k_max2, k_min2, r_2, u_II, u_add, u_sub, l_list, s_list, s_tup, i_list, i_tup, smallI_eq, List.getElem?_cons_zero, List.getElem?_cons_succ, List.set_cons_zero, List.set_cons_succ, Option.map_some, Option.map_none, Option.bind_some, Option.isSome_some, if_true, if_false, Bool.and_eq_true, Bool.not_true, Bool.not_false, Bool.false_eq_true, decide_true, decide_false, decide_eq_true_eq, true_and, and_true, false_and, and_false, List.length_cons, List.length_nil, List.length_map, List.map_cons, List.map_nil, List.all_cons, List.all_nil, does_alloc, objN_ref, ix_last, set_last, set_lastM, isE_app, List.map_append, isNone_oi, eqC_oi, eq_oi, get_l, get_t, at_0, at_1, at_2, at_3, at_4, at_last, unref_ref, eqC_refL, dicOf_ref, seqOf_ref, lstOf_ref, iterOf_ref, getD_ref, putD_ref, fldD_ref, clsOf_ref, tru_ref, k_tupR, k_lstR, k_sumR, k_sumL, okKey_str, keyT_str, dput_def, fk_str, fk_int, mergeD_nil, mergeD_cons, ffind_nil, ffind_cons, fput_nil, fput_cons, ofString_inj, dfind_nil, dfind_cons, eqv_str, str_beq, twos, appD, ownB, String.reduceEq, Nat.reduceAdd, Nat.reduceLT, Nat.reduceLeDiff, Int.reduceLT, Int.reduceLE, Int.reduceNeg, Nat.reduceSub, Nat.zero_add, asgL, asgLs, List.any_cons, List.any_nil, List.cons_append, List.nil_append, List.replicate, List.reduceReplicate, Nat.sub_self, Option.isSome_none, Bool.or_false, Bool.or_true, Bool.false_or, Bool.true_or, beq_self_eq_true, reduceCtorEq, Bool.and_true, Bool.true_and, dx_ok, dx_no, dx_ex, dx_bind, dx_noX, dx_if, dx_some, does_try, dx_try, evX, evXs, exH, dx_nil, hS, oi_n, A_TurnClocks_move_TurnClocks_loser]
      (refine hk.nx ?_; clear hk K; try with_reducible refine dx_nilp ?_)
      refine stepX fun K hk => ?_
      simp only [does_ok, does_no, does_noX, does_bind, does_some, does_none, does_ofS, does_ofSif, does_oif, does_omap, does_if, nxt_nx, nxt_ret, nxt_brk, nxt_ct, turn_nx, turn_ret, turn_brk, turn_ct, if_no, exS, evE, evEs, evO, evC, evI, asgL, asgLs, asgT, asgTs, setPar, truR, appD, ownB, twos, scr_len, o_addII, o_addIB, o_addTT, o_addLL, o_addSS, o_subII, o_mulII, o_divII, o_modII, o_powII, q_ltII, q_leII, q_gtII, q_geII, q_isN, q_notN, isNone_n, isNone_i, isNone_b, isNone_s, isNone_t, isNone_l, q_isB, q_notB, q_eq, q_ne, eqC_i, eqC_n, eqC_b, eqC_s, eqC_t, eqC_l, unref_i, unref_n, unref_b, unref_s, unref_t, unref_l, eq_II, eq_SS, eq_BB, eq_NN, eq_NI, eq_IN, t_none, t_bool, t_int, k_abs, k_intI, k_intB, k_lenL, k_lenT, k_tupL, k_tupT, k_lstL, k_lstT, k_max2, k_min2, r_2, u_II, u_add, u_sub, l_list, s_list, s_tup, i_list, i_tup, smallI_eq, List.getElem?_cons_zero, List.getElem?_cons_succ, List.set_cons_zero, List.set_cons_succ, Option.map_some, Option.map_none, Option.bind_some, Option.isSome_some, if_true, if_false, Bool.and_eq_true, Bool.not_true, Bool.not_false, Bool.false_eq_true, decide_true, decide_false, decide_eq_true_eq, true_and, and_true, false_and, and_false, List.length_cons, List.length_nil, List.length_map, List.map_cons, List.map_nil, List.all_cons, List.all_nil, does_alloc, objN_ref, ix_last, set_last, set_lastM, isE_app, List.map_append, isNone_oi, eqC_oi, eq_oi, get_l, get_t, at_0, at_1, at_2, at_3, at_4, at_last, unref_ref, eqC_refL, dicOf_ref, seqOf_ref, lstOf_ref, iterOf_ref, getD_ref, putD_ref, fldD_ref, clsOf_ref, tru_ref, k_tupR, k_lstR, k_sumR, k_sumL, okKey_str, keyT_str, dput_def, fk_str, fk_int, mergeD_nil, mergeD_cons, ffind_nil, ffind_cons, fput_nil, fput_cons, ofString_inj, dfind_nil, dfind_cons, eqv_str, str_beq, twos, appD, ownB, String.reduceEq, Nat.reduceAdd, Nat.reduceLT, Nat.reduceLeDiff, Int.reduceLT, Int.reduceLE, Int.reduceNeg, Nat.reduceSub, Nat.zero_add, asgL, asgLs, List.any_cons, List.any_nil, List.cons_append, List.nil_append, List.replicate, List.reduceReplicate, Nat.sub_self, Option.isSome_none, Bool.or_false, Bool.or_true, Bool.false_or, Bool.true_or, beq_self_eq_true, reduceCtorEq, Bool.and_true, Bool.true_and, dx_ok, dx_no, dx_ex, dx_bind, dx_noX, dx_if, dx_some, does_try, dx_try, evX, evXs, exH, hS, L_TurnClocks_move_TurnClocks_left, A_TurnClocks_move_TurnClocks_now]
      refine Does.dx ?_
      refine left_does hS' hr' h0 h1 (by omega) ?_
      have er : runI none now latest now time = time - latest := by simp [runI]
      rw [er]
      (refine hk.nx ?_; clear hk K; try with_reducible refine dx_nilp ?_)
      have kk := k1 (by omega) rfl
      have hl := get_lt hS'
      have hlr := get_lt hr'
      have hnr' : r ≠ n := fun e => hnr e.symm
      have ms : ∀ (j : Nat) (x : Int) (xs : List Int), (xs.map PyData.int).set j (.int x) = (xs.set j x).map .int := fun j x xs => List.map_set.symm
      have ix : ∀ x, ixN (rows.set now.toNat x).length now = some now.toNat := fun x => ix_nat h0 (by rw [List.length_set]; exact h1)
      have ix0 : ixN rows.length now = some now.toNat := ix_nat h0 h1
      have ex : rows.getD now.toNat 0 - (time - latest) = restI rows now latest time := rfl
      rw [ex]
      have hge : ∀ o : SO, (S.set r o)[n]? = S[n]? := fun o => get_set_ne hnr'
      have hgr : ∀ o : SO, (S.set n o)[r]? = S[r]? := fun o => get_set_ne hnr
      refine stepX fun K hk => ?_
      simp only [does_ok, does_no, does_noX, does_bind, does_some, does_none, does_ofS, does_ofSif, does_oif, does_omap, does_if, nxt_nx, nxt_ret, nxt_brk, nxt_ct, turn_nx, turn_ret, turn_brk, turn_ct, if_no, exS, evE, evEs, evO, evC, evI, asgL, asgLs, asgT, asgTs, setPar, truR, appD, ownB, twos, scr_len, o_addII, o_addIB, o_addTT, o_addLL, o_addSS, o_subII, o_mulII, o_divII, o_modII, o_powII, q_ltII, q_leII, q_gtII, q_geII, q_isN, q_notN, isNone_n, isNone_i, isNone_b, isNone_s, isNone_t, isNone_l, q_isB, q_notB, q_eq, q_ne, eqC_i, eqC_n, eqC_b, eqC_s, eqC_t, eqC_l, unref_i, unref_n, unref_b, unref_s, unref_t, unref_l, eq_II, eq_SS, eq_BB, eq_NN, eq_NI, eq_IN, t_none, t_bool, t_int, k_abs, k_intI, k_intB, k_lenL, k_lenT, k_tupL, k_tupT, k_lstL, k_lstT, k_max2, k_min2, r_2, u_II, u_add, u_sub, l_list, s_list, s_tup, i_list, i_tup, smallI_eq, List.getElem?_cons_zero, List.getElem?_cons_succ, List.set_cons_zero, List.set_cons_succ, Option.map_some, Option.map_none, Option.bind_some, Option.isSome_some, if_true, if_false, Bool.and_eq_true, Bool.not_true, Bool.not_false, Bool.false_eq_true, decide_true, decide_false, decide_eq_true_eq, true_and, and_true, false_and, and_false, List.length_cons, List.length_nil, List.length_map, List.map_cons, List.map_nil, List.all_cons, List.all_nil, does_alloc, objN_ref, ix_last, set_last, set_lastM, isE_app, List.map_append, isNone_oi, eqC_oi, eq_oi, get_l, get_t, at_0, at_1, at_2, at_3, at_4, at_last, unref_ref, eqC_refL, dicOf_ref, seqOf_ref, lstOf_ref, iterOf_ref, getD_ref, putD_ref, fldD_ref, clsOf_ref, tru_ref, k_tupR, k_lstR, k_sumR, k_sumL, okKey_str, keyT_str, dput_def, fk_str, fk_int, mergeD_nil, mergeD_cons, ffind_nil, ffind_cons, fput_nil, fput_cons, ofString_inj, dfind_nil, dfind_cons, eqv_str, str_beq, twos, appD, ownB, String.reduceEq, Nat.reduceAdd, Nat.reduceLT, Nat.reduceLeDiff, Int.reduceLT, Int.reduceLE, Int.reduceNeg, Nat.reduceSub, Nat.zero_add, asgL, asgLs, List.any_cons, List.any_nil, List.cons_append, List.nil_append, List.replicate, List.reduceReplicate, Nat.sub_self, Option.isSome_none, Bool.or_false, Bool.or_true, Bool.false_or, Bool.true_or, beq_self_eq_true, reduceCtorEq, Bool.and_true, Bool.true_and, dx_ok, dx_no, dx_ex, dx_bind, dx_noX, dx_if, dx_some, does_try, dx_try, evX, evXs, exH, asgL, hS, hr, ix0, ms, A_TurnClocks_move_TurnClocks_rest, A_TurnClocks_move_TurnClocks_now]
      (refine hk.nx ?_; clear hk K; try with_reducible refine dx_nilp ?_)
      refine stepX fun K hk => ?_
      simp only [does_ok, does_no, does_noX, does_bind, does_some, does_none, does_ofS, does_ofSif, does_oif, does_omap, does_if, nxt_nx, nxt_ret, nxt_brk, nxt_ct, turn_nx, turn_ret, turn_brk, turn_ct, if_no, exS, evE, evEs, evO, evC, evI, asgL, asgLs, asgT, asgTs, setPar, truR, appD, ownB, twos, scr_len, o_addII, o_addIB, o_addTT, o_addLL, o_addSS, o_subII, o_mulII, o_divII, o_modII, o_powII, q_ltII, q_leII, q_gtII, q_geII, q_isN, q_notN, isNone_n, isNone_i, isNone_b, isNone_s, isNone_t, isNone_l, q_isB, q_notB, q_eq, q_ne, eqC_i, eqC_n, eqC_b, eqC_s, eqC_t, eqC_l, unref_i, unref_n, unref_b, unref_s, unref_t, unref_l, eq_II, eq_SS, eq_BB, eq_NN, eq_NI, eq_IN, t_none, t_bool, t_int, k_abs, k_intI, k_intB, k_lenL, k_lenT, k_tupL, k_tupT, k_lstL, k_lstT, k_max2, k_min2, r_2, u_II, u_add, u_sub, l_list, s_list, s_tup, i_list, i_tup, smallI_eq, List.getElem?_cons_zero, List.getElem?_cons_succ, List.set_cons_zero, List.set_cons_succ, Option.map_some, Option.map_none, Option.bind_some, Option.isSome_some, if_true, if_false, Bool.and_eq_true, Bool.not_true, Bool.not_false, Bool.false_eq_true, decide_true, decide_false, decide_eq_true_eq, true_and, and_true, false_and, and_false, List.length_cons, List.length_nil, List.length_map, List.map_cons, List.map_nil, List.all_cons, List.all_nil, does_alloc, objN_ref, ix_last, set_last, set_lastM, isE_app, List.map_append, isNone_oi, eqC_oi, eq_oi, get_l, get_t, at_0, at_1, at_2, at_3, at_4, at_last, unref_ref, eqC_refL, dicOf_ref, seqOf_ref, lstOf_ref, iterOf_ref, getD_ref, putD_ref, fldD_ref, clsOf_ref, tru_ref, k_tupR, k_lstR, k_sumR, k_sumL, okKey_str, keyT_str, dput_def, fk_str, fk_int, mergeD_nil, mergeD_cons, ffind_nil, ffind_cons, fput_nil, fput_cons, ofString_inj, dfind_nil, dfind_cons, eqv_str, str_beq, twos, appD, ownB, String.reduceEq, Nat.reduceAdd, Nat.reduceLT, Nat.reduceLeDiff, Int.reduceLT, Int.reduceLE, Int.reduceNeg, Nat.reduceSub, Nat.zero_add, asgL, asgLs, List.any_cons, List.any_nil, List.cons_append, List.nil_append, List.replicate, List.reduceReplicate, Nat.sub_self, Option.isSome_none, Bool.or_false, Bool.or_true, Bool.false_or, Bool.true_or, beq_self_eq_true, reduceCtorEq, Bool.and_true, Bool.true_and, dx_ok, dx_no, dx_ex, dx_bind, dx_noX, dx_if, dx_some, does_try, dx_try, evX, evXs, exH, asgL, hge, hS, A_TurnClocks_move_TurnClocks_latest]
      (refine hk.nx ?_; clear hk K; try with_reducible refine dx_nilp ?_)
      have c1 : ∀ (a b : SO), ((S.set r a).set n b)[n]? = some b := fun a b => List.getElem?_set_self (by rw [List.length_set]; exact hl)
      have c2 : ∀ (a b : SO), ((S.set r a).set n b)[r]? = some a := fun a b => by rw [get_set_ne hnr, List.getElem?_set_self hlr]
      have c3 : ∀ (a b c : SO), ((S.set r a).set n b).set n c = (S.set r a).set n c := fun a b c => List.set_set _
      have c4 : ∀ (a b c : SO), ((S.set r a).set n b).set r c = (S.set r c).set n b := fun a b c => by rw [List.set_comm _ _ hnr, List.set_set]
      have c5 : ∀ (a b : SO), (S.set r a).set n b = (S.set n b).set r a := fun a b => List.set_comm _ _ hnr'
      refine stepX fun K hk => ?_
      cases ho : outL rows now latest time with
      | true =>
        have hle : restI rows now latest time ≤ 0 := by simpa [outL] using ho
        simp only [does_ok, does_no, does_noX, does_bind, does_some, does_none, does_ofS, does_ofSif, does_oif, does_omap, does_if, nxt_nx, nxt_ret, nxt_brk, nxt_ct, turn_nx, turn_ret, turn_brk, turn_ct, if_no, exS, evE, evEs, evO, evC, evI, asgL, asgLs, asgT, asgTs, setPar, truR, appD, ownB, twos, scr_len, o_addII, o_addIB, o_addTT, o_addLL, o_addSS, o_subII, o_mulII, o_divII, o_modII, o_powII, q_ltII, q_leII, q_gtII, q_geII, q_isN, q_notN, isNone_n, isNone_i, isNone_b, isNone_s, isNone_t, isNone_l, q_isB, q_notB, q_eq, q_ne, eqC_i, eqC_n, eqC_b, eqC_s, eqC_t, eqC_l, unref_i, unref_n, unref_b, unref_s, unref_t, unref_l, eq_II, eq_SS, eq_BB, eq_NN, eq_NI, eq_IN, t_none, t_bool, t_int, k_abs, k_intI, k_intB, k_lenL, k_lenT, k_tupL, k_tupT, k_lstL, k_lstT, k_max2, k_min2, r_2, u_II, u_add, u_sub, l_list, s_list, s_tup, i_list, i_tup, smallI_eq, List.getElem?_cons_zero, List.getElem?_cons_succ, List.set_cons_zero, List.set_cons_succ, Option.map_some, Option.map_none, Option.bind_some, Option.isSome_some, if_true, if_false, Bool.and_eq_true, Bool.not_true, Bool.not_false, Bool.false_eq_true, decide_true, decide_false, decide_eq_true_eq, true_and, and_true, false_and, and_false, List.length_cons, List.length_nil, List.length_map, List.map_cons, List.map_nil, List.all_cons, List.all_nil, does_alloc, objN_ref, ix_last, set_last, set_lastM, isE_app, List.map_append, isNone_oi, eqC_oi, eq_oi, get_l, get_t, at_0, at_1, at_2, at_3, at_4, at_last, unref_ref, eqC_refL, dicOf_ref, seqOf_ref, lstOf_ref, iterOf_ref, getD_ref, putD_ref, fldD_ref, clsOf_ref, tru_ref, k_tupR, k_lstR, k_sumR, k_sumL, okKey_str, keyT_str, dput_def, fk_str, fk_int, mergeD_nil, mergeD_cons, ffind_nil, ffind_cons, fput_nil, fput_cons, ofString_inj, dfind_nil, dfind_cons, eqv_str, str_beq, twos, appD, ownB, String.reduceEq, Nat.reduceAdd, Nat.reduceLT, Nat.reduceLeDiff, Int.reduceLT, Int.reduceLE, Int.reduceNeg, Nat.reduceSub, Nat.zero_add, asgL, asgLs, List.any_cons, List.any_nil, List.cons_append, List.nil_append, List.replicate, List.reduceReplicate, Nat.sub_self, Option.isSome_none, Bool.or_false, Bool.or_true, Bool.false_or, Bool.true_or, beq_self_eq_true, reduceCtorEq, Bool.and_true, Bool.true_and, dx_ok, dx_no, dx_ex, dx_bind, dx_noX, dx_if, dx_some, does_try, dx_try, evX, evXs, exH, hle, c1]
        refine stepX fun K hk => ?_
        simp only [does_ok, does_no, does_noX, does_bind, does_some, does_none, does_ofS, does_ofSif, does_oif, does_omap, does_if, nxt_nx, nxt_ret, nxt_brk, nxt_ct, turn_nx, turn_ret, turn_brk, turn_ct, if_no, exS, evE, evEs, evO, evC, evI, asgL, asgLs, asgT, asgTs, setPar, truR, appD, ownB, twos, scr_len, o_addII, o_addIB, o_addTT, o_addLL, o_addSS, o_subII, o_mulII, o_divII, o_modII, o_powII, q_ltII, q_leII, q_gtII, q_geII, q_isN, q_notN, isNone_n, isNone_i, isNone_b, isNone_s, isNone_t, isNone_l, q_isB, q_notB, q_eq, q_ne, eqC_i, eqC_n, eqC_b, eqC_s, eqC_t, eqC_l, unref_i, unref_n, unref_b, unref_s, unref_t, unref_l, eq_II, eq_SS, eq_BB, eq_NN, eq_NI, eq_IN, t_none, t_bool, t_int, k_abs, k_intI, k_intB, k_lenL, k_lenT, k_tupL, k_tupT, k_lstL, k_lstT, k_max2, k_min2, r_2, u_II, u_add, u_sub, l_list, s_list, s_tup, i_list, i_tup, smallI_eq, List.getElem?_cons_zero, List.getElem?_cons_succ, List.set_cons_zero, List.set_cons_succ, Option.map_some, Option.map_none, Option.bind_some, Option.isSome_some, if_true, if_false, Bool.and_eq_true, Bool.not_true, Bool.not_false, Bool.false_eq_true, decide_true, decide_false, decide_eq_true_eq, true_and, and_true, false_and, and_false, List.length_cons, List.length_nil, List.length_map, List.map_cons, List.map_nil, List.all_cons, List.all_nil, does_alloc, objN_ref, ix_last, set_last, set_lastM, isE_app, List.map_append, isNone_oi, eqC_oi, eq_oi, get_l, get_t, at_0, at_1, at_2, at_3, at_4, at_last, unref_ref, eqC_refL, dicOf_ref, seqOf_ref, lstOf_ref, iterOf_ref, getD_ref, putD_ref, fldD_ref, clsOf_ref, tru_ref, k_tupR, k_lstR, k_sumR, k_sumL, okKey_str, keyT_str, dput_def, fk_str, fk_int, mergeD_nil, mergeD_cons, ffind_nil, ffind_cons, fput_nil, fput_cons, ofString_inj, dfind_nil, dfind_cons, eqv_str, str_beq, twos, appD, ownB, String.reduceEq, Nat.reduceAdd, Nat.reduceLT, Nat.reduceLeDiff, Int.reduceLT, Int.reduceLE, Int.reduceNeg, Nat.reduceSub, Nat.zero_add, asgL, asgLs, List.any_cons, List.any_nil, List.cons_append, List.nil_append, List.replicate, List.reduceReplicate, Nat.sub_self, Option.isSome_none, Bool.or_false, Bool.or_true, Bool.false_or, Bool.true_or, beq_self_eq_true, reduceCtorEq, Bool.and_true, Bool.true_and, dx_ok, dx_no, dx_ex, dx_bind, dx_noX, dx_if, dx_some, does_try, dx_try, evX, evXs, exH, asgL, c1, c3, A_TurnClocks_move_TurnClocks_loser, A_TurnClocks_move_TurnClocks_now]
        (refine hk.nx ?_; clear hk K; try with_reducible refine dx_nilp ?_)
        refine stepX fun K hk => ?_
        simp only [does_ok, does_no, does_noX, does_bind, does_some, does_none, does_ofS, does_ofSif, does_oif, does_omap, does_if, nxt_nx, nxt_ret, nxt_brk, nxt_ct, turn_nx, turn_ret, turn_brk, turn_ct, if_no, exS, evE, evEs, evO, evC, evI, asgL, asgLs, asgT, asgTs, setPar, truR, appD, ownB, twos, scr_len, o_addII, o_addIB, o_addTT, o_addLL, o_addSS, o_subII, o_mulII, o_divII, o_modII, o_powII, q_ltII, q_leII, q_gtII, q_geII, q_isN, q_notN, isNone_n, isNone_i, isNone_b, isNone_s, isNone_t, isNone_l, q_isB, q_notB, q_eq, q_ne, eqC_i, eqC_n, eqC_b, eqC_s, eqC_t, eqC_l, unref_i, unref_n, unref_b, unref_s, unref_t, unref_l, eq_II, eq_SS, eq_BB, eq_NN, eq_NI, eq_IN, t_none, t_bool, t_int, k_abs, k_intI, k_intB, k_lenL, k_lenT, k_tupL, k_tupT, k_lstL, k_lstT, k_max2, k_min2, r_2, u_II, u_add, u_sub, l_list, s_list, s_tup, i_list, i_tup, smallI_eq, List.getElem?_cons_zero, List.getElem?_cons_succ, List.set_cons_zero, List.set_cons_succ, Option.map_some, Option.map_none, Option.bind_some, Option.isSome_some, if_true, if_false, Bool.and_eq_true, Bool.not_true, Bool.not_false, Bool.false_eq_true, decide_true, decide_false, decide_eq_true_eq, true_and, and_true, false_and, and_false, List.length_cons, List.length_nil, List.length_map, List.map_cons, List.map_nil, List.all_cons, List.all_nil, does_alloc, objN_ref, ix_last, set_last, set_lastM, isE_app, List.map_append, isNone_oi, eqC_oi, eq_oi, get_l, get_t, at_0, at_1, at_2, at_3, at_4, at_last, unref_ref, eqC_refL, dicOf_ref, seqOf_ref, lstOf_ref, iterOf_ref, getD_ref, putD_ref, fldD_ref, clsOf_ref, tru_ref, k_tupR, k_lstR, k_sumR, k_sumL, okKey_str, keyT_str, dput_def, fk_str, fk_int, mergeD_nil, mergeD_cons, ffind_nil, ffind_cons, fput_nil, fput_cons, ofString_inj, dfind_nil, dfind_cons, eqv_str, str_beq, twos, appD, ownB, String.reduceEq, Nat.reduceAdd, Nat.reduceLT, Nat.reduceLeDiff, Int.reduceLT, Int.reduceLE, Int.reduceNeg, Nat.reduceSub, Nat.zero_add, asgL, asgLs, List.any_cons, List.any_nil, List.cons_append, List.nil_append, List.replicate, List.reduceReplicate, Nat.sub_self, Option.isSome_none, Bool.or_false, Bool.or_true, Bool.false_or, Bool.true_or, beq_self_eq_true, reduceCtorEq, Bool.and_true, Bool.true_and, dx_ok, dx_no, dx_ex, dx_bind, dx_noX, dx_if, dx_some, does_try, dx_try, evX, evXs, exH]
        (refine hk.ret ?_; clear hk K; try simp only [dx_ok])
        (refine hk.ret ?_; clear hk K; try simp only [dx_ok])
        rw [c5]
        simp only [toldM, nowM, rowsM, ho, if_true] at kk
        exact kk
      | false =>
        have hle : ¬ restI rows now latest time ≤ 0 := by simpa [outL] using ho
        simp only [does_ok, does_no, does_noX, does_bind, does_some, does_none, does_ofS, does_ofSif, does_oif, does_omap, does_if, nxt_nx, nxt_ret, nxt_brk, nxt_ct, turn_nx, turn_ret, turn_brk, turn_ct, if_no, exS, evE, evEs, evO, evC, evI, asgL, asgLs, asgT, asgTs, setPar, truR, appD, ownB, twos, scr_len, o_addII, o_addIB, o_addTT, o_addLL, o_addSS, o_subII, o_mulII, o_divII, o_modII, o_powII, q_ltII, q_leII, q_gtII, q_geII, q_isN, q_notN, isNone_n, isNone_i, isNone_b, isNone_s, isNone_t, isNone_l, q_isB, q_notB, q_eq, q_ne, eqC_i, eqC_n, eqC_b, eqC_s, eqC_t, eqC_l, unref_i, unref_n, unref_b, unref_s, unref_t, unref_l, eq_II, eq_SS, eq_BB, eq_NN, eq_NI, eq_IN, t_none, t_bool, t_int, k_abs, k_intI, k_intB, k_lenL, k_lenT, k_tupL, k_tupT, k_lstL, k_lstT, k_max2, k_min2, r_2, u_II, u_add, u_sub, l_list, s_list, s_tup, i_list, i_tup, smallI_eq, List.getElem?_cons_zero, List.getElem?_cons_succ, List.set_cons_zero, List.set_cons_succ, Option.map_some, Option.map_none, Option.bind_some, Option.isSome_some, if_true, if_false, Bool.and_eq_true, Bool.not_true, Bool.not_false, Bool.false_eq_true, decide_true, decide_false, decide_eq_true_eq, true_and, and_true, false_and, and_false, List.length_cons, List.length_nil, List.length_map, List.map_cons, List.map_nil, List.all_cons, List.all_nil, does_alloc, objN_ref, ix_last, set_last, set_lastM, isE_app, List.map_append, isNone_oi, eqC_oi, eq_oi, get_l, get_t, at_0, at_1, at_2, at_3, at_4, at_last, unref_ref, eqC_refL, dicOf_ref, seqOf_ref, lstOf_ref, iterOf_ref, getD_ref, putD_ref, fldD_ref, clsOf_ref, tru_ref, k_tupR, k_lstR, k_sumR, k_sumL, okKey_str, keyT_str, dput_def, fk_str, fk_int, mergeD_nil, mergeD_cons, ffind_nil, ffind_cons, fput_nil, fput_cons, ofString_inj, dfind_nil, dfind_cons, eqv_str, str_beq, twos, appD, ownB, String.reduceEq, Nat.reduceAdd, Nat.reduceLT, Nat.reduceLeDiff, Int.reduceLT, Int.reduceLE, Int.reduceNeg, Nat.reduceSub, Nat.zero_add, asgL, asgLs, List.any_cons, List.any_nil, List.cons_append, List.nil_append, List.replicate, List.reduceReplicate, Nat.sub_self, Option.isSome_none, Bool.or_false, Bool.or_true, Bool.false_or, Bool.true_or, beq_self_eq_true, reduceCtorEq, Bool.and_true, Bool.true_and, dx_ok, dx_no, dx_ex, dx_bind, dx_noX, dx_if, dx_some, does_try, dx_try, evX, evXs, exH, hle, dx_nil]
        (refine hk.nx ?_; clear hk K; try with_reducible refine dx_nilp ?_)
        refine stepX fun K hk => ?_
        simp only [does_ok, does_no, does_noX, does_bind, does_some, does_none, does_ofS, does_ofSif, does_oif, does_omap, does_if, nxt_nx, nxt_ret, nxt_brk, nxt_ct, turn_nx, turn_ret, turn_brk, turn_ct, if_no, exS, evE, evEs, evO, evC, evI, asgL, asgLs, asgT, asgTs, setPar, truR, appD, ownB, twos, scr_len, o_addII, o_addIB, o_addTT, o_addLL, o_addSS, o_subII, o_mulII, o_divII, o_modII, o_powII, q_ltII, q_leII, q_gtII, q_geII, q_isN, q_notN, isNone_n, isNone_i, isNone_b, isNone_s, isNone_t, isNone_l, q_isB, q_notB, q_eq, q_ne, eqC_i, eqC_n, eqC_b, eqC_s, eqC_t, eqC_l, unref_i, unref_n, unref_b, unref_s, unref_t, unref_l, eq_II, eq_SS, eq_BB, eq_NN, eq_NI, eq_IN, t_none, t_bool, t_int, k_abs, k_intI, k_intB, k_lenL, k_lenT, k_tupL, k_tupT, k_lstL, k_lstT, k_max2, k_min2, r_2, u_II, u_add, u_sub, l_list, s_list, s_tup, i_list, i_tup, smallI_eq, List.getElem?_cons_zero, List.getElem?_cons_succ, List.set_cons_zero, List.set_cons_succ, Option.map_some, Option.map_none, Option.bind_some, Option.isSome_some, if_true, if_false, Bool.and_eq_true, Bool.not_true, Bool.not_false, Bool.false_eq_true, decide_true, decide_false, decide_eq_true_eq, true_and, and_true, false_and, and_false, List.length_cons, List.length_nil, List.length_map, List.map_cons, List.map_nil, List.all_cons, List.all_nil, does_alloc, objN_ref, ix_last, set_last, set_lastM, isE_app, List.map_append, isNone_oi, eqC_oi, eq_oi, get_l, get_t, at_0, at_1, at_2, at_3, at_4, at_last, unref_ref, eqC_refL, dicOf_ref, seqOf_ref, lstOf_ref, iterOf_ref, getD_ref, putD_ref, fldD_ref, clsOf_ref, tru_ref, k_tupR, k_lstR, k_sumR, k_sumL, okKey_str, keyT_str, dput_def, fk_str, fk_int, mergeD_nil, mergeD_cons, ffind_nil, ffind_cons, fput_nil, fput_cons, ofString_inj, dfind_nil, dfind_cons, eqv_str, str_beq, twos, appD, ownB, String.reduceEq, Nat.reduceAdd, Nat.reduceLT, Nat.reduceLeDiff, Int.reduceLT, Int.reduceLE, Int.reduceNeg, Nat.reduceSub, Nat.zero_add, asgL, asgLs, List.any_cons, List.any_nil, List.cons_append, List.nil_append, List.replicate, List.reduceReplicate, Nat.sub_self, Option.isSome_none, Bool.or_false, Bool.or_true, Bool.false_or, Bool.true_or, beq_self_eq_true, reduceCtorEq, Bool.and_true, Bool.true_and, dx_ok, dx_no, dx_ex, dx_bind, dx_noX, dx_if, dx_some, does_try, dx_try, evX, evXs, exH, asgL, c1, c2, c4, ix, ms, List.set_set, A_TurnClocks_move_TurnClocks_rest, A_TurnClocks_move_TurnClocks_now, A_TurnClocks_move_TurnClocks_more]
        (refine hk.nx ?_; clear hk K; try with_reducible refine dx_nilp ?_)
        refine stepX fun K hk => ?_
        simp only [does_ok, does_no, does_noX, does_bind, does_some, does_none, does_ofS, does_ofSif, does_oif, does_omap, does_if, nxt_nx, nxt_ret, nxt_brk, nxt_ct, turn_nx, turn_ret, turn_brk, turn_ct, if_no, exS, evE, evEs, evO, evC, evI, asgL, asgLs, asgT, asgTs, setPar, truR, appD, ownB, twos, scr_len, o_addII, o_addIB, o_addTT, o_addLL, o_addSS, o_subII, o_mulII, o_divII, o_modII, o_powII, q_ltII, q_leII, q_gtII, q_geII, q_isN, q_notN, isNone_n, isNone_i, isNone_b, isNone_s, isNone_t, isNone_l, q_isB, q_notB, q_eq, q_ne, eqC_i, eqC_n, eqC_b, eqC_s, eqC_t, eqC_l, unref_i, unref_n, unref_b, unref_s, unref_t, unref_l, eq_II, eq_SS, eq_BB, eq_NN, eq_NI, eq_IN, t_none, t_bool, t_int, k_abs, k_intI, k_intB, k_lenL, k_lenT, k_tupL, k_tupT, k_lstL, k_lstT, k_max2, k_min2, r_2, u_II, u_add, u_sub, l_list, s_list, s_tup, i_list, i_tup, smallI_eq, List.getElem?_cons_zero, List.getElem?_cons_succ, List.set_cons_zero, List.set_cons_succ, Option.map_some, Option.map_none, Option.bind_some, Option.isSome_some, if_true, if_false, Bool.and_eq_true, Bool.not_true, Bool.not_false, Bool.false_eq_true, decide_true, decide_false, decide_eq_true_eq, true_and, and_true, false_and, and_false, List.length_cons, List.length_nil, List.length_map, List.map_cons, List.map_nil, List.all_cons, List.all_nil, does_alloc, objN_ref, ix_last, set_last, set_lastM, isE_app, List.map_append, isNone_oi, eqC_oi, eq_oi, get_l, get_t, at_0, at_1, at_2, at_3, at_4, at_last, unref_ref, eqC_refL, dicOf_ref, seqOf_ref, lstOf_ref, iterOf_ref, getD_ref, putD_ref, fldD_ref, clsOf_ref, tru_ref, k_tupR, k_lstR, k_sumR, k_sumL, okKey_str, keyT_str, dput_def, fk_str, fk_int, mergeD_nil, mergeD_cons, ffind_nil, ffind_cons, fput_nil, fput_cons, ofString_inj, dfind_nil, dfind_cons, eqv_str, str_beq, twos, appD, ownB, String.reduceEq, Nat.reduceAdd, Nat.reduceLT, Nat.reduceLeDiff, Int.reduceLT, Int.reduceLE, Int.reduceNeg, Nat.reduceSub, Nat.zero_add, asgL, asgLs, List.any_cons, List.any_nil, List.cons_append, List.nil_append, List.replicate, List.reduceReplicate, Nat.sub_self, Option.isSome_none, Bool.or_false, Bool.or_true, Bool.false_or, Bool.true_or, beq_self_eq_true, reduceCtorEq, Bool.and_true, Bool.true_and, dx_ok, dx_no, dx_ex, dx_bind, dx_noX, dx_if, dx_some, does_try, dx_try, evX, evXs, exH, asgL, c1, A_TurnClocks_move_TurnClocks_more]
        (refine hk.nx ?_; clear hk K; try with_reducible refine dx_nilp ?_)
        refine stepX fun K hk => ?_
        have hlen : ∀ S : Store, S[r]? = some (SO.lst ((rows.set now.toNat (restI rows now latest time + more)).map .int)) → call1 S .len (ref r) = some (.int rows.length) := fun S h => by
          rw [k_lenR, h]
          simp
        have hpos : (0 : Int) < rows.length := by omega
        simp only [does_ok, does_no, does_noX, does_bind, does_some, does_none, does_ofS, does_ofSif, does_oif, does_omap, does_if, nxt_nx, nxt_ret, nxt_brk, nxt_ct, turn_nx, turn_ret, turn_brk, turn_ct, if_no, exS, evE, evEs, evO, evC, evI, asgL, asgLs, asgT, asgTs, setPar, truR, appD, ownB, twos, scr_len, o_addII, o_addIB, o_addTT, o_addLL, o_addSS, o_subII, o_mulII, o_divII, o_modII, o_powII, q_ltII, q_leII, q_gtII, q_geII, q_isN, q_notN, isNone_n, isNone_i, isNone_b, isNone_s, isNone_t, isNone_l, q_isB, q_notB, q_eq, q_ne, eqC_i, eqC_n, eqC_b, eqC_s, eqC_t, eqC_l, unref_i, unref_n, unref_b, unref_s, unref_t, unref_l, eq_II, eq_SS, eq_BB, eq_NN, eq_NI, eq_IN, t_none, t_bool, t_int, k_abs, k_intI, k_intB, k_lenL, k_lenT, k_tupL, k_tupT, k_lstL, k_lstT, k_max2, k_min2, r_2, u_II, u_add, u_sub, l_list, s_list, s_tup, i_list, i_tup, smallI_eq, List.getElem?_cons_zero, List.getElem?_cons_succ, List.set_cons_zero, List.set_cons_succ, Option.map_some, Option.map_none, Option.bind_some, Option.isSome_some, if_true, if_false, Bool.and_eq_true, Bool.not_true, Bool.not_false, Bool.false_eq_true, decide_true, decide_false, decide_eq_true_eq, true_and, and_true, false_and, and_false, List.length_cons, List.length_nil, List.length_map, List.map_cons, List.map_nil, List.all_cons, List.all_nil, does_alloc, objN_ref, ix_last, set_last, set_lastM, isE_app, List.map_append, isNone_oi, eqC_oi, eq_oi, get_l, get_t, at_0, at_1, at_2, at_3, at_4, at_last, unref_ref, eqC_refL, dicOf_ref, seqOf_ref, lstOf_ref, iterOf_ref, getD_ref, putD_ref, fldD_ref, clsOf_ref, tru_ref, k_tupR, k_lstR, k_sumR, k_sumL, okKey_str, keyT_str, dput_def, fk_str, fk_int, mergeD_nil, mergeD_cons, ffind_nil, ffind_cons, fput_nil, fput_cons, ofString_inj, dfind_nil, dfind_cons, eqv_str, str_beq, twos, appD, ownB, String.reduceEq, Nat.reduceAdd, Nat.reduceLT, Nat.reduceLeDiff, Int.reduceLT, Int.reduceLE, Int.reduceNeg, Nat.reduceSub, Nat.zero_add, asgL, asgLs, List.any_cons, List.any_nil, List.cons_append, List.nil_append, List.replicate, List.reduceReplicate, Nat.sub_self, Option.isSome_none, Bool.or_false, Bool.or_true, Bool.false_or, Bool.true_or, beq_self_eq_true, reduceCtorEq, Bool.and_true, Bool.true_and, dx_ok, dx_no, dx_ex, dx_bind, dx_noX, dx_if, dx_some, does_try, dx_try, evX, evXs, exH, asgL, c1, c2, c3, hlen _ (c2 _ _), hpos, A_TurnClocks_move_TurnClocks_rest, A_TurnClocks_move_TurnClocks_now]
        (refine hk.nx ?_; clear hk K; try with_reducible refine dx_nilp ?_)
        refine stepX fun K hk => ?_
        simp only [does_ok, does_no, does_noX, does_bind, does_some, does_none, does_ofS, does_ofSif, does_oif, does_omap, does_if, nxt_nx, nxt_ret, nxt_brk, nxt_ct, turn_nx, turn_ret, turn_brk, turn_ct, if_no, exS, evE, evEs, evO, evC, evI, asgL, asgLs, asgT, asgTs, setPar, truR, appD, ownB, twos, scr_len, o_addII, o_addIB, o_addTT, o_addLL, o_addSS, o_subII, o_mulII, o_divII, o_modII, o_powII, q_ltII, q_leII, q_gtII, q_geII, q_isN, q_notN, isNone_n, isNone_i, isNone_b, isNone_s, isNone_t, isNone_l, q_isB, q_notB, q_eq, q_ne, eqC_i, eqC_n, eqC_b, eqC_s, eqC_t, eqC_l, unref_i, unref_n, unref_b, unref_s, unref_t, unref_l, eq_II, eq_SS, eq_BB, eq_NN, eq_NI, eq_IN, t_none, t_bool, t_int, k_abs, k_intI, k_intB, k_lenL, k_lenT, k_tupL, k_tupT, k_lstL, k_lstT, k_max2, k_min2, r_2, u_II, u_add, u_sub, l_list, s_list, s_tup, i_list, i_tup, smallI_eq, List.getElem?_cons_zero, List.getElem?_cons_succ, List.set_cons_zero, List.set_cons_succ, Option.map_some, Option.map_none, Option.bind_some, Option.isSome_some, if_true, if_false, Bool.and_eq_true, Bool.not_true, Bool.not_false, Bool.false_eq_true, decide_true, decide_false, decide_eq_true_eq, true_and, and_true, false_and, and_false, List.length_cons, List.length_nil, List.length_map, List.map_cons, List.map_nil, List.all_cons, List.all_nil, does_alloc, objN_ref, ix_last, set_last, set_lastM, isE_app, List.map_append, isNone_oi, eqC_oi, eq_oi, get_l, get_t, at_0, at_1, at_2, at_3, at_4, at_last, unref_ref, eqC_refL, dicOf_ref, seqOf_ref, lstOf_ref, iterOf_ref, getD_ref, putD_ref, fldD_ref, clsOf_ref, tru_ref, k_tupR, k_lstR, k_sumR, k_sumL, okKey_str, keyT_str, dput_def, fk_str, fk_int, mergeD_nil, mergeD_cons, ffind_nil, ffind_cons, fput_nil, fput_cons, ofString_inj, dfind_nil, dfind_cons, eqv_str, str_beq, twos, appD, ownB, String.reduceEq, Nat.reduceAdd, Nat.reduceLT, Nat.reduceLeDiff, Int.reduceLT, Int.reduceLE, Int.reduceNeg, Nat.reduceSub, Nat.zero_add, asgL, asgLs, List.any_cons, List.any_nil, List.cons_append, List.nil_append, List.replicate, List.reduceReplicate, Nat.sub_self, Option.isSome_none, Bool.or_false, Bool.or_true, Bool.false_or, Bool.true_or, beq_self_eq_true, reduceCtorEq, Bool.and_true, Bool.true_and, dx_ok, dx_no, dx_ex, dx_bind, dx_noX, dx_if, dx_some, does_try, dx_try, evX, evXs, exH]
        (refine hk.ret ?_; clear hk K; try simp only [dx_ok])
        rw [c5]
        simp only [toldM, nowM, rowsM, ho, Bool.false_eq_true, if_false] at kk
        exact kk
def backD : D := .list [.str "none", .str "time"]
theorem word_does {K : Fl → Store → Prop} (k : K (.ret backD) S) : Does (exH tb8 tmX S (.word 4 "none" "word" ["DayError", "ValueError"])) K := by
  unfold exH tmX
  simp only [X__law_told_NoDay, Y__law_told_NoDay_DayError, Y__law_told_NoDay_ValueError, does_ok, does_no, does_noX, does_bind, does_some, does_none, does_ofS, does_ofSif, does_oif, does_omap, does_if, does_cons, does_nil, nxt_nx, nxt_ret, nxt_brk, nxt_ct, turn_nx, turn_ret, turn_brk, turn_ct, if_no, exS, evE, evEs, evO, evC, evI, asgL, asgLs, asgT, asgTs, setPar, truR, appD, ownB, twos, scr_len, o_addII, o_addIB, o_addTT, o_addLL, o_addSS, o_subII, o_mulII, o_divII, o_modII, o_powII, q_ltII, q_leII, q_gtII, q_geII, q_isN, q_notN, isNone_n, isNone_i, isNone_b, isNone_s, isNone_t, isNone_l, q_isB, q_notB, q_eq, q_ne, eqC_i, eqC_n, eqC_b, eqC_s, eqC_t, eqC_l, unref_i, unref_n, unref_b, unref_s, unref_t, unref_l, eq_II, eq_SS, eq_BB, eq_NN, eq_NI, eq_IN, t_none, t_bool, t_int, k_abs, k_intI, k_intB, k_lenL, k_lenT, k_tupL, k_tupT, k_lstL, k_lstT, k_max2, k_min2, r_2, u_II, u_add, u_sub, l_list, s_list, s_tup, i_list, i_tup, smallI_eq, List.getElem?_cons_zero, List.getElem?_cons_succ, List.set_cons_zero, List.set_cons_succ, Option.map_some, Option.map_none, Option.bind_some, Option.isSome_some, if_true, if_false, Bool.and_eq_true, Bool.not_true, Bool.not_false, Bool.false_eq_true, decide_true, decide_false, decide_eq_true_eq, true_and, and_true, false_and, and_false, List.length_cons, List.length_nil, List.length_map, List.map_cons, List.map_nil, List.all_cons, List.all_nil, does_alloc, objN_ref, ix_last, set_last, set_lastM, isE_app, List.map_append, isNone_oi, eqC_oi, eq_oi, get_l, get_t, at_0, at_1, at_2, at_3, at_4, at_last, unref_ref, eqC_refL, dicOf_ref, seqOf_ref, lstOf_ref, iterOf_ref, getD_ref, putD_ref, fldD_ref, clsOf_ref, tru_ref, k_tupR, k_lstR, k_sumR, k_sumL, okKey_str, keyT_str, dput_def, fk_str, fk_int, mergeD_nil, mergeD_cons, ffind_nil, ffind_cons, fput_nil, fput_cons, ofString_inj, dfind_nil, dfind_cons, eqv_str, str_beq, twos, appD, ownB, String.reduceEq, Nat.reduceAdd, Nat.reduceLT, Nat.reduceLeDiff, Int.reduceLT, Int.reduceLE, Int.reduceNeg, Nat.reduceSub, Nat.zero_add, asgL, asgLs, List.any_cons, List.any_nil, List.cons_append, List.nil_append, List.replicate, List.reduceReplicate, Nat.sub_self, Option.isSome_none, Bool.or_false, Bool.or_true, Bool.false_or, Bool.true_or, beq_self_eq_true, reduceCtorEq, Bool.and_true, Bool.true_and]
  exact k
theorem told1_does (hS : S[n]? = some (tcO more r now latest lost)) (hr : S[r]? = some (lstO rows)) (h0 : 0 ≤ player) (h1 : player < rows.length)
    (k0 : time < latest → P backD S) (k1 : latest ≤ time → P (.int (rows.getD player.toNat 0 - runI lost now latest player time)) S) : Does (r__law_told [.int 1, ref n, .int player, .int time] S) P := by
  rw [R__law_told]
  unfold runDef b__law_told
  have hS' := hS
  unfold tcO at hS
  try simp only [does_ok, does_no, does_noX, does_bind, does_some, does_none, does_ofS, does_ofSif, does_oif, does_omap, does_if, nxt_nx, nxt_ret, nxt_brk, nxt_ct, turn_nx, turn_ret, turn_brk, turn_ct, if_no, exS, evE, evEs, evO, evC, evI, asgL, asgLs, asgT, asgTs, setPar, truR, appD, ownB, twos, scr_len, o_addII, o_addIB, o_addTT, o_addLL, o_addSS, o_subII, o_mulII, o_divII, o_modII, o_powII, q_ltII, q_leII, q_gtII, q_geII, q_isN, q_notN, isNone_n, isNone_i, isNone_b, isNone_s, isNone_t, isNone_l, q_isB, q_notB, q_eq, q_ne, eqC_i, eqC_n, eqC_b, eqC_s, eqC_t, eqC_l, unref_i, unref_n, unref_b, unref_s, unref_t, unref_l, eq_II, eq_SS, eq_BB, eq_NN, eq_NI, eq_IN, t_none, t_bool, t_int, k_abs, k_intI, k_intB, k_lenL, k_lenT, k_tupL, k_tupT, k_lstL, k_lstT, k_max2, k_min2, r_2, u_II, u_add, u_sub, l_list, s_list, s_tup, i_list, i_tup, smallI_eq, List.getElem?_cons_zero, List.getElem?_cons_succ, List.set_cons_zero, List.set_cons_succ, Option.map_some, Option.map_none, Option.bind_some, Option.isSome_some, if_true, if_false, Bool.and_eq_true, Bool.not_true, Bool.not_false, Bool.false_eq_true, decide_true, decide_false, decide_eq_true_eq, true_and, and_true, false_and, and_false, List.length_cons, List.length_nil, List.length_map, List.map_cons, List.map_nil, List.all_cons, List.all_nil, does_alloc, objN_ref, ix_last, set_last, set_lastM, isE_app, List.map_append, isNone_oi, eqC_oi, eq_oi, get_l, get_t, at_0, at_1, at_2, at_3, at_4, at_last, unref_ref, eqC_refL, dicOf_ref, seqOf_ref, lstOf_ref, iterOf_ref, getD_ref, putD_ref, fldD_ref, clsOf_ref, tru_ref, k_tupR, k_lstR, k_sumR, k_sumL, okKey_str, keyT_str, dput_def, fk_str, fk_int, mergeD_nil, mergeD_cons, ffind_nil, ffind_cons, fput_nil, fput_cons, ofString_inj, dfind_nil, dfind_cons, eqv_str, str_beq, twos, appD, ownB, String.reduceEq, Nat.reduceAdd, Nat.reduceLT, Nat.reduceLeDiff, Int.reduceLT, Int.reduceLE, Int.reduceNeg, Nat.reduceSub, Nat.zero_add, asgL, asgLs, List.any_cons, List.any_nil, List.cons_append, List.nil_append, List.replicate, List.reduceReplicate, Nat.sub_self, Option.isSome_none, Bool.or_false, Bool.or_true, Bool.false_or, Bool.true_or, beq_self_eq_true, reduceCtorEq, Bool.and_true, Bool.true_and]
  refine step fun K hk => ?_
  rw [does_try]
  refine stepX fun K hk => ?_
  simp only [does_ok, does_no, does_noX, does_bind, does_some, does_none, does_ofS, does_ofSif, does_oif, does_omap, does_if, nxt_nx, nxt_ret, nxt_brk, nxt_ct, turn_nx, turn_ret, turn_brk, turn_ct, if_no, exS, evE, evEs, evO, evC, evI, asgL, asgLs, asgT, asgTs, setPar, truR, appD, ownB, twos, scr_len, o_addII, o_addIB, o_addTT, o_addLL, o_addSS, o_subII, o_mulII, o_divII, o_modII, o_powII, q_ltII, q_leII, q_gtII, q_geII, q_isN, q_notN, isNone_n, isNone_i, isNone_b, isNone_s, isNone_t, isNone_l, q_isB, q_notB, q_eq, q_ne, eqC_i, eqC_n, eqC_b, eqC_s, eqC_t, eqC_l, unref_i, unref_n, unref_b, unref_s, unref_t, unref_l, eq_II, eq_SS, eq_BB, eq_NN, eq_NI, eq_IN, t_none, t_bool, t_int, k_abs, k_intI, k_intB, k_lenL, k_lenT, k_tupL, k_tupT, k_lstL, k_lstT, k_max2, k_min2, r_2, u_II, u_add, u_sub, l_list, s_list, s_tup, i_list, i_tup, smallI_eq, List.getElem?_cons_zero, List.getElem?_cons_succ, List.set_cons_zero, List.set_cons_succ, Option.map_some, Option.map_none, Option.bind_some, Option.isSome_some, if_true, if_false, Bool.and_eq_true, Bool.not_true, Bool.not_false, Bool.false_eq_true, decide_true, decide_false, decide_eq_true_eq, true_and, and_true, false_and, and_false, List.length_cons, List.length_nil, List.length_map, List.map_cons, List.map_nil, List.all_cons, List.all_nil, does_alloc, objN_ref, ix_last, set_last, set_lastM, isE_app, List.map_append, isNone_oi, eqC_oi, eq_oi, get_l, get_t, at_0, at_1, at_2, at_3, at_4, at_last, unref_ref, eqC_refL, dicOf_ref, seqOf_ref, lstOf_ref, iterOf_ref, getD_ref, putD_ref, fldD_ref, clsOf_ref, tru_ref, k_tupR, k_lstR, k_sumR, k_sumL, okKey_str, keyT_str, dput_def, fk_str, fk_int, mergeD_nil, mergeD_cons, ffind_nil, ffind_cons, fput_nil, fput_cons, ofString_inj, dfind_nil, dfind_cons, eqv_str, str_beq, twos, appD, ownB, String.reduceEq, Nat.reduceAdd, Nat.reduceLT, Nat.reduceLeDiff, Int.reduceLT, Int.reduceLE, Int.reduceNeg, Nat.reduceSub, Nat.zero_add, asgL, asgLs, List.any_cons, List.any_nil, List.cons_append, List.nil_append, List.replicate, List.reduceReplicate, Nat.sub_self, Option.isSome_none, Bool.or_false, Bool.or_true, Bool.false_or, Bool.true_or, beq_self_eq_true, reduceCtorEq, Bool.and_true, Bool.true_and, dx_ok, dx_no, dx_ex, dx_bind, dx_noX, dx_if, dx_some, does_try, dx_try, evX, evXs, exH, eq_II, L__law_told_TurnClocks_left, L__law_told_TurnClocks_move, hS]
  refine left_dx hS' hr h0 h1 (fun h => ?_) fun h => ?_
  · refine ⟨Y__law_told_NoDay_NoDay, word_does ?_⟩
    clear hk
    (refine hk.ret ?_; clear hk K; try simp only [does_ok])
    exact k0 h
  · (refine hk.ret ?_; clear hk K; try simp only [dx_ok])
    (refine hk.ret ?_; clear hk K; try simp only [does_ok])
    exact k1 h
theorem told0_does (hS : S[n]? = some (tcO more r now latest lost)) (hr : S[r]? = some (lstO rows)) (h0 : 0 ≤ now) (h1 : now < rows.length) (hnr : n ≠ r)
    (k0 : time < latest → P backD S) (kl : latest ≤ time → lost ≠ none → P .none S)
    (k1 : latest ≤ time → lost = none → P (oi (toldM rows now latest time more)) ((S.set n (tcO more r (nowM rows now latest time) time (if outL rows now latest time then some now else none))).set r (lstO (rowsM rows now latest time more)))) : Does (r__law_told [.int 0, ref n, .int player, .int time] S) P := by
  rw [R__law_told]
  unfold runDef b__law_told
  have hS' := hS
  unfold tcO at hS
  try simp only [does_ok, does_no, does_noX, does_bind, does_some, does_none, does_ofS, does_ofSif, does_oif, does_omap, does_if, nxt_nx, nxt_ret, nxt_brk, nxt_ct, turn_nx, turn_ret, turn_brk, turn_ct, if_no, exS, evE, evEs, evO, evC, evI, asgL, asgLs, asgT, asgTs, setPar, truR, appD, ownB, twos, scr_len, o_addII, o_addIB, o_addTT, o_addLL, o_addSS, o_subII, o_mulII, o_divII, o_modII, o_powII, q_ltII, q_leII, q_gtII, q_geII, q_isN, q_notN, isNone_n, isNone_i, isNone_b, isNone_s, isNone_t, isNone_l, q_isB, q_notB, q_eq, q_ne, eqC_i, eqC_n, eqC_b, eqC_s, eqC_t, eqC_l, unref_i, unref_n, unref_b, unref_s, unref_t, unref_l, eq_II, eq_SS, eq_BB, eq_NN, eq_NI, eq_IN, t_none, t_bool, t_int, k_abs, k_intI, k_intB, k_lenL, k_lenT, k_tupL, k_tupT, k_lstL, k_lstT, k_max2, k_min2, r_2, u_II, u_add, u_sub, l_list, s_list, s_tup, i_list, i_tup, smallI_eq, List.getElem?_cons_zero, List.getElem?_cons_succ, List.set_cons_zero, List.set_cons_succ, Option.map_some, Option.map_none, Option.bind_some, Option.isSome_some, if_true, if_false, Bool.and_eq_true, Bool.not_true, Bool.not_false, Bool.false_eq_true, decide_true, decide_false, decide_eq_true_eq, true_and, and_true, false_and, and_false, List.length_cons, List.length_nil, List.length_map, List.map_cons, List.map_nil, List.all_cons, List.all_nil, does_alloc, objN_ref, ix_last, set_last, set_lastM, isE_app, List.map_append, isNone_oi, eqC_oi, eq_oi, get_l, get_t, at_0, at_1, at_2, at_3, at_4, at_last, unref_ref, eqC_refL, dicOf_ref, seqOf_ref, lstOf_ref, iterOf_ref, getD_ref, putD_ref, fldD_ref, clsOf_ref, tru_ref, k_tupR, k_lstR, k_sumR, k_sumL, okKey_str, keyT_str, dput_def, fk_str, fk_int, mergeD_nil, mergeD_cons, ffind_nil, ffind_cons, fput_nil, fput_cons, ofString_inj, dfind_nil, dfind_cons, eqv_str, str_beq, twos, appD, ownB, String.reduceEq, Nat.reduceAdd, Nat.reduceLT, Nat.reduceLeDiff, Int.reduceLT, Int.reduceLE, Int.reduceNeg, Nat.reduceSub, Nat.zero_add, asgL, asgLs, List.any_cons, List.any_nil, List.cons_append, List.nil_append, List.replicate, List.reduceReplicate, Nat.sub_self, Option.isSome_none, Bool.or_false, Bool.or_true, Bool.false_or, Bool.true_or, beq_self_eq_true, reduceCtorEq, Bool.and_true, Bool.true_and]
  refine step fun K hk => ?_
  rw [does_try]
  refine stepX fun K hk => ?_
  simp only [does_ok, does_no, does_noX, does_bind, does_some, does_none, does_ofS, does_ofSif, does_oif, does_omap, does_if, nxt_nx, nxt_ret, nxt_brk, nxt_ct, turn_nx, turn_ret, turn_brk, turn_ct, if_no, exS, evE, evEs, evO, evC, evI, asgL, asgLs, asgT, asgTs, setPar, truR, appD, ownB, twos, scr_len, o_addII, o_addIB, o_addTT, o_addLL, o_addSS, o_subII, o_mulII, o_divII, o_modII, o_powII, q_ltII, q_leII, q_gtII, q_geII, q_isN, q_notN, isNone_n, isNone_i, isNone_b, isNone_s, isNone_t, isNone_l, q_isB, q_notB, q_eq, q_ne, eqC_i, eqC_n, eqC_b, eqC_s, eqC_t, eqC_l, unref_i, unref_n, unref_b, unref_s, unref_t, unref_l, eq_II, eq_SS, eq_BB, eq_NN, eq_NI, eq_IN, t_none, t_bool, t_int, k_abs, k_intI, k_intB, k_lenL, k_lenT, k_tupL, k_tupT, k_lstL, k_lstT, k_max2, k_min2, r_2, u_II, u_add, u_sub, l_list, s_list, s_tup, i_list, i_tup, smallI_eq, List.getElem?_cons_zero, List.getElem?_cons_succ, List.set_cons_zero, List.set_cons_succ, Option.map_some, Option.map_none, Option.bind_some, Option.isSome_some, if_true, if_false, Bool.and_eq_true, Bool.not_true, Bool.not_false, Bool.false_eq_true, decide_true, decide_false, decide_eq_true_eq, true_and, and_true, false_and, and_false, List.length_cons, List.length_nil, List.length_map, List.map_cons, List.map_nil, List.all_cons, List.all_nil, does_alloc, objN_ref, ix_last, set_last, set_lastM, isE_app, List.map_append, isNone_oi, eqC_oi, eq_oi, get_l, get_t, at_0, at_1, at_2, at_3, at_4, at_last, unref_ref, eqC_refL, dicOf_ref, seqOf_ref, lstOf_ref, iterOf_ref, getD_ref, putD_ref, fldD_ref, clsOf_ref, tru_ref, k_tupR, k_lstR, k_sumR, k_sumL, okKey_str, keyT_str, dput_def, fk_str, fk_int, mergeD_nil, mergeD_cons, ffind_nil, ffind_cons, fput_nil, fput_cons, ofString_inj, dfind_nil, dfind_cons, eqv_str, str_beq, twos, appD, ownB, String.reduceEq, Nat.reduceAdd, Nat.reduceLT, Nat.reduceLeDiff, Int.reduceLT, Int.reduceLE, Int.reduceNeg, Nat.reduceSub, Nat.zero_add, asgL, asgLs, List.any_cons, List.any_nil, List.cons_append, List.nil_append, List.replicate, List.reduceReplicate, Nat.sub_self, Option.isSome_none, Bool.or_false, Bool.or_true, Bool.false_or, Bool.true_or, beq_self_eq_true, reduceCtorEq, Bool.and_true, Bool.true_and, dx_ok, dx_no, dx_ex, dx_bind, dx_noX, dx_if, dx_some, does_try, dx_try, evX, evXs, exH, eq_II, L__law_told_TurnClocks_left, L__law_told_TurnClocks_move, hS]
  refine move_dx hS' hr h0 h1 hnr (fun h => ?_) (fun h h' => ?_) fun h h' => ?_
  · refine ⟨Y__law_told_NoDay_NoDay, word_does ?_⟩
    clear hk
    (refine hk.ret ?_; clear hk K; try simp only [does_ok])
    exact k0 h
  · (refine hk.ret ?_; clear hk K; try simp only [dx_ok])
    (refine hk.ret ?_; clear hk K; try simp only [does_ok])
    exact kl h h'
  · (refine hk.ret ?_; clear hk K; try simp only [dx_ok])
    (refine hk.ret ?_; clear hk K; try simp only [does_ok])
    exact k1 h h'
theorem dr_does {ns : List Int} (many : Nat) {m : Int} (e : m = (many : Int)) (hn : ns.length ≤ 63) (hm : many ≤ 1000) (k : ∀ ds : List Int, Draws ds → P (.list (ds.map .int)) S) : Does (r__law_draws [scr (ns.map .int), .int m] S) P := draws_does (Φ := tb5) many e hn hm k
theorem nx_does {n : Nat} {many : Int} (h : WOk S n) (hm : 0 < many) (k : ∀ (v : Int) (o : SO), 0 ≤ v → v < many → WOk (S.set n o) n → P (.int v) (S.set n o)) : Does (r__law_next [ref n, .int many] S) P := next_does (Φ := tb6) h hm k
theorem sm_does {k n : Nat} {d : D} (h : Rg k n d) (hk : k ≤ 64) (hn : n ≤ 60000) (fin : P (.bool true) S) : Does (r__law_same [d, d] S) P := same_run (Φ := tb7) h hk hn fin
def mO (l : Nat) (now latest : Int) (lost : Option Int) : SO := .dic [(.str "left", ref l), (.str "now", .int now), (.str "latest", .int latest), (.str "lost", oi lost)]
theorem eq_back : eqD backD backD = some true := by
  unfold eqD backD
  have h1 : SeqAt.shaped (.list [.str "none", .str "time"]) = true := by decide +kernel
  rw [h1, eqvAll_back]; rfl
where eqvAll_back : PyData.eqv (.list [.str "none", .str "time"]) (.list [.str "none", .str "time"]) = true := by decide +kernel
structure Bds (rows : List Int) (now latest time : Int) (lost : Option Int) : Prop where
  ln : rows.length ≤ 10
  n0 : 0 ≤ now
  n1 : now < rows.length
  l0 : 0 ≤ latest
  lt : latest ≤ time
  t1 : time < 1000000
  rb : ∀ x ∈ rows, -1000000 ≤ x ∧ x ≤ 1000000
  lo : ∀ x, lost = some x → 0 ≤ x ∧ x < rows.length
theorem Bds.get {rows : List Int} {now latest time : Int} {lost : Option Int} (B : Bds rows now latest time lost) (i : Nat) : -1000000 ≤ rows.getD i 0 ∧ rows.getD i 0 ≤ 1000000 := by
  by_cases h : i < rows.length
  · rw [List.getD_eq_getElem?_getD, List.getElem?_eq_getElem h]
    exact B.rb _ (List.getElem_mem h)
  · rw [List.getD_eq_getElem?_getD, List.getElem?_eq_none (by omega)]
    decide
theorem looks_does {l m w : Nat} (hS : S[n]? = some (tcO more r now latest lost)) (hr : S[r]? = some (lstO rows)) (hl : S[l]? = some (lstO rows)) (hm : S[m]? = some (mO l now latest lost)) (hnr : n ≠ r) (B : Bds rows now latest time lost) (k : P (.bool true) S) :
    Does (r__law_looks_right [ref w, ref n, ref m, .int time] S) P := by
  rw [R__law_looks_right]
  unfold runDef b__law_looks_right
  have hS' := hS
  have hr' := hr
  unfold tcO at hS
  unfold lstO at hr hl
  unfold mO at hm
  have hln := B.ln
  have hn1 := B.n1
  have hn0 := B.n0
  try simp only [does_ok, does_no, does_noX, does_bind, does_some, does_none, does_ofS, does_ofSif, does_oif, does_omap, does_if, nxt_nx, nxt_ret, nxt_brk, nxt_ct, turn_nx, turn_ret, turn_brk, turn_ct, if_no, exS, evE, evEs, evO, evC, evI, asgL, asgLs, asgT, asgTs, setPar, truR, appD, ownB, twos, scr_len, o_addII, o_addIB, o_addTT, o_addLL, o_addSS, o_subII, o_mulII, o_divII, o_modII, o_powII, q_ltII, q_leII, q_gtII, q_geII, q_isN, q_notN, isNone_n, isNone_i, isNone_b, isNone_s, isNone_t, isNone_l, q_isB, q_notB, q_eq, q_ne, eqC_i, eqC_n, eqC_b, eqC_s, eqC_t, eqC_l, unref_i, unref_n, unref_b, unref_s, unref_t, unref_l, eq_II, eq_SS, eq_BB, eq_NN, eq_NI, eq_IN, t_none, t_bool, t_int, k_abs, k_intI, k_intB, k_lenL, k_lenT, k_tupL, k_tupT, k_lstL, k_lstT, k_max2, k_min2, r_2, u_II, u_add, u_sub, l_list, s_list, s_tup, i_list, i_tup, smallI_eq, List.getElem?_cons_zero, List.getElem?_cons_succ, List.set_cons_zero, List.set_cons_succ, Option.map_some, Option.map_none, Option.bind_some, Option.isSome_some, if_true, if_false, Bool.and_eq_true, Bool.not_true, Bool.not_false, Bool.false_eq_true, decide_true, decide_false, decide_eq_true_eq, true_and, and_true, false_and, and_false, List.length_cons, List.length_nil, List.length_map, List.map_cons, List.map_nil, List.all_cons, List.all_nil, does_alloc, objN_ref, ix_last, set_last, set_lastM, isE_app, List.map_append, isNone_oi, eqC_oi, eq_oi, get_l, get_t, at_0, at_1, at_2, at_3, at_4, at_last, unref_ref, eqC_refL, dicOf_ref, seqOf_ref, lstOf_ref, iterOf_ref, getD_ref, putD_ref, fldD_ref, clsOf_ref, tru_ref, k_tupR, k_lstR, k_sumR, k_sumL, okKey_str, keyT_str, dput_def, fk_str, fk_int, mergeD_nil, mergeD_cons, ffind_nil, ffind_cons, fput_nil, fput_cons, ofString_inj, dfind_nil, dfind_cons, eqv_str, str_beq, twos, appD, ownB, String.reduceEq, Nat.reduceAdd, Nat.reduceLT, Nat.reduceLeDiff, Int.reduceLT, Int.reduceLE, Int.reduceNeg, Nat.reduceSub, Nat.zero_add, asgL, asgLs, List.any_cons, List.any_nil, List.cons_append, List.nil_append, List.replicate, List.reduceReplicate, Nat.sub_self, Option.isSome_none, Bool.or_false, Bool.or_true, Bool.false_or, Bool.true_or, beq_self_eq_true, reduceCtorEq, Bool.and_true, Bool.true_and]
  refine step fun K hk => ?_
  simp only [does_ok, does_no, does_noX, does_bind, does_some, does_none, does_ofS, does_ofSif, does_oif, does_omap, does_if, nxt_nx, nxt_ret, nxt_brk, nxt_ct, turn_nx, turn_ret, turn_brk, turn_ct, if_no, exS, evE, evEs, evO, evC, evI, asgL, asgLs, asgT, asgTs, setPar, truR, appD, ownB, twos, scr_len, o_addII, o_addIB, o_addTT, o_addLL, o_addSS, o_subII, o_mulII, o_divII, o_modII, o_powII, q_ltII, q_leII, q_gtII, q_geII, q_isN, q_notN, isNone_n, isNone_i, isNone_b, isNone_s, isNone_t, isNone_l, q_isB, q_notB, q_eq, q_ne, eqC_i, eqC_n, eqC_b, eqC_s, eqC_t, eqC_l, unref_i, unref_n, unref_b, unref_s, unref_t, unref_l, eq_II, eq_SS, eq_BB, eq_NN, eq_NI, eq_IN, t_none, t_bool, t_int, k_abs, k_intI, k_intB, k_lenL, k_lenT, k_tupL, k_tupT, k_lstL, k_lstT, k_max2, k_min2, r_2, u_II, u_add, u_sub, l_list, s_list, s_tup, i_list, i_tup, smallI_eq, List.getElem?_cons_zero, List.getElem?_cons_succ, List.set_cons_zero, List.set_cons_succ, Option.map_some, Option.map_none, Option.bind_some, Option.isSome_some, if_true, if_false, Bool.and_eq_true, Bool.not_true, Bool.not_false, Bool.false_eq_true, decide_true, decide_false, decide_eq_true_eq, true_and, and_true, false_and, and_false, List.length_cons, List.length_nil, List.length_map, List.map_cons, List.map_nil, List.all_cons, List.all_nil, does_alloc, objN_ref, ix_last, set_last, set_lastM, isE_app, List.map_append, isNone_oi, eqC_oi, eq_oi, get_l, get_t, at_0, at_1, at_2, at_3, at_4, at_last, unref_ref, eqC_refL, dicOf_ref, seqOf_ref, lstOf_ref, iterOf_ref, getD_ref, putD_ref, fldD_ref, clsOf_ref, tru_ref, k_tupR, k_lstR, k_sumR, k_sumL, okKey_str, keyT_str, dput_def, fk_str, fk_int, mergeD_nil, mergeD_cons, ffind_nil, ffind_cons, fput_nil, fput_cons, ofString_inj, dfind_nil, dfind_cons, eqv_str, str_beq, twos, appD, ownB, String.reduceEq, Nat.reduceAdd, Nat.reduceLT, Nat.reduceLeDiff, Int.reduceLT, Int.reduceLE, Int.reduceNeg, Nat.reduceSub, Nat.zero_add, asgL, asgLs, List.any_cons, List.any_nil, List.cons_append, List.nil_append, List.replicate, List.reduceReplicate, Nat.sub_self, Option.isSome_none, Bool.or_false, Bool.or_true, Bool.false_or, Bool.true_or, beq_self_eq_true, reduceCtorEq, Bool.and_true, Bool.true_and, hS, L__law_looks_right_TurnClocks_turn, L__law_looks_right_TurnClocks_lost, L__law_looks_right__law_same]
  refine turn_does hS' ?_
  simp only [does_ok, does_no, does_noX, does_bind, does_some, does_none, does_ofS, does_ofSif, does_oif, does_omap, does_if, nxt_nx, nxt_ret, nxt_brk, nxt_ct, turn_nx, turn_ret, turn_brk, turn_ct, if_no, exS, evE, evEs, evO, evC, evI, asgL, asgLs, asgT, asgTs, setPar, truR, appD, ownB, twos, scr_len, o_addII, o_addIB, o_addTT, o_addLL, o_addSS, o_subII, o_mulII, o_divII, o_modII, o_powII, q_ltII, q_leII, q_gtII, q_geII, q_isN, q_notN, isNone_n, isNone_i, isNone_b, isNone_s, isNone_t, isNone_l, q_isB, q_notB, q_eq, q_ne, eqC_i, eqC_n, eqC_b, eqC_s, eqC_t, eqC_l, unref_i, unref_n, unref_b, unref_s, unref_t, unref_l, eq_II, eq_SS, eq_BB, eq_NN, eq_NI, eq_IN, t_none, t_bool, t_int, k_abs, k_intI, k_intB, k_lenL, k_lenT, k_tupL, k_tupT, k_lstL, k_lstT, k_max2, k_min2, r_2, u_II, u_add, u_sub, l_list, s_list, s_tup, i_list, i_tup, smallI_eq, List.getElem?_cons_zero, List.getElem?_cons_succ, List.set_cons_zero, List.set_cons_succ, Option.map_some, Option.map_none, Option.bind_some, Option.isSome_some, if_true, if_false, Bool.and_eq_true, Bool.not_true, Bool.not_false, Bool.false_eq_true, decide_true, decide_false, decide_eq_true_eq, true_and, and_true, false_and, and_false, List.length_cons, List.length_nil, List.length_map, List.map_cons, List.map_nil, List.all_cons, List.all_nil, does_alloc, objN_ref, ix_last, set_last, set_lastM, isE_app, List.map_append, isNone_oi, eqC_oi, eq_oi, get_l, get_t, at_0, at_1, at_2, at_3, at_4, at_last, unref_ref, eqC_refL, dicOf_ref, seqOf_ref, lstOf_ref, iterOf_ref, getD_ref, putD_ref, fldD_ref, clsOf_ref, tru_ref, k_tupR, k_lstR, k_sumR, k_sumL, okKey_str, keyT_str, dput_def, fk_str, fk_int, mergeD_nil, mergeD_cons, ffind_nil, ffind_cons, fput_nil, fput_cons, ofString_inj, dfind_nil, dfind_cons, eqv_str, str_beq, twos, appD, ownB, String.reduceEq, Nat.reduceAdd, Nat.reduceLT, Nat.reduceLeDiff, Int.reduceLT, Int.reduceLE, Int.reduceNeg, Nat.reduceSub, Nat.zero_add, asgL, asgLs, List.any_cons, List.any_nil, List.cons_append, List.nil_append, List.replicate, List.reduceReplicate, Nat.sub_self, Option.isSome_none, Bool.or_false, Bool.or_true, Bool.false_or, Bool.true_or, beq_self_eq_true, reduceCtorEq, Bool.and_true, Bool.true_and, hm]
  refine sm_does (Rg.int (by omega)) (by decide) (by decide) ?_
  simp only [does_ok, does_no, does_noX, does_bind, does_some, does_none, does_ofS, does_ofSif, does_oif, does_omap, does_if, nxt_nx, nxt_ret, nxt_brk, nxt_ct, turn_nx, turn_ret, turn_brk, turn_ct, if_no, exS, evE, evEs, evO, evC, evI, asgL, asgLs, asgT, asgTs, setPar, truR, appD, ownB, twos, scr_len, o_addII, o_addIB, o_addTT, o_addLL, o_addSS, o_subII, o_mulII, o_divII, o_modII, o_powII, q_ltII, q_leII, q_gtII, q_geII, q_isN, q_notN, isNone_n, isNone_i, isNone_b, isNone_s, isNone_t, isNone_l, q_isB, q_notB, q_eq, q_ne, eqC_i, eqC_n, eqC_b, eqC_s, eqC_t, eqC_l, unref_i, unref_n, unref_b, unref_s, unref_t, unref_l, eq_II, eq_SS, eq_BB, eq_NN, eq_NI, eq_IN, t_none, t_bool, t_int, k_abs, k_intI, k_intB, k_lenL, k_lenT, k_tupL, k_tupT, k_lstL, k_lstT, k_max2, k_min2, r_2, u_II, u_add, u_sub, l_list, s_list, s_tup, i_list, i_tup, smallI_eq, List.getElem?_cons_zero, List.getElem?_cons_succ, List.set_cons_zero, List.set_cons_succ, Option.map_some, Option.map_none, Option.bind_some, Option.isSome_some, if_true, if_false, Bool.and_eq_true, Bool.not_true, Bool.not_false, Bool.false_eq_true, decide_true, decide_false, decide_eq_true_eq, true_and, and_true, false_and, and_false, List.length_cons, List.length_nil, List.length_map, List.map_cons, List.map_nil, List.all_cons, List.all_nil, does_alloc, objN_ref, ix_last, set_last, set_lastM, isE_app, List.map_append, isNone_oi, eqC_oi, eq_oi, get_l, get_t, at_0, at_1, at_2, at_3, at_4, at_last, unref_ref, eqC_refL, dicOf_ref, seqOf_ref, lstOf_ref, iterOf_ref, getD_ref, putD_ref, fldD_ref, clsOf_ref, tru_ref, k_tupR, k_lstR, k_sumR, k_sumL, okKey_str, keyT_str, dput_def, fk_str, fk_int, mergeD_nil, mergeD_cons, ffind_nil, ffind_cons, fput_nil, fput_cons, ofString_inj, dfind_nil, dfind_cons, eqv_str, str_beq, twos, appD, ownB, String.reduceEq, Nat.reduceAdd, Nat.reduceLT, Nat.reduceLeDiff, Int.reduceLT, Int.reduceLE, Int.reduceNeg, Nat.reduceSub, Nat.zero_add, asgL, asgLs, List.any_cons, List.any_nil, List.cons_append, List.nil_append, List.replicate, List.reduceReplicate, Nat.sub_self, Option.isSome_none, Bool.or_false, Bool.or_true, Bool.false_or, Bool.true_or, beq_self_eq_true, reduceCtorEq, Bool.and_true, Bool.true_and, hS]
  refine lost_does hS' ?_
  simp only [does_ok, does_no, does_noX, does_bind, does_some, does_none, does_ofS, does_ofSif, does_oif, does_omap, does_if, nxt_nx, nxt_ret, nxt_brk, nxt_ct, turn_nx, turn_ret, turn_brk, turn_ct, if_no, exS, evE, evEs, evO, evC, evI, asgL, asgLs, asgT, asgTs, setPar, truR, appD, ownB, twos, scr_len, o_addII, o_addIB, o_addTT, o_addLL, o_addSS, o_subII, o_mulII, o_divII, o_modII, o_powII, q_ltII, q_leII, q_gtII, q_geII, q_isN, q_notN, isNone_n, isNone_i, isNone_b, isNone_s, isNone_t, isNone_l, q_isB, q_notB, q_eq, q_ne, eqC_i, eqC_n, eqC_b, eqC_s, eqC_t, eqC_l, unref_i, unref_n, unref_b, unref_s, unref_t, unref_l, eq_II, eq_SS, eq_BB, eq_NN, eq_NI, eq_IN, t_none, t_bool, t_int, k_abs, k_intI, k_intB, k_lenL, k_lenT, k_tupL, k_tupT, k_lstL, k_lstT, k_max2, k_min2, r_2, u_II, u_add, u_sub, l_list, s_list, s_tup, i_list, i_tup, smallI_eq, List.getElem?_cons_zero, List.getElem?_cons_succ, List.set_cons_zero, List.set_cons_succ, Option.map_some, Option.map_none, Option.bind_some, Option.isSome_some, if_true, if_false, Bool.and_eq_true, Bool.not_true, Bool.not_false, Bool.false_eq_true, decide_true, decide_false, decide_eq_true_eq, true_and, and_true, false_and, and_false, List.length_cons, List.length_nil, List.length_map, List.map_cons, List.map_nil, List.all_cons, List.all_nil, does_alloc, objN_ref, ix_last, set_last, set_lastM, isE_app, List.map_append, isNone_oi, eqC_oi, eq_oi, get_l, get_t, at_0, at_1, at_2, at_3, at_4, at_last, unref_ref, eqC_refL, dicOf_ref, seqOf_ref, lstOf_ref, iterOf_ref, getD_ref, putD_ref, fldD_ref, clsOf_ref, tru_ref, k_tupR, k_lstR, k_sumR, k_sumL, okKey_str, keyT_str, dput_def, fk_str, fk_int, mergeD_nil, mergeD_cons, ffind_nil, ffind_cons, fput_nil, fput_cons, ofString_inj, dfind_nil, dfind_cons, eqv_str, str_beq, twos, appD, ownB, String.reduceEq, Nat.reduceAdd, Nat.reduceLT, Nat.reduceLeDiff, Int.reduceLT, Int.reduceLE, Int.reduceNeg, Nat.reduceSub, Nat.zero_add, asgL, asgLs, List.any_cons, List.any_nil, List.cons_append, List.nil_append, List.replicate, List.reduceReplicate, Nat.sub_self, Option.isSome_none, Bool.or_false, Bool.or_true, Bool.false_or, Bool.true_or, beq_self_eq_true, reduceCtorEq, Bool.and_true, Bool.true_and, hm]
  refine sm_does (Rg.oi fun i e => by have := B.lo i e; omega) (by decide) (by decide) ?_
  simp only [does_ok, does_no, does_noX, does_bind, does_some, does_none, does_ofS, does_ofSif, does_oif, does_omap, does_if, nxt_nx, nxt_ret, nxt_brk, nxt_ct, turn_nx, turn_ret, turn_brk, turn_ct, if_no, exS, evE, evEs, evO, evC, evI, asgL, asgLs, asgT, asgTs, setPar, truR, appD, ownB, twos, scr_len, o_addII, o_addIB, o_addTT, o_addLL, o_addSS, o_subII, o_mulII, o_divII, o_modII, o_powII, q_ltII, q_leII, q_gtII, q_geII, q_isN, q_notN, isNone_n, isNone_i, isNone_b, isNone_s, isNone_t, isNone_l, q_isB, q_notB, q_eq, q_ne, eqC_i, eqC_n, eqC_b, eqC_s, eqC_t, eqC_l, unref_i, unref_n, unref_b, unref_s, unref_t, unref_l, eq_II, eq_SS, eq_BB, eq_NN, eq_NI, eq_IN, t_none, t_bool, t_int, k_abs, k_intI, k_intB, k_lenL, k_lenT, k_tupL, k_tupT, k_lstL, k_lstT, k_max2, k_min2, r_2, u_II, u_add, u_sub, l_list, s_list, s_tup, i_list, i_tup, smallI_eq, List.getElem?_cons_zero, List.getElem?_cons_succ, List.set_cons_zero, List.set_cons_succ, Option.map_some, Option.map_none, Option.bind_some, Option.isSome_some, if_true, if_false, Bool.and_eq_true, Bool.not_true, Bool.not_false, Bool.false_eq_true, decide_true, decide_false, decide_eq_true_eq, true_and, and_true, false_and, and_false, List.length_cons, List.length_nil, List.length_map, List.map_cons, List.map_nil, List.all_cons, List.all_nil, does_alloc, objN_ref, ix_last, set_last, set_lastM, isE_app, List.map_append, isNone_oi, eqC_oi, eq_oi, get_l, get_t, at_0, at_1, at_2, at_3, at_4, at_last, unref_ref, eqC_refL, dicOf_ref, seqOf_ref, lstOf_ref, iterOf_ref, getD_ref, putD_ref, fldD_ref, clsOf_ref, tru_ref, k_tupR, k_lstR, k_sumR, k_sumL, okKey_str, keyT_str, dput_def, fk_str, fk_int, mergeD_nil, mergeD_cons, ffind_nil, ffind_cons, fput_nil, fput_cons, ofString_inj, dfind_nil, dfind_cons, eqv_str, str_beq, twos, appD, ownB, String.reduceEq, Nat.reduceAdd, Nat.reduceLT, Nat.reduceLeDiff, Int.reduceLT, Int.reduceLE, Int.reduceNeg, Nat.reduceSub, Nat.zero_add, asgL, asgLs, List.any_cons, List.any_nil, List.cons_append, List.nil_append, List.replicate, List.reduceReplicate, Nat.sub_self, Option.isSome_none, Bool.or_false, Bool.or_true, Bool.false_or, Bool.true_or, beq_self_eq_true, reduceCtorEq, Bool.and_true, Bool.true_and, does_nil]
  (refine hk.nx ?_; clear hk K; try with_reducible refine does_nilp ?_)
  refine step fun K hk => ?_
  simp only [does_ok, does_no, does_noX, does_bind, does_some, does_none, does_ofS, does_ofSif, does_oif, does_omap, does_if, nxt_nx, nxt_ret, nxt_brk, nxt_ct, turn_nx, turn_ret, turn_brk, turn_ct, if_no, exS, evE, evEs, evO, evC, evI, asgL, asgLs, asgT, asgTs, setPar, truR, appD, ownB, twos, scr_len, o_addII, o_addIB, o_addTT, o_addLL, o_addSS, o_subII, o_mulII, o_divII, o_modII, o_powII, q_ltII, q_leII, q_gtII, q_geII, q_isN, q_notN, isNone_n, isNone_i, isNone_b, isNone_s, isNone_t, isNone_l, q_isB, q_notB, q_eq, q_ne, eqC_i, eqC_n, eqC_b, eqC_s, eqC_t, eqC_l, unref_i, unref_n, unref_b, unref_s, unref_t, unref_l, eq_II, eq_SS, eq_BB, eq_NN, eq_NI, eq_IN, t_none, t_bool, t_int, k_abs, k_intI, k_intB, k_lenL, k_lenT, k_tupL, k_tupT, k_lstL, k_lstT, k_max2, k_min2, r_2, u_II, u_add, u_sub, l_list, s_list, s_tup, i_list, i_tup, smallI_eq, List.getElem?_cons_zero, List.getElem?_cons_succ, List.set_cons_zero, List.set_cons_succ, Option.map_some, Option.map_none, Option.bind_some, Option.isSome_some, if_true, if_false, Bool.and_eq_true, Bool.not_true, Bool.not_false, Bool.false_eq_true, decide_true, decide_false, decide_eq_true_eq, true_and, and_true, false_and, and_false, List.length_cons, List.length_nil, List.length_map, List.map_cons, List.map_nil, List.all_cons, List.all_nil, does_alloc, objN_ref, ix_last, set_last, set_lastM, isE_app, List.map_append, isNone_oi, eqC_oi, eq_oi, get_l, get_t, at_0, at_1, at_2, at_3, at_4, at_last, unref_ref, eqC_refL, dicOf_ref, seqOf_ref, lstOf_ref, iterOf_ref, getD_ref, putD_ref, fldD_ref, clsOf_ref, tru_ref, k_tupR, k_lstR, k_sumR, k_sumL, okKey_str, keyT_str, dput_def, fk_str, fk_int, mergeD_nil, mergeD_cons, ffind_nil, ffind_cons, fput_nil, fput_cons, ofString_inj, dfind_nil, dfind_cons, eqv_str, str_beq, twos, appD, ownB, String.reduceEq, Nat.reduceAdd, Nat.reduceLT, Nat.reduceLeDiff, Int.reduceLT, Int.reduceLE, Int.reduceNeg, Nat.reduceSub, Nat.zero_add, asgL, asgLs, List.any_cons, List.any_nil, List.cons_append, List.nil_append, List.replicate, List.reduceReplicate, Nat.sub_self, Option.isSome_none, Bool.or_false, Bool.or_true, Bool.false_or, Bool.true_or, beq_self_eq_true, reduceCtorEq, Bool.and_true, Bool.true_and, hS, L__law_looks_right_TurnClocks_out_at, L__law_looks_right__law_same]
  refine out_does hS' hr' B.n0 B.n1 ?_
  suffices rest : K (.nx [some (.pure (ref w)), some (.pure (ref n)), some (.pure (ref m)), some (.pure (.int time)), none, none, none]) S by
    cases lost with
    | none =>
      simp only [does_ok, does_no, does_noX, does_bind, does_some, does_none, does_ofS, does_ofSif, does_oif, does_omap, does_if, nxt_nx, nxt_ret, nxt_brk, nxt_ct, turn_nx, turn_ret, turn_brk, turn_ct, if_no, exS, evE, evEs, evO, evC, evI, asgL, asgLs, asgT, asgTs, setPar, truR, appD, ownB, twos, scr_len, o_addII, o_addIB, o_addTT, o_addLL, o_addSS, o_subII, o_mulII, o_divII, o_modII, o_powII, q_ltII, q_leII, q_gtII, q_geII, q_isN, q_notN, isNone_n, isNone_i, isNone_b, isNone_s, isNone_t, isNone_l, q_isB, q_notB, q_eq, q_ne, eqC_i, eqC_n, eqC_b, eqC_s, eqC_t, eqC_l, unref_i, unref_n, unref_b, unref_s, unref_t, unref_l, eq_II, eq_SS, eq_BB, eq_NN, eq_NI, eq_IN, t_none, t_bool, t_int, k_abs, k_intI, k_intB, k_lenL, k_lenT, k_tupL, k_tupT, k_lstL, k_lstT, k_max2, k_min2, r_2, u_II, u_add, u_sub, l_list, s_list, s_tup, i_list, i_tup, smallI_eq, List.getElem?_cons_zero, List.getElem?_cons_succ, List.set_cons_zero, List.set_cons_succ, Option.map_some, Option.map_none, Option.bind_some, Option.isSome_some, if_true, if_false, Bool.and_eq_true, Bool.not_true, Bool.not_false, Bool.false_eq_true, decide_true, decide_false, decide_eq_true_eq, true_and, and_true, false_and, and_false, List.length_cons, List.length_nil, List.length_map, List.map_cons, List.map_nil, List.all_cons, List.all_nil, does_alloc, objN_ref, ix_last, set_last, set_lastM, isE_app, List.map_append, isNone_oi, eqC_oi, eq_oi, get_l, get_t, at_0, at_1, at_2, at_3, at_4, at_last, unref_ref, eqC_refL, dicOf_ref, seqOf_ref, lstOf_ref, iterOf_ref, getD_ref, putD_ref, fldD_ref, clsOf_ref, tru_ref, k_tupR, k_lstR, k_sumR, k_sumL, okKey_str, keyT_str, dput_def, fk_str, fk_int, mergeD_nil, mergeD_cons, ffind_nil, ffind_cons, fput_nil, fput_cons, ofString_inj, dfind_nil, dfind_cons, eqv_str, str_beq, twos, appD, ownB, String.reduceEq, Nat.reduceAdd, Nat.reduceLT, Nat.reduceLeDiff, Int.reduceLT, Int.reduceLE, Int.reduceNeg, Nat.reduceSub, Nat.zero_add, asgL, asgLs, List.any_cons, List.any_nil, List.cons_append, List.nil_append, List.replicate, List.reduceReplicate, Nat.sub_self, Option.isSome_none, Bool.or_false, Bool.or_true, Bool.false_or, Bool.true_or, beq_self_eq_true, reduceCtorEq, Bool.and_true, Bool.true_and, hm, hl, oi_n, at_int B.n0 B.n1, oi_s]
      refine sm_does (Rg.int ?_) (by decide) (by decide) ?_
      · have := B.get now.toNat
        have := B.l0
        have := B.lt
        have := B.t1
        omega
      simp only [does_ok, does_no, does_noX, does_bind, does_some, does_none, does_ofS, does_ofSif, does_oif, does_omap, does_if, nxt_nx, nxt_ret, nxt_brk, nxt_ct, turn_nx, turn_ret, turn_brk, turn_ct, if_no, exS, evE, evEs, evO, evC, evI, asgL, asgLs, asgT, asgTs, setPar, truR, appD, ownB, twos, scr_len, o_addII, o_addIB, o_addTT, o_addLL, o_addSS, o_subII, o_mulII, o_divII, o_modII, o_powII, q_ltII, q_leII, q_gtII, q_geII, q_isN, q_notN, isNone_n, isNone_i, isNone_b, isNone_s, isNone_t, isNone_l, q_isB, q_notB, q_eq, q_ne, eqC_i, eqC_n, eqC_b, eqC_s, eqC_t, eqC_l, unref_i, unref_n, unref_b, unref_s, unref_t, unref_l, eq_II, eq_SS, eq_BB, eq_NN, eq_NI, eq_IN, t_none, t_bool, t_int, k_abs, k_intI, k_intB, k_lenL, k_lenT, k_tupL, k_tupT, k_lstL, k_lstT, k_max2, k_min2, r_2, u_II, u_add, u_sub, l_list, s_list, s_tup, i_list, i_tup, smallI_eq, List.getElem?_cons_zero, List.getElem?_cons_succ, List.set_cons_zero, List.set_cons_succ, Option.map_some, Option.map_none, Option.bind_some, Option.isSome_some, if_true, if_false, Bool.and_eq_true, Bool.not_true, Bool.not_false, Bool.false_eq_true, decide_true, decide_false, decide_eq_true_eq, true_and, and_true, false_and, and_false, List.length_cons, List.length_nil, List.length_map, List.map_cons, List.map_nil, List.all_cons, List.all_nil, does_alloc, objN_ref, ix_last, set_last, set_lastM, isE_app, List.map_append, isNone_oi, eqC_oi, eq_oi, get_l, get_t, at_0, at_1, at_2, at_3, at_4, at_last, unref_ref, eqC_refL, dicOf_ref, seqOf_ref, lstOf_ref, iterOf_ref, getD_ref, putD_ref, fldD_ref, clsOf_ref, tru_ref, k_tupR, k_lstR, k_sumR, k_sumL, okKey_str, keyT_str, dput_def, fk_str, fk_int, mergeD_nil, mergeD_cons, ffind_nil, ffind_cons, fput_nil, fput_cons, ofString_inj, dfind_nil, dfind_cons, eqv_str, str_beq, twos, appD, ownB, String.reduceEq, Nat.reduceAdd, Nat.reduceLT, Nat.reduceLeDiff, Int.reduceLT, Int.reduceLE, Int.reduceNeg, Nat.reduceSub, Nat.zero_add, asgL, asgLs, List.any_cons, List.any_nil, List.cons_append, List.nil_append, List.replicate, List.reduceReplicate, Nat.sub_self, Option.isSome_none, Bool.or_false, Bool.or_true, Bool.false_or, Bool.true_or, beq_self_eq_true, reduceCtorEq, Bool.and_true, Bool.true_and, does_nil]
      exact rest
    | some x =>
      simp only [does_ok, does_no, does_noX, does_bind, does_some, does_none, does_ofS, does_ofSif, does_oif, does_omap, does_if, nxt_nx, nxt_ret, nxt_brk, nxt_ct, turn_nx, turn_ret, turn_brk, turn_ct, if_no, exS, evE, evEs, evO, evC, evI, asgL, asgLs, asgT, asgTs, setPar, truR, appD, ownB, twos, scr_len, o_addII, o_addIB, o_addTT, o_addLL, o_addSS, o_subII, o_mulII, o_divII, o_modII, o_powII, q_ltII, q_leII, q_gtII, q_geII, q_isN, q_notN, isNone_n, isNone_i, isNone_b, isNone_s, isNone_t, isNone_l, q_isB, q_notB, q_eq, q_ne, eqC_i, eqC_n, eqC_b, eqC_s, eqC_t, eqC_l, unref_i, unref_n, unref_b, unref_s, unref_t, unref_l, eq_II, eq_SS, eq_BB, eq_NN, eq_NI, eq_IN, t_none, t_bool, t_int, k_abs, k_intI, k_intB, k_lenL, k_lenT, k_tupL, k_tupT, k_lstL, k_lstT, k_max2, k_min2, r_2, u_II, u_add, u_sub, l_list, s_list, s_tup, i_list, i_tup, smallI_eq, List.getElem?_cons_zero, List.getElem?_cons_succ, List.set_cons_zero, List.set_cons_succ, Option.map_some, Option.map_none, Option.bind_some, Option.isSome_some, if_true, if_false, Bool.and_eq_true, Bool.not_true, Bool.not_false, Bool.false_eq_true, decide_true, decide_false, decide_eq_true_eq, true_and, and_true, false_and, and_false, List.length_cons, List.length_nil, List.length_map, List.map_cons, List.map_nil, List.all_cons, List.all_nil, does_alloc, objN_ref, ix_last, set_last, set_lastM, isE_app, List.map_append, isNone_oi, eqC_oi, eq_oi, get_l, get_t, at_0, at_1, at_2, at_3, at_4, at_last, unref_ref, eqC_refL, dicOf_ref, seqOf_ref, lstOf_ref, iterOf_ref, getD_ref, putD_ref, fldD_ref, clsOf_ref, tru_ref, k_tupR, k_lstR, k_sumR, k_sumL, okKey_str, keyT_str, dput_def, fk_str, fk_int, mergeD_nil, mergeD_cons, ffind_nil, ffind_cons, fput_nil, fput_cons, ofString_inj, dfind_nil, dfind_cons, eqv_str, str_beq, twos, appD, ownB, String.reduceEq, Nat.reduceAdd, Nat.reduceLT, Nat.reduceLeDiff, Int.reduceLT, Int.reduceLE, Int.reduceNeg, Nat.reduceSub, Nat.zero_add, asgL, asgLs, List.any_cons, List.any_nil, List.cons_append, List.nil_append, List.replicate, List.reduceReplicate, Nat.sub_self, Option.isSome_none, Bool.or_false, Bool.or_true, Bool.false_or, Bool.true_or, beq_self_eq_true, reduceCtorEq, Bool.and_true, Bool.true_and, hm, oi_s]
      rw [oi_n]
      refine sm_does Rg.non (by decide) (by decide) ?_
      simp only [does_ok, does_no, does_noX, does_bind, does_some, does_none, does_ofS, does_ofSif, does_oif, does_omap, does_if, nxt_nx, nxt_ret, nxt_brk, nxt_ct, turn_nx, turn_ret, turn_brk, turn_ct, if_no, exS, evE, evEs, evO, evC, evI, asgL, asgLs, asgT, asgTs, setPar, truR, appD, ownB, twos, scr_len, o_addII, o_addIB, o_addTT, o_addLL, o_addSS, o_subII, o_mulII, o_divII, o_modII, o_powII, q_ltII, q_leII, q_gtII, q_geII, q_isN, q_notN, isNone_n, isNone_i, isNone_b, isNone_s, isNone_t, isNone_l, q_isB, q_notB, q_eq, q_ne, eqC_i, eqC_n, eqC_b, eqC_s, eqC_t, eqC_l, unref_i, unref_n, unref_b, unref_s, unref_t, unref_l, eq_II, eq_SS, eq_BB, eq_NN, eq_NI, eq_IN, t_none, t_bool, t_int, k_abs, k_intI, k_intB, k_lenL, k_lenT, k_tupL, k_tupT, k_lstL, k_lstT, k_max2, k_min2, r_2, u_II, u_add, u_sub, l_list, s_list, s_tup, i_list, i_tup, smallI_eq, List.getElem?_cons_zero, List.getElem?_cons_succ, List.set_cons_zero, List.set_cons_succ, Option.map_some, Option.map_none, Option.bind_some, Option.isSome_some, if_true, if_false, Bool.and_eq_true, Bool.not_true, Bool.not_false, Bool.false_eq_true, decide_true, decide_false, decide_eq_true_eq, true_and, and_true, false_and, and_false, List.length_cons, List.length_nil, List.length_map, List.map_cons, List.map_nil, List.all_cons, List.all_nil, does_alloc, objN_ref, ix_last, set_last, set_lastM, isE_app, List.map_append, isNone_oi, eqC_oi, eq_oi, get_l, get_t, at_0, at_1, at_2, at_3, at_4, at_last, unref_ref, eqC_refL, dicOf_ref, seqOf_ref, lstOf_ref, iterOf_ref, getD_ref, putD_ref, fldD_ref, clsOf_ref, tru_ref, k_tupR, k_lstR, k_sumR, k_sumL, okKey_str, keyT_str, dput_def, fk_str, fk_int, mergeD_nil, mergeD_cons, ffind_nil, ffind_cons, fput_nil, fput_cons, ofString_inj, dfind_nil, dfind_cons, eqv_str, str_beq, twos, appD, ownB, String.reduceEq, Nat.reduceAdd, Nat.reduceLT, Nat.reduceLeDiff, Int.reduceLT, Int.reduceLE, Int.reduceNeg, Nat.reduceSub, Nat.zero_add, asgL, asgLs, List.any_cons, List.any_nil, List.cons_append, List.nil_append, List.replicate, List.reduceReplicate, Nat.sub_self, Option.isSome_none, Bool.or_false, Bool.or_true, Bool.false_or, Bool.true_or, beq_self_eq_true, reduceCtorEq, Bool.and_true, Bool.true_and, does_nil]
      exact rest
  (refine hk.nx ?_; clear hk K; try with_reducible refine does_nilp ?_)
  refine step fun K hk => ?_
  simp only [does_ok, does_no, does_noX, does_bind, does_some, does_none, does_ofS, does_ofSif, does_oif, does_omap, does_if, nxt_nx, nxt_ret, nxt_brk, nxt_ct, turn_nx, turn_ret, turn_brk, turn_ct, if_no, exS, evE, evEs, evO, evC, evI, asgL, asgLs, asgT, asgTs, setPar, truR, appD, ownB, twos, scr_len, o_addII, o_addIB, o_addTT, o_addLL, o_addSS, o_subII, o_mulII, o_divII, o_modII, o_powII, q_ltII, q_leII, q_gtII, q_geII, q_isN, q_notN, isNone_n, isNone_i, isNone_b, isNone_s, isNone_t, isNone_l, q_isB, q_notB, q_eq, q_ne, eqC_i, eqC_n, eqC_b, eqC_s, eqC_t, eqC_l, unref_i, unref_n, unref_b, unref_s, unref_t, unref_l, eq_II, eq_SS, eq_BB, eq_NN, eq_NI, eq_IN, t_none, t_bool, t_int, k_abs, k_intI, k_intB, k_lenL, k_lenT, k_tupL, k_tupT, k_lstL, k_lstT, k_max2, k_min2, r_2, u_II, u_add, u_sub, l_list, s_list, s_tup, i_list, i_tup, smallI_eq, List.getElem?_cons_zero, List.getElem?_cons_succ, List.set_cons_zero, List.set_cons_succ, Option.map_some, Option.map_none, Option.bind_some, Option.isSome_some, if_true, if_false, Bool.and_eq_true, Bool.not_true, Bool.not_false, Bool.false_eq_true, decide_true, decide_false, decide_eq_true_eq, true_and, and_true, false_and, and_false, List.length_cons, List.length_nil, List.length_map, List.map_cons, List.map_nil, List.all_cons, List.all_nil, does_alloc, objN_ref, ix_last, set_last, set_lastM, isE_app, List.map_append, isNone_oi, eqC_oi, eq_oi, get_l, get_t, at_0, at_1, at_2, at_3, at_4, at_last, unref_ref, eqC_refL, dicOf_ref, seqOf_ref, lstOf_ref, iterOf_ref, getD_ref, putD_ref, fldD_ref, clsOf_ref, tru_ref, k_tupR, k_lstR, k_sumR, k_sumL, okKey_str, keyT_str, dput_def, fk_str, fk_int, mergeD_nil, mergeD_cons, ffind_nil, ffind_cons, fput_nil, fput_cons, ofString_inj, dfind_nil, dfind_cons, eqv_str, str_beq, twos, appD, ownB, String.reduceEq, Nat.reduceAdd, Nat.reduceLT, Nat.reduceLeDiff, Int.reduceLT, Int.reduceLE, Int.reduceNeg, Nat.reduceSub, Nat.zero_add, asgL, asgLs, List.any_cons, List.any_nil, List.cons_append, List.nil_append, List.replicate, List.reduceReplicate, Nat.sub_self, Option.isSome_none, Bool.or_false, Bool.or_true, Bool.false_or, Bool.true_or, beq_self_eq_true, reduceCtorEq, Bool.and_true, Bool.true_and, hm, k_lenR, hl]
  refine ⟨by omega, ?_⟩
  refine for_rng 0 (rows.length : Int) rows.length (by omega) (fun i Γ S' => S = S' ∧ ∃ x4 x5 x6, Γ = [some (.pure (ref w)), some (.pure (ref n)), some (.pure (ref m)), some (.pure (.int time)), x4, x5, x6]) ⟨rfl, _, _, _, rfl⟩ ?_ ?_
  · rintro i _ _ hi ⟨rfl, x4, x5, x6, rfl⟩
    simp only [List.set_cons_succ, List.set_cons_zero, Int.zero_add]
    have hi0 : (0 : Int) ≤ (i : Int) := by omega
    have hi1 : (i : Int) < rows.length := by omega
    refine step fun K hk => ?_
    have hne : eqD (.int (i : Int)) (unref S (oi lost)) = some (decide (some (i : Int) = lost)) := by
      rw [← eq_oi, oi_s]
      cases lost <;> rfl
    simp only [does_ok, does_no, does_noX, does_bind, does_some, does_none, does_ofS, does_ofSif, does_oif, does_omap, does_if, nxt_nx, nxt_ret, nxt_brk, nxt_ct, turn_nx, turn_ret, turn_brk, turn_ct, if_no, exS, evE, evEs, evO, evC, evI, asgL, asgLs, asgT, asgTs, setPar, truR, appD, ownB, twos, scr_len, o_addII, o_addIB, o_addTT, o_addLL, o_addSS, o_subII, o_mulII, o_divII, o_modII, o_powII, q_ltII, q_leII, q_gtII, q_geII, q_isN, q_notN, isNone_n, isNone_i, isNone_b, isNone_s, isNone_t, isNone_l, q_isB, q_notB, q_eq, q_ne, eqC_i, eqC_n, eqC_b, eqC_s, eqC_t, eqC_l, unref_i, unref_n, unref_b, unref_s, unref_t, unref_l, eq_II, eq_SS, eq_BB, eq_NN, eq_NI, eq_IN, t_none, t_bool, t_int, k_abs, k_intI, k_intB, k_lenL, k_lenT, k_tupL, k_tupT, k_lstL, k_lstT, k_max2, k_min2, r_2, u_II, u_add, u_sub, l_list, s_list, s_tup, i_list, i_tup, smallI_eq, List.getElem?_cons_zero, List.getElem?_cons_succ, List.set_cons_zero, List.set_cons_succ, Option.map_some, Option.map_none, Option.bind_some, Option.isSome_some, if_true, if_false, Bool.and_eq_true, Bool.not_true, Bool.not_false, Bool.false_eq_true, decide_true, decide_false, decide_eq_true_eq, true_and, and_true, false_and, and_false, List.length_cons, List.length_nil, List.length_map, List.map_cons, List.map_nil, List.all_cons, List.all_nil, does_alloc, objN_ref, ix_last, set_last, set_lastM, isE_app, List.map_append, isNone_oi, eqC_oi, eq_oi, get_l, get_t, at_0, at_1, at_2, at_3, at_4, at_last, unref_ref, eqC_refL, dicOf_ref, seqOf_ref, lstOf_ref, iterOf_ref, getD_ref, putD_ref, fldD_ref, clsOf_ref, tru_ref, k_tupR, k_lstR, k_sumR, k_sumL, okKey_str, keyT_str, dput_def, fk_str, fk_int, mergeD_nil, mergeD_cons, ffind_nil, ffind_cons, fput_nil, fput_cons, ofString_inj, dfind_nil, dfind_cons, eqv_str, str_beq, twos, appD, ownB, String.reduceEq, Nat.reduceAdd, Nat.reduceLT, Nat.reduceLeDiff, Int.reduceLT, Int.reduceLE, Int.reduceNeg, Nat.reduceSub, Nat.zero_add, asgL, asgLs, List.any_cons, List.any_nil, List.cons_append, List.nil_append, List.replicate, List.reduceReplicate, Nat.sub_self, Option.isSome_none, Bool.or_false, Bool.or_true, Bool.false_or, Bool.true_or, beq_self_eq_true, reduceCtorEq, Bool.and_true, Bool.true_and, hm, hne]
    split
    · refine step fun K hk => ?_
      simp only [exS, does_noX, asgL, does_bind, does_ok]
      refine Does.of_ok (a := .bool (decide (lost = none ∧ (i : Int) = now))) (S := S) (does_iff.mp ?_) (?_)
      · cases lost <;> simp only [does_ok, does_no, does_noX, does_bind, does_some, does_none, does_ofS, does_ofSif, does_oif, does_omap, does_if, nxt_nx, nxt_ret, nxt_brk, nxt_ct, turn_nx, turn_ret, turn_brk, turn_ct, if_no, exS, evE, evEs, evO, evC, evI, asgL, asgLs, asgT, asgTs, setPar, truR, appD, ownB, twos, scr_len, o_addII, o_addIB, o_addTT, o_addLL, o_addSS, o_subII, o_mulII, o_divII, o_modII, o_powII, q_ltII, q_leII, q_gtII, q_geII, q_isN, q_notN, isNone_n, isNone_i, isNone_b, isNone_s, isNone_t, isNone_l, q_isB, q_notB, q_eq, q_ne, eqC_i, eqC_n, eqC_b, eqC_s, eqC_t, eqC_l, unref_i, unref_n, unref_b, unref_s, unref_t, unref_l, eq_II, eq_SS, eq_BB, eq_NN, eq_NI, eq_IN, t_none, t_bool, t_int, k_abs, k_intI, k_intB, k_lenL, k_lenT, k_tupL, k_tupT, k_lstL, k_lstT, k_max2, k_min2, r_2, u_II, u_add, u_sub, l_list, s_list, s_tup, i_list, i_tup, smallI_eq, List.getElem?_cons_zero, List.getElem?_cons_succ, List.set_cons_zero, List.set_cons_succ, Option.map_some, Option.map_none, Option.bind_some, Option.isSome_some, if_true, if_false, Bool.and_eq_true, Bool.not_true, Bool.not_false, Bool.false_eq_true, decide_true, decide_false, decide_eq_true_eq, true_and, and_true, false_and, and_false, List.length_cons, List.length_nil, List.length_map, List.map_cons, List.map_nil, List.all_cons, List.all_nil, does_alloc, objN_ref, ix_last, set_last, set_lastM, isE_app, List.map_append, isNone_oi, eqC_oi, eq_oi, get_l, get_t, at_0, at_1, at_2, at_3, at_4, at_last, unref_ref, eqC_refL, dicOf_ref, seqOf_ref, lstOf_ref, iterOf_ref, getD_ref, putD_ref, fldD_ref, clsOf_ref, tru_ref, k_tupR, k_lstR, k_sumR, k_sumL, okKey_str, keyT_str, dput_def, fk_str, fk_int, mergeD_nil, mergeD_cons, ffind_nil, ffind_cons, fput_nil, fput_cons, ofString_inj, dfind_nil, dfind_cons, eqv_str, str_beq, twos, appD, ownB, String.reduceEq, Nat.reduceAdd, Nat.reduceLT, Nat.reduceLeDiff, Int.reduceLT, Int.reduceLE, Int.reduceNeg, Nat.reduceSub, Nat.zero_add, asgL, asgLs, List.any_cons, List.any_nil, List.cons_append, List.nil_append, List.replicate, List.reduceReplicate, Nat.sub_self, Option.isSome_none, Bool.or_false, Bool.or_true, Bool.false_or, Bool.true_or, beq_self_eq_true, reduceCtorEq, Bool.and_true, Bool.true_and, hm, oi_n, oi_s] <;> simp
      (refine hk.nx ?_; clear hk K; try with_reducible refine does_nilp ?_)
      refine step fun K hk => ?_
      have ev : ∀ b : Bool, (if b = true then time - latest else 0) = if b = true then time - latest else 0 := fun _ => rfl
      simp only [exS, does_noX, asgL, does_bind, does_ok]
      refine Does.of_ok (a := .int (rows.getD i 0 - runI lost now latest i time)) (S := S) (does_iff.mp ?_) (?_)
      · unfold runI
        by_cases hc : lost = none ∧ (i : Int) = now
        · rw [show decide (lost = none ∧ (i : Int) = now) = true by simpa using hc, if_pos hc]
          simp only [does_ok, does_no, does_noX, does_bind, does_some, does_none, does_ofS, does_ofSif, does_oif, does_omap, does_if, nxt_nx, nxt_ret, nxt_brk, nxt_ct, turn_nx, turn_ret, turn_brk, turn_ct, if_no, exS, evE, evEs, evO, evC, evI, asgL, asgLs, asgT, asgTs, setPar, truR, appD, ownB, twos, scr_len, o_addII, o_addIB, o_addTT, o_addLL, o_addSS, o_subII, o_mulII, o_divII, o_modII, o_powII, q_ltII, q_leII, q_gtII, q_geII, q_isN, q_notN, isNone_n, isNone_i, isNone_b, isNone_s, isNone_t, isNone_l, q_isB, q_notB, q_eq, q_ne, eqC_i, eqC_n, eqC_b, eqC_s, eqC_t, eqC_l, unref_i, unref_n, unref_b, unref_s, unref_t, unref_l, eq_II, eq_SS, eq_BB, eq_NN, eq_NI, eq_IN, t_none, t_bool, t_int, k_abs, k_intI, k_intB, k_lenL, k_lenT, k_tupL, k_tupT, k_lstL, k_lstT, k_max2, k_min2, r_2, u_II, u_add, u_sub, l_list, s_list, s_tup, i_list, i_tup, smallI_eq, List.getElem?_cons_zero, List.getElem?_cons_succ, List.set_cons_zero, List.set_cons_succ, Option.map_some, Option.map_none, Option.bind_some, Option.isSome_some, if_true, if_false, Bool.and_eq_true, Bool.not_true, Bool.not_false, Bool.false_eq_true, decide_true, decide_false, decide_eq_true_eq, true_and, and_true, false_and, and_false, List.length_cons, List.length_nil, List.length_map, List.map_cons, List.map_nil, List.all_cons, List.all_nil, does_alloc, objN_ref, ix_last, set_last, set_lastM, isE_app, List.map_append, isNone_oi, eqC_oi, eq_oi, get_l, get_t, at_0, at_1, at_2, at_3, at_4, at_last, unref_ref, eqC_refL, dicOf_ref, seqOf_ref, lstOf_ref, iterOf_ref, getD_ref, putD_ref, fldD_ref, clsOf_ref, tru_ref, k_tupR, k_lstR, k_sumR, k_sumL, okKey_str, keyT_str, dput_def, fk_str, fk_int, mergeD_nil, mergeD_cons, ffind_nil, ffind_cons, fput_nil, fput_cons, ofString_inj, dfind_nil, dfind_cons, eqv_str, str_beq, twos, appD, ownB, String.reduceEq, Nat.reduceAdd, Nat.reduceLT, Nat.reduceLeDiff, Int.reduceLT, Int.reduceLE, Int.reduceNeg, Nat.reduceSub, Nat.zero_add, asgL, asgLs, List.any_cons, List.any_nil, List.cons_append, List.nil_append, List.replicate, List.reduceReplicate, Nat.sub_self, Option.isSome_none, Bool.or_false, Bool.or_true, Bool.false_or, Bool.true_or, beq_self_eq_true, reduceCtorEq, Bool.and_true, Bool.true_and, hm, hl, at_int hi0 hi1, Int.toNat_natCast]
        · rw [show decide (lost = none ∧ (i : Int) = now) = false by simpa using hc, if_neg hc]
          simp only [does_ok, does_no, does_noX, does_bind, does_some, does_none, does_ofS, does_ofSif, does_oif, does_omap, does_if, nxt_nx, nxt_ret, nxt_brk, nxt_ct, turn_nx, turn_ret, turn_brk, turn_ct, if_no, exS, evE, evEs, evO, evC, evI, asgL, asgLs, asgT, asgTs, setPar, truR, appD, ownB, twos, scr_len, o_addII, o_addIB, o_addTT, o_addLL, o_addSS, o_subII, o_mulII, o_divII, o_modII, o_powII, q_ltII, q_leII, q_gtII, q_geII, q_isN, q_notN, isNone_n, isNone_i, isNone_b, isNone_s, isNone_t, isNone_l, q_isB, q_notB, q_eq, q_ne, eqC_i, eqC_n, eqC_b, eqC_s, eqC_t, eqC_l, unref_i, unref_n, unref_b, unref_s, unref_t, unref_l, eq_II, eq_SS, eq_BB, eq_NN, eq_NI, eq_IN, t_none, t_bool, t_int, k_abs, k_intI, k_intB, k_lenL, k_lenT, k_tupL, k_tupT, k_lstL, k_lstT, k_max2, k_min2, r_2, u_II, u_add, u_sub, l_list, s_list, s_tup, i_list, i_tup, smallI_eq, List.getElem?_cons_zero, List.getElem?_cons_succ, List.set_cons_zero, List.set_cons_succ, Option.map_some, Option.map_none, Option.bind_some, Option.isSome_some, if_true, if_false, Bool.and_eq_true, Bool.not_true, Bool.not_false, Bool.false_eq_true, decide_true, decide_false, decide_eq_true_eq, true_and, and_true, false_and, and_false, List.length_cons, List.length_nil, List.length_map, List.map_cons, List.map_nil, List.all_cons, List.all_nil, does_alloc, objN_ref, ix_last, set_last, set_lastM, isE_app, List.map_append, isNone_oi, eqC_oi, eq_oi, get_l, get_t, at_0, at_1, at_2, at_3, at_4, at_last, unref_ref, eqC_refL, dicOf_ref, seqOf_ref, lstOf_ref, iterOf_ref, getD_ref, putD_ref, fldD_ref, clsOf_ref, tru_ref, k_tupR, k_lstR, k_sumR, k_sumL, okKey_str, keyT_str, dput_def, fk_str, fk_int, mergeD_nil, mergeD_cons, ffind_nil, ffind_cons, fput_nil, fput_cons, ofString_inj, dfind_nil, dfind_cons, eqv_str, str_beq, twos, appD, ownB, String.reduceEq, Nat.reduceAdd, Nat.reduceLT, Nat.reduceLeDiff, Int.reduceLT, Int.reduceLE, Int.reduceNeg, Nat.reduceSub, Nat.zero_add, asgL, asgLs, List.any_cons, List.any_nil, List.cons_append, List.nil_append, List.replicate, List.reduceReplicate, Nat.sub_self, Option.isSome_none, Bool.or_false, Bool.or_true, Bool.false_or, Bool.true_or, beq_self_eq_true, reduceCtorEq, Bool.and_true, Bool.true_and, hm, hl, at_int hi0 hi1, Int.toNat_natCast]
      (refine hk.nx ?_; clear hk K; try with_reducible refine does_nilp ?_)
      refine step fun K hk => ?_
      simp only [does_ok, does_no, does_noX, does_bind, does_some, does_none, does_ofS, does_ofSif, does_oif, does_omap, does_if, nxt_nx, nxt_ret, nxt_brk, nxt_ct, turn_nx, turn_ret, turn_brk, turn_ct, if_no, exS, evE, evEs, evO, evC, evI, asgL, asgLs, asgT, asgTs, setPar, truR, appD, ownB, twos, scr_len, o_addII, o_addIB, o_addTT, o_addLL, o_addSS, o_subII, o_mulII, o_divII, o_modII, o_powII, q_ltII, q_leII, q_gtII, q_geII, q_isN, q_notN, isNone_n, isNone_i, isNone_b, isNone_s, isNone_t, isNone_l, q_isB, q_notB, q_eq, q_ne, eqC_i, eqC_n, eqC_b, eqC_s, eqC_t, eqC_l, unref_i, unref_n, unref_b, unref_s, unref_t, unref_l, eq_II, eq_SS, eq_BB, eq_NN, eq_NI, eq_IN, t_none, t_bool, t_int, k_abs, k_intI, k_intB, k_lenL, k_lenT, k_tupL, k_tupT, k_lstL, k_lstT, k_max2, k_min2, r_2, u_II, u_add, u_sub, l_list, s_list, s_tup, i_list, i_tup, smallI_eq, List.getElem?_cons_zero, List.getElem?_cons_succ, List.set_cons_zero, List.set_cons_succ, Option.map_some, Option.map_none, Option.bind_some, Option.isSome_some, if_true, if_false, Bool.and_eq_true, Bool.not_true, Bool.not_false, Bool.false_eq_true, decide_true, decide_false, decide_eq_true_eq, true_and, and_true, false_and, and_false, List.length_cons, List.length_nil, List.length_map, List.map_cons, List.map_nil, List.all_cons, List.all_nil, does_alloc, objN_ref, ix_last, set_last, set_lastM, isE_app, List.map_append, isNone_oi, eqC_oi, eq_oi, get_l, get_t, at_0, at_1, at_2, at_3, at_4, at_last, unref_ref, eqC_refL, dicOf_ref, seqOf_ref, lstOf_ref, iterOf_ref, getD_ref, putD_ref, fldD_ref, clsOf_ref, tru_ref, k_tupR, k_lstR, k_sumR, k_sumL, okKey_str, keyT_str, dput_def, fk_str, fk_int, mergeD_nil, mergeD_cons, ffind_nil, ffind_cons, fput_nil, fput_cons, ofString_inj, dfind_nil, dfind_cons, eqv_str, str_beq, twos, appD, ownB, String.reduceEq, Nat.reduceAdd, Nat.reduceLT, Nat.reduceLeDiff, Int.reduceLT, Int.reduceLE, Int.reduceNeg, Nat.reduceSub, Nat.zero_add, asgL, asgLs, List.any_cons, List.any_nil, List.cons_append, List.nil_append, List.replicate, List.reduceReplicate, Nat.sub_self, Option.isSome_none, Bool.or_false, Bool.or_true, Bool.false_or, Bool.true_or, beq_self_eq_true, reduceCtorEq, Bool.and_true, Bool.true_and, L__law_looks_right__law_told, L__law_looks_right__law_same]
      refine told1_does hS' hr' hi0 hi1 (fun h => by have := B.lt; omega) fun _ => ?_
      simp only [does_ok, does_no, does_noX, does_bind, does_some, does_none, does_ofS, does_ofSif, does_oif, does_omap, does_if, nxt_nx, nxt_ret, nxt_brk, nxt_ct, turn_nx, turn_ret, turn_brk, turn_ct, if_no, exS, evE, evEs, evO, evC, evI, asgL, asgLs, asgT, asgTs, setPar, truR, appD, ownB, twos, scr_len, o_addII, o_addIB, o_addTT, o_addLL, o_addSS, o_subII, o_mulII, o_divII, o_modII, o_powII, q_ltII, q_leII, q_gtII, q_geII, q_isN, q_notN, isNone_n, isNone_i, isNone_b, isNone_s, isNone_t, isNone_l, q_isB, q_notB, q_eq, q_ne, eqC_i, eqC_n, eqC_b, eqC_s, eqC_t, eqC_l, unref_i, unref_n, unref_b, unref_s, unref_t, unref_l, eq_II, eq_SS, eq_BB, eq_NN, eq_NI, eq_IN, t_none, t_bool, t_int, k_abs, k_intI, k_intB, k_lenL, k_lenT, k_tupL, k_tupT, k_lstL, k_lstT, k_max2, k_min2, r_2, u_II, u_add, u_sub, l_list, s_list, s_tup, i_list, i_tup, smallI_eq, List.getElem?_cons_zero, List.getElem?_cons_succ, List.set_cons_zero, List.set_cons_succ, Option.map_some, Option.map_none, Option.bind_some, Option.isSome_some, if_true, if_false, Bool.and_eq_true, Bool.not_true, Bool.not_false, Bool.false_eq_true, decide_true, decide_false, decide_eq_true_eq, true_and, and_true, false_and, and_false, List.length_cons, List.length_nil, List.length_map, List.map_cons, List.map_nil, List.all_cons, List.all_nil, does_alloc, objN_ref, ix_last, set_last, set_lastM, isE_app, List.map_append, isNone_oi, eqC_oi, eq_oi, get_l, get_t, at_0, at_1, at_2, at_3, at_4, at_last, unref_ref, eqC_refL, dicOf_ref, seqOf_ref, lstOf_ref, iterOf_ref, getD_ref, putD_ref, fldD_ref, clsOf_ref, tru_ref, k_tupR, k_lstR, k_sumR, k_sumL, okKey_str, keyT_str, dput_def, fk_str, fk_int, mergeD_nil, mergeD_cons, ffind_nil, ffind_cons, fput_nil, fput_cons, ofString_inj, dfind_nil, dfind_cons, eqv_str, str_beq, twos, appD, ownB, String.reduceEq, Nat.reduceAdd, Nat.reduceLT, Nat.reduceLeDiff, Int.reduceLT, Int.reduceLE, Int.reduceNeg, Nat.reduceSub, Nat.zero_add, asgL, asgLs, List.any_cons, List.any_nil, List.cons_append, List.nil_append, List.replicate, List.reduceReplicate, Nat.sub_self, Option.isSome_none, Bool.or_false, Bool.or_true, Bool.false_or, Bool.true_or, beq_self_eq_true, reduceCtorEq, Bool.and_true, Bool.true_and, Int.toNat_natCast]
      refine sm_does (Rg.int ?_) (by decide) (by decide) ?_
      · have := B.get i
        have := B.l0
        have := B.lt
        have := B.t1
        unfold runI
        split <;> omega
      simp only [does_ok, does_no, does_noX, does_bind, does_some, does_none, does_ofS, does_ofSif, does_oif, does_omap, does_if, nxt_nx, nxt_ret, nxt_brk, nxt_ct, turn_nx, turn_ret, turn_brk, turn_ct, if_no, exS, evE, evEs, evO, evC, evI, asgL, asgLs, asgT, asgTs, setPar, truR, appD, ownB, twos, scr_len, o_addII, o_addIB, o_addTT, o_addLL, o_addSS, o_subII, o_mulII, o_divII, o_modII, o_powII, q_ltII, q_leII, q_gtII, q_geII, q_isN, q_notN, isNone_n, isNone_i, isNone_b, isNone_s, isNone_t, isNone_l, q_isB, q_notB, q_eq, q_ne, eqC_i, eqC_n, eqC_b, eqC_s, eqC_t, eqC_l, unref_i, unref_n, unref_b, unref_s, unref_t, unref_l, eq_II, eq_SS, eq_BB, eq_NN, eq_NI, eq_IN, t_none, t_bool, t_int, k_abs, k_intI, k_intB, k_lenL, k_lenT, k_tupL, k_tupT, k_lstL, k_lstT, k_max2, k_min2, r_2, u_II, u_add, u_sub, l_list, s_list, s_tup, i_list, i_tup, smallI_eq, List.getElem?_cons_zero, List.getElem?_cons_succ, List.set_cons_zero, List.set_cons_succ, Option.map_some, Option.map_none, Option.bind_some, Option.isSome_some, if_true, if_false, Bool.and_eq_true, Bool.not_true, Bool.not_false, Bool.false_eq_true, decide_true, decide_false, decide_eq_true_eq, true_and, and_true, false_and, and_false, List.length_cons, List.length_nil, List.length_map, List.map_cons, List.map_nil, List.all_cons, List.all_nil, does_alloc, objN_ref, ix_last, set_last, set_lastM, isE_app, List.map_append, isNone_oi, eqC_oi, eq_oi, get_l, get_t, at_0, at_1, at_2, at_3, at_4, at_last, unref_ref, eqC_refL, dicOf_ref, seqOf_ref, lstOf_ref, iterOf_ref, getD_ref, putD_ref, fldD_ref, clsOf_ref, tru_ref, k_tupR, k_lstR, k_sumR, k_sumL, okKey_str, keyT_str, dput_def, fk_str, fk_int, mergeD_nil, mergeD_cons, ffind_nil, ffind_cons, fput_nil, fput_cons, ofString_inj, dfind_nil, dfind_cons, eqv_str, str_beq, twos, appD, ownB, String.reduceEq, Nat.reduceAdd, Nat.reduceLT, Nat.reduceLeDiff, Int.reduceLT, Int.reduceLE, Int.reduceNeg, Nat.reduceSub, Nat.zero_add, asgL, asgLs, List.any_cons, List.any_nil, List.cons_append, List.nil_append, List.replicate, List.reduceReplicate, Nat.sub_self, Option.isSome_none, Bool.or_false, Bool.or_true, Bool.false_or, Bool.true_or, beq_self_eq_true, reduceCtorEq, Bool.and_true, Bool.true_and, does_nil]
      (refine hk.nx ?_; clear hk K; try with_reducible refine does_nilp ?_)
      (refine hk.nx ?_; clear hk K; try with_reducible refine does_nilp ?_)
      exact ⟨rfl, _, _, _, rfl⟩
    · simp only [does_nil]
      (refine hk.nx ?_; clear hk K; try with_reducible refine does_nilp ?_)
      exact ⟨rfl, _, _, _, rfl⟩
  · rintro _ _ ⟨rfl, x4, x5, x6, rfl⟩
    (refine hk.nx ?_; clear hk K; try with_reducible refine does_nilp ?_)
    refine step fun K hk => ?_
    cases lost with
    | none =>
      simp only [does_ok, does_no, does_noX, does_bind, does_some, does_none, does_ofS, does_ofSif, does_oif, does_omap, does_if, nxt_nx, nxt_ret, nxt_brk, nxt_ct, turn_nx, turn_ret, turn_brk, turn_ct, if_no, exS, evE, evEs, evO, evC, evI, asgL, asgLs, asgT, asgTs, setPar, truR, appD, ownB, twos, scr_len, o_addII, o_addIB, o_addTT, o_addLL, o_addSS, o_subII, o_mulII, o_divII, o_modII, o_powII, q_ltII, q_leII, q_gtII, q_geII, q_isN, q_notN, isNone_n, isNone_i, isNone_b, isNone_s, isNone_t, isNone_l, q_isB, q_notB, q_eq, q_ne, eqC_i, eqC_n, eqC_b, eqC_s, eqC_t, eqC_l, unref_i, unref_n, unref_b, unref_s, unref_t, unref_l, eq_II, eq_SS, eq_BB, eq_NN, eq_NI, eq_IN, t_none, t_bool, t_int, k_abs, k_intI, k_intB, k_lenL, k_lenT, k_tupL, k_tupT, k_lstL, k_lstT, k_max2, k_min2, r_2, u_II, u_add, u_sub, l_list, s_list, s_tup, i_list, i_tup, smallI_eq, List.getElem?_cons_zero, List.getElem?_cons_succ, List.set_cons_zero, List.set_cons_succ, Option.map_some, Option.map_none, Option.bind_some, Option.isSome_some, if_true, if_false, Bool.and_eq_true, Bool.not_true, Bool.not_false, Bool.false_eq_true, decide_true, decide_false, decide_eq_true_eq, true_and, and_true, false_and, and_false, List.length_cons, List.length_nil, List.length_map, List.map_cons, List.map_nil, List.all_cons, List.all_nil, does_alloc, objN_ref, ix_last, set_last, set_lastM, isE_app, List.map_append, isNone_oi, eqC_oi, eq_oi, get_l, get_t, at_0, at_1, at_2, at_3, at_4, at_last, unref_ref, eqC_refL, dicOf_ref, seqOf_ref, lstOf_ref, iterOf_ref, getD_ref, putD_ref, fldD_ref, clsOf_ref, tru_ref, k_tupR, k_lstR, k_sumR, k_sumL, okKey_str, keyT_str, dput_def, fk_str, fk_int, mergeD_nil, mergeD_cons, ffind_nil, ffind_cons, fput_nil, fput_cons, ofString_inj, dfind_nil, dfind_cons, eqv_str, str_beq, twos, appD, ownB, String.reduceEq, Nat.reduceAdd, Nat.reduceLT, Nat.reduceLeDiff, Int.reduceLT, Int.reduceLE, Int.reduceNeg, Nat.reduceSub, Nat.zero_add, asgL, asgLs, List.any_cons, List.any_nil, List.cons_append, List.nil_append, List.replicate, List.reduceReplicate, Nat.sub_self, Option.isSome_none, Bool.or_false, Bool.or_true, Bool.false_or, Bool.true_or, beq_self_eq_true, reduceCtorEq, Bool.and_true, Bool.true_and, hm, oi_n]
      refine step fun K hk => ?_
      simp only [does_ok, does_no, does_noX, does_bind, does_some, does_none, does_ofS, does_ofSif, does_oif, does_omap, does_if, nxt_nx, nxt_ret, nxt_brk, nxt_ct, turn_nx, turn_ret, turn_brk, turn_ct, if_no, exS, evE, evEs, evO, evC, evI, asgL, asgLs, asgT, asgTs, setPar, truR, appD, ownB, twos, scr_len, o_addII, o_addIB, o_addTT, o_addLL, o_addSS, o_subII, o_mulII, o_divII, o_modII, o_powII, q_ltII, q_leII, q_gtII, q_geII, q_isN, q_notN, isNone_n, isNone_i, isNone_b, isNone_s, isNone_t, isNone_l, q_isB, q_notB, q_eq, q_ne, eqC_i, eqC_n, eqC_b, eqC_s, eqC_t, eqC_l, unref_i, unref_n, unref_b, unref_s, unref_t, unref_l, eq_II, eq_SS, eq_BB, eq_NN, eq_NI, eq_IN, t_none, t_bool, t_int, k_abs, k_intI, k_intB, k_lenL, k_lenT, k_tupL, k_tupT, k_lstL, k_lstT, k_max2, k_min2, r_2, u_II, u_add, u_sub, l_list, s_list, s_tup, i_list, i_tup, smallI_eq, List.getElem?_cons_zero, List.getElem?_cons_succ, List.set_cons_zero, List.set_cons_succ, Option.map_some, Option.map_none, Option.bind_some, Option.isSome_some, if_true, if_false, Bool.and_eq_true, Bool.not_true, Bool.not_false, Bool.false_eq_true, decide_true, decide_false, decide_eq_true_eq, true_and, and_true, false_and, and_false, List.length_cons, List.length_nil, List.length_map, List.map_cons, List.map_nil, List.all_cons, List.all_nil, does_alloc, objN_ref, ix_last, set_last, set_lastM, isE_app, List.map_append, isNone_oi, eqC_oi, eq_oi, get_l, get_t, at_0, at_1, at_2, at_3, at_4, at_last, unref_ref, eqC_refL, dicOf_ref, seqOf_ref, lstOf_ref, iterOf_ref, getD_ref, putD_ref, fldD_ref, clsOf_ref, tru_ref, k_tupR, k_lstR, k_sumR, k_sumL, okKey_str, keyT_str, dput_def, fk_str, fk_int, mergeD_nil, mergeD_cons, ffind_nil, ffind_cons, fput_nil, fput_cons, ofString_inj, dfind_nil, dfind_cons, eqv_str, str_beq, twos, appD, ownB, String.reduceEq, Nat.reduceAdd, Nat.reduceLT, Nat.reduceLeDiff, Int.reduceLT, Int.reduceLE, Int.reduceNeg, Nat.reduceSub, Nat.zero_add, asgL, asgLs, List.any_cons, List.any_nil, List.cons_append, List.nil_append, List.replicate, List.reduceReplicate, Nat.sub_self, Option.isSome_none, Bool.or_false, Bool.or_true, Bool.false_or, Bool.true_or, beq_self_eq_true, reduceCtorEq, Bool.and_true, Bool.true_and, hm, L__law_looks_right__law_told]
      refine told1_does (time := latest - 1) hS' hr' (by decide) (by omega) (fun h => ?_) fun h => by omega
      have eb : eqC S backD (.list [.str "none", .str "time"]) = some true := by
        rw [← eq_back]; rfl
      rw [eb]
      simp only [does_ok, does_no, does_noX, does_bind, does_some, does_none, does_ofS, does_ofSif, does_oif, does_omap, does_if, nxt_nx, nxt_ret, nxt_brk, nxt_ct, turn_nx, turn_ret, turn_brk, turn_ct, if_no, exS, evE, evEs, evO, evC, evI, asgL, asgLs, asgT, asgTs, setPar, truR, appD, ownB, twos, scr_len, o_addII, o_addIB, o_addTT, o_addLL, o_addSS, o_subII, o_mulII, o_divII, o_modII, o_powII, q_ltII, q_leII, q_gtII, q_geII, q_isN, q_notN, isNone_n, isNone_i, isNone_b, isNone_s, isNone_t, isNone_l, q_isB, q_notB, q_eq, q_ne, eqC_i, eqC_n, eqC_b, eqC_s, eqC_t, eqC_l, unref_i, unref_n, unref_b, unref_s, unref_t, unref_l, eq_II, eq_SS, eq_BB, eq_NN, eq_NI, eq_IN, t_none, t_bool, t_int, k_abs, k_intI, k_intB, k_lenL, k_lenT, k_tupL, k_tupT, k_lstL, k_lstT, k_max2, k_min2, r_2, u_II, u_add, u_sub, l_list, s_list, s_tup, i_list, i_tup, smallI_eq, List.getElem?_cons_zero, List.getElem?_cons_succ, List.set_cons_zero, List.set_cons_succ, Option.map_some, Option.map_none, Option.bind_some, Option.isSome_some, if_true, if_false, Bool.and_eq_true, Bool.not_true, Bool.not_false, Bool.false_eq_true, decide_true, decide_false, decide_eq_true_eq, true_and, and_true, false_and, and_false, List.length_cons, List.length_nil, List.length_map, List.map_cons, List.map_nil, List.all_cons, List.all_nil, does_alloc, objN_ref, ix_last, set_last, set_lastM, isE_app, List.map_append, isNone_oi, eqC_oi, eq_oi, get_l, get_t, at_0, at_1, at_2, at_3, at_4, at_last, unref_ref, eqC_refL, dicOf_ref, seqOf_ref, lstOf_ref, iterOf_ref, getD_ref, putD_ref, fldD_ref, clsOf_ref, tru_ref, k_tupR, k_lstR, k_sumR, k_sumL, okKey_str, keyT_str, dput_def, fk_str, fk_int, mergeD_nil, mergeD_cons, ffind_nil, ffind_cons, fput_nil, fput_cons, ofString_inj, dfind_nil, dfind_cons, eqv_str, str_beq, twos, appD, ownB, String.reduceEq, Nat.reduceAdd, Nat.reduceLT, Nat.reduceLeDiff, Int.reduceLT, Int.reduceLE, Int.reduceNeg, Nat.reduceSub, Nat.zero_add, asgL, asgLs, List.any_cons, List.any_nil, List.cons_append, List.nil_append, List.replicate, List.reduceReplicate, Nat.sub_self, Option.isSome_none, Bool.or_false, Bool.or_true, Bool.false_or, Bool.true_or, beq_self_eq_true, reduceCtorEq, Bool.and_true, Bool.true_and, hm]
      refine told0_does (time := latest - 1) hS' hr' B.n0 B.n1 hnr (fun h => ?_) (fun h => by omega) fun h => by omega
      rw [eb]
      simp only [does_ok, does_no, does_noX, does_bind, does_some, does_none, does_ofS, does_ofSif, does_oif, does_omap, does_if, nxt_nx, nxt_ret, nxt_brk, nxt_ct, turn_nx, turn_ret, turn_brk, turn_ct, if_no, exS, evE, evEs, evO, evC, evI, asgL, asgLs, asgT, asgTs, setPar, truR, appD, ownB, twos, scr_len, o_addII, o_addIB, o_addTT, o_addLL, o_addSS, o_subII, o_mulII, o_divII, o_modII, o_powII, q_ltII, q_leII, q_gtII, q_geII, q_isN, q_notN, isNone_n, isNone_i, isNone_b, isNone_s, isNone_t, isNone_l, q_isB, q_notB, q_eq, q_ne, eqC_i, eqC_n, eqC_b, eqC_s, eqC_t, eqC_l, unref_i, unref_n, unref_b, unref_s, unref_t, unref_l, eq_II, eq_SS, eq_BB, eq_NN, eq_NI, eq_IN, t_none, t_bool, t_int, k_abs, k_intI, k_intB, k_lenL, k_lenT, k_tupL, k_tupT, k_lstL, k_lstT, k_max2, k_min2, r_2, u_II, u_add, u_sub, l_list, s_list, s_tup, i_list, i_tup, smallI_eq, List.getElem?_cons_zero, List.getElem?_cons_succ, List.set_cons_zero, List.set_cons_succ, Option.map_some, Option.map_none, Option.bind_some, Option.isSome_some, if_true, if_false, Bool.and_eq_true, Bool.not_true, Bool.not_false, Bool.false_eq_true, decide_true, decide_false, decide_eq_true_eq, true_and, and_true, false_and, and_false, List.length_cons, List.length_nil, List.length_map, List.map_cons, List.map_nil, List.all_cons, List.all_nil, does_alloc, objN_ref, ix_last, set_last, set_lastM, isE_app, List.map_append, isNone_oi, eqC_oi, eq_oi, get_l, get_t, at_0, at_1, at_2, at_3, at_4, at_last, unref_ref, eqC_refL, dicOf_ref, seqOf_ref, lstOf_ref, iterOf_ref, getD_ref, putD_ref, fldD_ref, clsOf_ref, tru_ref, k_tupR, k_lstR, k_sumR, k_sumL, okKey_str, keyT_str, dput_def, fk_str, fk_int, mergeD_nil, mergeD_cons, ffind_nil, ffind_cons, fput_nil, fput_cons, ofString_inj, dfind_nil, dfind_cons, eqv_str, str_beq, twos, appD, ownB, String.reduceEq, Nat.reduceAdd, Nat.reduceLT, Nat.reduceLeDiff, Int.reduceLT, Int.reduceLE, Int.reduceNeg, Nat.reduceSub, Nat.zero_add, asgL, asgLs, List.any_cons, List.any_nil, List.cons_append, List.nil_append, List.replicate, List.reduceReplicate, Nat.sub_self, Option.isSome_none, Bool.or_false, Bool.or_true, Bool.false_or, Bool.true_or, beq_self_eq_true, reduceCtorEq, Bool.and_true, Bool.true_and]
      (refine hk.ret ?_; clear hk K; try simp only [does_ok])
      (refine hk.ret ?_; clear hk K; try simp only [does_ok])
      exact k
    | some x =>
      simp only [does_ok, does_no, does_noX, does_bind, does_some, does_none, does_ofS, does_ofSif, does_oif, does_omap, does_if, nxt_nx, nxt_ret, nxt_brk, nxt_ct, turn_nx, turn_ret, turn_brk, turn_ct, if_no, exS, evE, evEs, evO, evC, evI, asgL, asgLs, asgT, asgTs, setPar, truR, appD, ownB, twos, scr_len, o_addII, o_addIB, o_addTT, o_addLL, o_addSS, o_subII, o_mulII, o_divII, o_modII, o_powII, q_ltII, q_leII, q_gtII, q_geII, q_isN, q_notN, isNone_n, isNone_i, isNone_b, isNone_s, isNone_t, isNone_l, q_isB, q_notB, q_eq, q_ne, eqC_i, eqC_n, eqC_b, eqC_s, eqC_t, eqC_l, unref_i, unref_n, unref_b, unref_s, unref_t, unref_l, eq_II, eq_SS, eq_BB, eq_NN, eq_NI, eq_IN, t_none, t_bool, t_int, k_abs, k_intI, k_intB, k_lenL, k_lenT, k_tupL, k_tupT, k_lstL, k_lstT, k_max2, k_min2, r_2, u_II, u_add, u_sub, l_list, s_list, s_tup, i_list, i_tup, smallI_eq, List.getElem?_cons_zero, List.getElem?_cons_succ, List.set_cons_zero, List.set_cons_succ, Option.map_some, Option.map_none, Option.bind_some, Option.isSome_some, if_true, if_false, Bool.and_eq_true, Bool.not_true, Bool.not_false, Bool.false_eq_true, decide_true, decide_false, decide_eq_true_eq, true_and, and_true, false_and, and_false, List.length_cons, List.length_nil, List.length_map, List.map_cons, List.map_nil, List.all_cons, List.all_nil, does_alloc, objN_ref, ix_last, set_last, set_lastM, isE_app, List.map_append, isNone_oi, eqC_oi, eq_oi, get_l, get_t, at_0, at_1, at_2, at_3, at_4, at_last, unref_ref, eqC_refL, dicOf_ref, seqOf_ref, lstOf_ref, iterOf_ref, getD_ref, putD_ref, fldD_ref, clsOf_ref, tru_ref, k_tupR, k_lstR, k_sumR, k_sumL, okKey_str, keyT_str, dput_def, fk_str, fk_int, mergeD_nil, mergeD_cons, ffind_nil, ffind_cons, fput_nil, fput_cons, ofString_inj, dfind_nil, dfind_cons, eqv_str, str_beq, twos, appD, ownB, String.reduceEq, Nat.reduceAdd, Nat.reduceLT, Nat.reduceLeDiff, Int.reduceLT, Int.reduceLE, Int.reduceNeg, Nat.reduceSub, Nat.zero_add, asgL, asgLs, List.any_cons, List.any_nil, List.cons_append, List.nil_append, List.replicate, List.reduceReplicate, Nat.sub_self, Option.isSome_none, Bool.or_false, Bool.or_true, Bool.false_or, Bool.true_or, beq_self_eq_true, reduceCtorEq, Bool.and_true, Bool.true_and, hm, oi_s, does_nil]
      (refine hk.nx ?_; clear hk K; try with_reducible refine does_nilp ?_)
      refine step fun K hk => ?_
      simp only [does_ok, does_no, does_noX, does_bind, does_some, does_none, does_ofS, does_ofSif, does_oif, does_omap, does_if, nxt_nx, nxt_ret, nxt_brk, nxt_ct, turn_nx, turn_ret, turn_brk, turn_ct, if_no, exS, evE, evEs, evO, evC, evI, asgL, asgLs, asgT, asgTs, setPar, truR, appD, ownB, twos, scr_len, o_addII, o_addIB, o_addTT, o_addLL, o_addSS, o_subII, o_mulII, o_divII, o_modII, o_powII, q_ltII, q_leII, q_gtII, q_geII, q_isN, q_notN, isNone_n, isNone_i, isNone_b, isNone_s, isNone_t, isNone_l, q_isB, q_notB, q_eq, q_ne, eqC_i, eqC_n, eqC_b, eqC_s, eqC_t, eqC_l, unref_i, unref_n, unref_b, unref_s, unref_t, unref_l, eq_II, eq_SS, eq_BB, eq_NN, eq_NI, eq_IN, t_none, t_bool, t_int, k_abs, k_intI, k_intB, k_lenL, k_lenT, k_tupL, k_tupT, k_lstL, k_lstT, k_max2, k_min2, r_2, u_II, u_add, u_sub, l_list, s_list, s_tup, i_list, i_tup, smallI_eq, List.getElem?_cons_zero, List.getElem?_cons_succ, List.set_cons_zero, List.set_cons_succ, Option.map_some, Option.map_none, Option.bind_some, Option.isSome_some, if_true, if_false, Bool.and_eq_true, Bool.not_true, Bool.not_false, Bool.false_eq_true, decide_true, decide_false, decide_eq_true_eq, true_and, and_true, false_and, and_false, List.length_cons, List.length_nil, List.length_map, List.map_cons, List.map_nil, List.all_cons, List.all_nil, does_alloc, objN_ref, ix_last, set_last, set_lastM, isE_app, List.map_append, isNone_oi, eqC_oi, eq_oi, get_l, get_t, at_0, at_1, at_2, at_3, at_4, at_last, unref_ref, eqC_refL, dicOf_ref, seqOf_ref, lstOf_ref, iterOf_ref, getD_ref, putD_ref, fldD_ref, clsOf_ref, tru_ref, k_tupR, k_lstR, k_sumR, k_sumL, okKey_str, keyT_str, dput_def, fk_str, fk_int, mergeD_nil, mergeD_cons, ffind_nil, ffind_cons, fput_nil, fput_cons, ofString_inj, dfind_nil, dfind_cons, eqv_str, str_beq, twos, appD, ownB, String.reduceEq, Nat.reduceAdd, Nat.reduceLT, Nat.reduceLeDiff, Int.reduceLT, Int.reduceLE, Int.reduceNeg, Nat.reduceSub, Nat.zero_add, asgL, asgLs, List.any_cons, List.any_nil, List.cons_append, List.nil_append, List.replicate, List.reduceReplicate, Nat.sub_self, Option.isSome_none, Bool.or_false, Bool.or_true, Bool.false_or, Bool.true_or, beq_self_eq_true, reduceCtorEq, Bool.and_true, Bool.true_and]
      (refine hk.ret ?_; clear hk K; try simp only [does_ok])
      exact k
end
end PL
set_option autoImplicit false
set_option linter.all false
set_option maxRecDepth 100000
set_option maxHeartbeats 4000000
set_option Elab.async false
namespace PL
open PySem
section
structure KI (S : Store) (more now latest : Int) (lost : Option Int) (rows : List Int) : Prop where
  w : WOk S 0
  o1 : S[1]? = some (tcO more 2 now latest lost)
  o2 : S[2]? = some (lstO rows)
  o3 : S[3]? = some (tcO 1 4 0 0 none)
  o4 : S[4]? = some (lstO [9, 9])
  o5 : S[5]? = some (lstO rows)
  o6 : S[6]? = some (mO 5 now latest lost)
theorem WOk.ne {S S' : Store} {n : Nat} (h : WOk S n) (e : S'[n]? = S[n]?) : WOk S' n := by
  obtain ⟨ds, i, a, b, c⟩ := h
  exact ⟨ds, i, e.trans a, b, c⟩
theorem KI.draw {S : Store} {more now latest : Int} {lost : Option Int} {rows : List Int} (h : KI S more now latest lost rows) {o : SO} (hw : WOk (S.set 0 o) 0) : KI (S.set 0 o) more now latest lost rows := by
  refine ⟨hw, ?_, ?_, ?_, ?_, ?_, ?_⟩
  · rw [get_set_ne (by omega)]; exact h.o1
  · rw [get_set_ne (by omega)]; exact h.o2
  · rw [get_set_ne (by omega)]; exact h.o3
  · rw [get_set_ne (by omega)]; exact h.o4
  · rw [get_set_ne (by omega)]; exact h.o5
  · rw [get_set_ne (by omega)]; exact h.o6
structure Bi (i : Nat) (players : Nat) (more now latest time : Int) (lost : Option Int) (rows : List Int) : Prop where
  ip : i ≤ 21
  pl : rows.length = players
  p2 : 2 ≤ players ∧ players ≤ 4
  mo : 0 ≤ more ∧ more ≤ 4
  n0 : 0 ≤ now ∧ now < players
  l0 : 0 ≤ latest ∧ latest ≤ time
  t1 : time ≤ 20 * i
  rb : ∀ x ∈ rows, -1000 * (i + 1 : Int) ≤ x ∧ x ≤ 1000 * (i + 1)
  lo : ∀ x, lost = some x → 0 ≤ x ∧ x < players
theorem Bi.bds {i players : Nat} {more now latest time time' : Int} {lost : Option Int} {rows : List Int} (B : Bi i players more now latest time lost rows) (h : time ≤ time' ∧ time' ≤ time + 100) : Bds rows now latest time' lost := by
  obtain ⟨a1, a2, a3, a4, a5, a6, a7, a8, a9⟩ := B
  refine ⟨by omega, a5.1, by omega, a6.1, by omega, by omega, fun x hx => ?_, fun x e => ?_⟩
  · have := a8 x hx; omega
  · have := a9 x e; omega
theorem Bi.get {i players : Nat} {more now latest time : Int} {lost : Option Int} {rows : List Int} (B : Bi i players more now latest time lost rows) (j : Nat) : -1000 * (i + 1 : Int) ≤ rows.getD j 0 ∧ rows.getD j 0 ≤ 1000 * (i + 1) := by
  by_cases h : j < rows.length
  · rw [List.getD_eq_getElem?_getD, List.getElem?_eq_getElem h]
    exact B.rb _ (List.getElem_mem h)
  · rw [List.getD_eq_getElem?_getD, List.getElem?_eq_none (by omega)]
    simp; omega
theorem Bi.later {i players : Nat} {more now latest time time' : Int} {lost : Option Int} {rows : List Int} (B : Bi i players more now latest time lost rows) (h : time ≤ time') (h' : time' ≤ time + 20) (hi : i + 1 ≤ 21) : Bi (i + 1) players more now latest time' lost rows := by
  obtain ⟨a1, a2, a3, a4, a5, a6, a7, a8, a9⟩ := B
  refine ⟨hi, a2, a3, a4, a5, by omega, by omega, fun x hx => ?_, a9⟩
  have := a8 x hx; omega
theorem Bi.move {i players : Nat} {more now latest time time' : Int} {rows : List Int} (B : Bi i players more now latest time none rows) (h : time ≤ time') (h' : time' ≤ time + 20) (hi : i + 1 ≤ 21) :
    Bi (i + 1) players more (nowM rows now latest time') time' time' (if outL rows now latest time' then some now else none) (rowsM rows now latest time' more) := by
  have hg := B.get now.toNat
  obtain ⟨a1, a2, a3, a4, a5, a6, a7, a8, a9⟩ := B
  have hr : restI rows now latest time' = rows.getD now.toNat 0 - (time' - latest) := rfl
  have hm : 0 ≤ (now + 1) % (rows.length : Int) ∧ (now + 1) % (rows.length : Int) < rows.length := ⟨Int.emod_nonneg _ (by omega), Int.emod_lt_of_pos _ (by omega)⟩
  refine ⟨hi, by unfold rowsM; rw [List.length_set]; exact a2, a3, a4, ?_, by omega, by omega, fun x hx => ?_, fun x e => ?_⟩
  · unfold nowM
    split <;> omega
  · unfold rowsM at hx
    rcases List.mem_or_eq_of_mem_set hx with hx | hx
    · have := a8 x hx; omega
    · subst hx
      split <;> omega
  · split at e
    · cases e; exact a5
    · cases e
def LI (ns : List Int) (players : Nat) (more : Int) (i : Nat) (Γ : Env) (S : Store) : Prop := ∃ (time : Int) (x4 x5 x10 x11 : Option Sl) (now latest : Int) (lost : Option Int) (rows : List Int),
  Γ = [some (.pure (scr (ns.map .int))), some (.pure (ref 0)), some (.pure (ref 6)), some (.pure (.int time)), x4, x5, some (.pure (.int more)), some (.pure (.int players)), some (.pure (ref 1)), some (.pure (ref 3)), x10, x11] ∧
    KI S more now latest lost rows ∧ Bi i players more now latest time lost rows
theorem plain (ns : List Int) (hn : ns.length ≤ 63) : ∃ S', r_law [scr (ns.map PyData.int)] [] = .ok (.bool true) S' := by
  have main : Does (r_law [scr (ns.map PyData.int)] []) (fun d _ => d = .bool true) := by
    rw [R_law]
    unfold runDef b_law
    try simp only [does_ok, does_no, does_noX, does_bind, does_some, does_none, does_ofS, does_ofSif, does_oif, does_omap, does_if, nxt_nx, nxt_ret, nxt_brk, nxt_ct, turn_nx, turn_ret, turn_brk, turn_ct, if_no, exS, evE, evEs, evO, evC, evI, asgL, asgLs, asgT, asgTs, setPar, truR, appD, ownB, twos, scr_len, o_addII, o_addIB, o_addTT, o_addLL, o_addSS, o_subII, o_mulII, o_divII, o_modII, o_powII, q_ltII, q_leII, q_gtII, q_geII, q_isN, q_notN, isNone_n, isNone_i, isNone_b, isNone_s, isNone_t, isNone_l, q_isB, q_notB, q_eq, q_ne, eqC_i, eqC_n, eqC_b, eqC_s, eqC_t, eqC_l, unref_i, unref_n, unref_b, unref_s, unref_t, unref_l, eq_II, eq_SS, eq_BB, eq_NN, eq_NI, eq_IN, t_none, t_bool, t_int, k_abs, k_intI, k_intB, k_lenL, k_lenT, k_tupL, k_tupT, k_lstL, k_lstT, k_max2, k_min2, r_2, u_II, u_add, u_sub, l_list, s_list, s_tup, i_list, i_tup, smallI_eq, List.getElem?_cons_zero, List.getElem?_cons_succ, List.set_cons_zero, List.set_cons_succ, Option.map_some, Option.map_none, Option.bind_some, Option.isSome_some, if_true, if_false, Bool.and_eq_true, Bool.not_true, Bool.not_false, Bool.false_eq_true, decide_true, decide_false, decide_eq_true_eq, true_and, and_true, false_and, and_false, List.length_cons, List.length_nil, List.length_map, List.map_cons, List.map_nil, List.all_cons, List.all_nil, does_alloc, objN_ref, ix_last, set_last, set_lastM, isE_app, List.map_append, isNone_oi, eqC_oi, eq_oi, get_l, get_t, at_0, at_1, at_2, at_3, at_4, at_last, unref_ref, eqC_refL, dicOf_ref, seqOf_ref, lstOf_ref, iterOf_ref, getD_ref, putD_ref, fldD_ref, clsOf_ref, tru_ref, k_tupR, k_lstR, k_sumR, k_sumL, okKey_str, keyT_str, dput_def, fk_str, fk_int, mergeD_nil, mergeD_cons, ffind_nil, ffind_cons, fput_nil, fput_cons, ofString_inj, dfind_nil, dfind_cons, eqv_str, str_beq, twos, appD, ownB, String.reduceEq, Nat.reduceAdd, Nat.reduceLT, Nat.reduceLeDiff, Int.reduceLT, Int.reduceLE, Int.reduceNeg, Nat.reduceSub, Nat.zero_add, asgL, asgLs, List.any_cons, List.any_nil, List.cons_append, List.nil_append, List.replicate, List.reduceReplicate, Nat.sub_self, Option.isSome_none, Bool.or_false, Bool.or_true, Bool.false_or, Bool.true_or, beq_self_eq_true, reduceCtorEq, Bool.and_true, Bool.true_and]
    refine step fun K hk => ?_
    simp only [does_ok, does_no, does_noX, does_bind, does_some, does_none, does_ofS, does_ofSif, does_oif, does_omap, does_if, nxt_nx, nxt_ret, nxt_brk, nxt_ct, turn_nx, turn_ret, turn_brk, turn_ct, if_no, exS, evE, evEs, evO, evC, evI, asgL, asgLs, asgT, asgTs, setPar, truR, appD, ownB, twos, scr_len, o_addII, o_addIB, o_addTT, o_addLL, o_addSS, o_subII, o_mulII, o_divII, o_modII, o_powII, q_ltII, q_leII, q_gtII, q_geII, q_isN, q_notN, isNone_n, isNone_i, isNone_b, isNone_s, isNone_t, isNone_l, q_isB, q_notB, q_eq, q_ne, eqC_i, eqC_n, eqC_b, eqC_s, eqC_t, eqC_l, unref_i, unref_n, unref_b, unref_s, unref_t, unref_l, eq_II, eq_SS, eq_BB, eq_NN, eq_NI, eq_IN, t_none, t_bool, t_int, k_abs, k_intI, k_intB, k_lenL, k_lenT, k_tupL, k_tupT, k_lstL, k_lstT, k_max2, k_min2, r_2, u_II, u_add, u_sub, l_list, s_list, s_tup, i_list, i_tup, smallI_eq, List.getElem?_cons_zero, List.getElem?_cons_succ, List.set_cons_zero, List.set_cons_succ, Option.map_some, Option.map_none, Option.bind_some, Option.isSome_some, if_true, if_false, Bool.and_eq_true, Bool.not_true, Bool.not_false, Bool.false_eq_true, decide_true, decide_false, decide_eq_true_eq, true_and, and_true, false_and, and_false, List.length_cons, List.length_nil, List.length_map, List.map_cons, List.map_nil, List.all_cons, List.all_nil, does_alloc, objN_ref, ix_last, set_last, set_lastM, isE_app, List.map_append, isNone_oi, eqC_oi, eq_oi, get_l, get_t, at_0, at_1, at_2, at_3, at_4, at_last, unref_ref, eqC_refL, dicOf_ref, seqOf_ref, lstOf_ref, iterOf_ref, getD_ref, putD_ref, fldD_ref, clsOf_ref, tru_ref, k_tupR, k_lstR, k_sumR, k_sumL, okKey_str, keyT_str, dput_def, fk_str, fk_int, mergeD_nil, mergeD_cons, ffind_nil, ffind_cons, fput_nil, fput_cons, ofString_inj, dfind_nil, dfind_cons, eqv_str, str_beq, twos, appD, ownB, String.reduceEq, Nat.reduceAdd, Nat.reduceLT, Nat.reduceLeDiff, Int.reduceLT, Int.reduceLE, Int.reduceNeg, Nat.reduceSub, Nat.zero_add, asgL, asgLs, List.any_cons, List.any_nil, List.cons_append, List.nil_append, List.replicate, List.reduceReplicate, Nat.sub_self, Option.isSome_none, Bool.or_false, Bool.or_true, Bool.false_or, Bool.true_or, beq_self_eq_true, reduceCtorEq, Bool.and_true, Bool.true_and, L_law__law_draws]
    have e160 : (160 : Int) = ((160 : Nat) : Int) := by simp
    refine dr_does 160 e160 hn (by decide) fun ds hds => ?_
    try simp only [does_ok, does_no, does_noX, does_bind, does_some, does_none, does_ofS, does_ofSif, does_oif, does_omap, does_if, nxt_nx, nxt_ret, nxt_brk, nxt_ct, turn_nx, turn_ret, turn_brk, turn_ct, if_no, exS, evE, evEs, evO, evC, evI, asgL, asgLs, asgT, asgTs, setPar, truR, appD, ownB, twos, scr_len, o_addII, o_addIB, o_addTT, o_addLL, o_addSS, o_subII, o_mulII, o_divII, o_modII, o_powII, q_ltII, q_leII, q_gtII, q_geII, q_isN, q_notN, isNone_n, isNone_i, isNone_b, isNone_s, isNone_t, isNone_l, q_isB, q_notB, q_eq, q_ne, eqC_i, eqC_n, eqC_b, eqC_s, eqC_t, eqC_l, unref_i, unref_n, unref_b, unref_s, unref_t, unref_l, eq_II, eq_SS, eq_BB, eq_NN, eq_NI, eq_IN, t_none, t_bool, t_int, k_abs, k_intI, k_intB, k_lenL, k_lenT, k_tupL, k_tupT, k_lstL, k_lstT, k_max2, k_min2, r_2, u_II, u_add, u_sub, l_list, s_list, s_tup, i_list, i_tup, smallI_eq, List.getElem?_cons_zero, List.getElem?_cons_succ, List.set_cons_zero, List.set_cons_succ, Option.map_some, Option.map_none, Option.bind_some, Option.isSome_some, if_true, if_false, Bool.and_eq_true, Bool.not_true, Bool.not_false, Bool.false_eq_true, decide_true, decide_false, decide_eq_true_eq, true_and, and_true, false_and, and_false, List.length_cons, List.length_nil, List.length_map, List.map_cons, List.map_nil, List.all_cons, List.all_nil, does_alloc, objN_ref, ix_last, set_last, set_lastM, isE_app, List.map_append, isNone_oi, eqC_oi, eq_oi, get_l, get_t, at_0, at_1, at_2, at_3, at_4, at_last, unref_ref, eqC_refL, dicOf_ref, seqOf_ref, lstOf_ref, iterOf_ref, getD_ref, putD_ref, fldD_ref, clsOf_ref, tru_ref, k_tupR, k_lstR, k_sumR, k_sumL, okKey_str, keyT_str, dput_def, fk_str, fk_int, mergeD_nil, mergeD_cons, ffind_nil, ffind_cons, fput_nil, fput_cons, ofString_inj, dfind_nil, dfind_cons, eqv_str, str_beq, twos, appD, ownB, String.reduceEq, Nat.reduceAdd, Nat.reduceLT, Nat.reduceLeDiff, Int.reduceLT, Int.reduceLE, Int.reduceNeg, Nat.reduceSub, Nat.zero_add, asgL, asgLs, List.any_cons, List.any_nil, List.cons_append, List.nil_append, List.replicate, List.reduceReplicate, Nat.sub_self, Option.isSome_none, Bool.or_false, Bool.or_true, Bool.false_or, Bool.true_or, beq_self_eq_true, reduceCtorEq, Bool.and_true, Bool.true_and]
    (refine hk.nx ?_; clear hk K; try with_reducible refine does_nilp ?_)
    refine step fun K hk => ?_
    simp only [does_ok, does_no, does_noX, does_bind, does_some, does_none, does_ofS, does_ofSif, does_oif, does_omap, does_if, nxt_nx, nxt_ret, nxt_brk, nxt_ct, turn_nx, turn_ret, turn_brk, turn_ct, if_no, exS, evE, evEs, evO, evC, evI, asgL, asgLs, asgT, asgTs, setPar, truR, appD, ownB, twos, scr_len, o_addII, o_addIB, o_addTT, o_addLL, o_addSS, o_subII, o_mulII, o_divII, o_modII, o_powII, q_ltII, q_leII, q_gtII, q_geII, q_isN, q_notN, isNone_n, isNone_i, isNone_b, isNone_s, isNone_t, isNone_l, q_isB, q_notB, q_eq, q_ne, eqC_i, eqC_n, eqC_b, eqC_s, eqC_t, eqC_l, unref_i, unref_n, unref_b, unref_s, unref_t, unref_l, eq_II, eq_SS, eq_BB, eq_NN, eq_NI, eq_IN, t_none, t_bool, t_int, k_abs, k_intI, k_intB, k_lenL, k_lenT, k_tupL, k_tupT, k_lstL, k_lstT, k_max2, k_min2, r_2, u_II, u_add, u_sub, l_list, s_list, s_tup, i_list, i_tup, smallI_eq, List.getElem?_cons_zero, List.getElem?_cons_succ, List.set_cons_zero, List.set_cons_succ, Option.map_some, Option.map_none, Option.bind_some, Option.isSome_some, if_true, if_false, Bool.and_eq_true, Bool.not_true, Bool.not_false, Bool.false_eq_true, decide_true, decide_false, decide_eq_true_eq, true_and, and_true, false_and, and_false, List.length_cons, List.length_nil, List.length_map, List.map_cons, List.map_nil, List.all_cons, List.all_nil, does_alloc, objN_ref, ix_last, set_last, set_lastM, isE_app, List.map_append, isNone_oi, eqC_oi, eq_oi, get_l, get_t, at_0, at_1, at_2, at_3, at_4, at_last, unref_ref, eqC_refL, dicOf_ref, seqOf_ref, lstOf_ref, iterOf_ref, getD_ref, putD_ref, fldD_ref, clsOf_ref, tru_ref, k_tupR, k_lstR, k_sumR, k_sumL, okKey_str, keyT_str, dput_def, fk_str, fk_int, mergeD_nil, mergeD_cons, ffind_nil, ffind_cons, fput_nil, fput_cons, ofString_inj, dfind_nil, dfind_cons, eqv_str, str_beq, twos, appD, ownB, String.reduceEq, Nat.reduceAdd, Nat.reduceLT, Nat.reduceLeDiff, Int.reduceLT, Int.reduceLE, Int.reduceNeg, Nat.reduceSub, Nat.zero_add, asgL, asgLs, List.any_cons, List.any_nil, List.cons_append, List.nil_append, List.replicate, List.reduceReplicate, Nat.sub_self, Option.isSome_none, Bool.or_false, Bool.or_true, Bool.false_or, Bool.true_or, beq_self_eq_true, reduceCtorEq, Bool.and_true, Bool.true_and, L_law__law_next]
    refine nx_does (n := 0) ⟨ds, 0, rfl, hds, by decide⟩ (by decide) fun f0 o f00 f01 hw => ?_
    simp only [does_ok, does_no, does_noX, does_bind, does_some, does_none, does_ofS, does_ofSif, does_oif, does_omap, does_if, nxt_nx, nxt_ret, nxt_brk, nxt_ct, turn_nx, turn_ret, turn_brk, turn_ct, if_no, exS, evE, evEs, evO, evC, evI, asgL, asgLs, asgT, asgTs, setPar, truR, appD, ownB, twos, scr_len, o_addII, o_addIB, o_addTT, o_addLL, o_addSS, o_subII, o_mulII, o_divII, o_modII, o_powII, q_ltII, q_leII, q_gtII, q_geII, q_isN, q_notN, isNone_n, isNone_i, isNone_b, isNone_s, isNone_t, isNone_l, q_isB, q_notB, q_eq, q_ne, eqC_i, eqC_n, eqC_b, eqC_s, eqC_t, eqC_l, unref_i, unref_n, unref_b, unref_s, unref_t, unref_l, eq_II, eq_SS, eq_BB, eq_NN, eq_NI, eq_IN, t_none, t_bool, t_int, k_abs, k_intI, k_intB, k_lenL, k_lenT, k_tupL, k_tupT, k_lstL, k_lstT, k_max2, k_min2, r_2, u_II, u_add, u_sub, l_list, s_list, s_tup, i_list, i_tup, smallI_eq, List.getElem?_cons_zero, List.getElem?_cons_succ, List.set_cons_zero, List.set_cons_succ, Option.map_some, Option.map_none, Option.bind_some, Option.isSome_some, if_true, if_false, Bool.and_eq_true, Bool.not_true, Bool.not_false, Bool.false_eq_true, decide_true, decide_false, decide_eq_true_eq, true_and, and_true, false_and, and_false, List.length_cons, List.length_nil, List.length_map, List.map_cons, List.map_nil, List.all_cons, List.all_nil, does_alloc, objN_ref, ix_last, set_last, set_lastM, isE_app, List.map_append, isNone_oi, eqC_oi, eq_oi, get_l, get_t, at_0, at_1, at_2, at_3, at_4, at_last, unref_ref, eqC_refL, dicOf_ref, seqOf_ref, lstOf_ref, iterOf_ref, getD_ref, putD_ref, fldD_ref, clsOf_ref, tru_ref, k_tupR, k_lstR, k_sumR, k_sumL, okKey_str, keyT_str, dput_def, fk_str, fk_int, mergeD_nil, mergeD_cons, ffind_nil, ffind_cons, fput_nil, fput_cons, ofString_inj, dfind_nil, dfind_cons, eqv_str, str_beq, twos, appD, ownB, String.reduceEq, Nat.reduceAdd, Nat.reduceLT, Nat.reduceLeDiff, Int.reduceLT, Int.reduceLE, Int.reduceNeg, Nat.reduceSub, Nat.zero_add, asgL, asgLs, List.any_cons, List.any_nil, List.cons_append, List.nil_append, List.replicate, List.reduceReplicate, Nat.sub_self, Option.isSome_none, Bool.or_false, Bool.or_true, Bool.false_or, Bool.true_or, beq_self_eq_true, reduceCtorEq, Bool.and_true, Bool.true_and, List.set_cons_zero] at hw ⊢
    refine nx_does (n := 0) hw (by decide) fun more o m0 m1 hw => ?_
    simp only [does_ok, does_no, does_noX, does_bind, does_some, does_none, does_ofS, does_ofSif, does_oif, does_omap, does_if, nxt_nx, nxt_ret, nxt_brk, nxt_ct, turn_nx, turn_ret, turn_brk, turn_ct, if_no, exS, evE, evEs, evO, evC, evI, asgL, asgLs, asgT, asgTs, setPar, truR, appD, ownB, twos, scr_len, o_addII, o_addIB, o_addTT, o_addLL, o_addSS, o_subII, o_mulII, o_divII, o_modII, o_powII, q_ltII, q_leII, q_gtII, q_geII, q_isN, q_notN, isNone_n, isNone_i, isNone_b, isNone_s, isNone_t, isNone_l, q_isB, q_notB, q_eq, q_ne, eqC_i, eqC_n, eqC_b, eqC_s, eqC_t, eqC_l, unref_i, unref_n, unref_b, unref_s, unref_t, unref_l, eq_II, eq_SS, eq_BB, eq_NN, eq_NI, eq_IN, t_none, t_bool, t_int, k_abs, k_intI, k_intB, k_lenL, k_lenT, k_tupL, k_tupT, k_lstL, k_lstT, k_max2, k_min2, r_2, u_II, u_add, u_sub, l_list, s_list, s_tup, i_list, i_tup, smallI_eq, List.getElem?_cons_zero, List.getElem?_cons_succ, List.set_cons_zero, List.set_cons_succ, Option.map_some, Option.map_none, Option.bind_some, Option.isSome_some, if_true, if_false, Bool.and_eq_true, Bool.not_true, Bool.not_false, Bool.false_eq_true, decide_true, decide_false, decide_eq_true_eq, true_and, and_true, false_and, and_false, List.length_cons, List.length_nil, List.length_map, List.map_cons, List.map_nil, List.all_cons, List.all_nil, does_alloc, objN_ref, ix_last, set_last, set_lastM, isE_app, List.map_append, isNone_oi, eqC_oi, eq_oi, get_l, get_t, at_0, at_1, at_2, at_3, at_4, at_last, unref_ref, eqC_refL, dicOf_ref, seqOf_ref, lstOf_ref, iterOf_ref, getD_ref, putD_ref, fldD_ref, clsOf_ref, tru_ref, k_tupR, k_lstR, k_sumR, k_sumL, okKey_str, keyT_str, dput_def, fk_str, fk_int, mergeD_nil, mergeD_cons, ffind_nil, ffind_cons, fput_nil, fput_cons, ofString_inj, dfind_nil, dfind_cons, eqv_str, str_beq, twos, appD, ownB, String.reduceEq, Nat.reduceAdd, Nat.reduceLT, Nat.reduceLeDiff, Int.reduceLT, Int.reduceLE, Int.reduceNeg, Nat.reduceSub, Nat.zero_add, asgL, asgLs, List.any_cons, List.any_nil, List.cons_append, List.nil_append, List.replicate, List.reduceReplicate, Nat.sub_self, Option.isSome_none, Bool.or_false, Bool.or_true, Bool.false_or, Bool.true_or, beq_self_eq_true, reduceCtorEq, Bool.and_true, Bool.true_and, List.set_cons_zero] at hw ⊢
    refine nx_does (n := 0) hw (by decide) fun p0 o p00 p01 hw => ?_
    simp only [does_ok, does_no, does_noX, does_bind, does_some, does_none, does_ofS, does_ofSif, does_oif, does_omap, does_if, nxt_nx, nxt_ret, nxt_brk, nxt_ct, turn_nx, turn_ret, turn_brk, turn_ct, if_no, exS, evE, evEs, evO, evC, evI, asgL, asgLs, asgT, asgTs, setPar, truR, appD, ownB, twos, scr_len, o_addII, o_addIB, o_addTT, o_addLL, o_addSS, o_subII, o_mulII, o_divII, o_modII, o_powII, q_ltII, q_leII, q_gtII, q_geII, q_isN, q_notN, isNone_n, isNone_i, isNone_b, isNone_s, isNone_t, isNone_l, q_isB, q_notB, q_eq, q_ne, eqC_i, eqC_n, eqC_b, eqC_s, eqC_t, eqC_l, unref_i, unref_n, unref_b, unref_s, unref_t, unref_l, eq_II, eq_SS, eq_BB, eq_NN, eq_NI, eq_IN, t_none, t_bool, t_int, k_abs, k_intI, k_intB, k_lenL, k_lenT, k_tupL, k_tupT, k_lstL, k_lstT, k_max2, k_min2, r_2, u_II, u_add, u_sub, l_list, s_list, s_tup, i_list, i_tup, smallI_eq, List.getElem?_cons_zero, List.getElem?_cons_succ, List.set_cons_zero, List.set_cons_succ, Option.map_some, Option.map_none, Option.bind_some, Option.isSome_some, if_true, if_false, Bool.and_eq_true, Bool.not_true, Bool.not_false, Bool.false_eq_true, decide_true, decide_false, decide_eq_true_eq, true_and, and_true, false_and, and_false, List.length_cons, List.length_nil, List.length_map, List.map_cons, List.map_nil, List.all_cons, List.all_nil, does_alloc, objN_ref, ix_last, set_last, set_lastM, isE_app, List.map_append, isNone_oi, eqC_oi, eq_oi, get_l, get_t, at_0, at_1, at_2, at_3, at_4, at_last, unref_ref, eqC_refL, dicOf_ref, seqOf_ref, lstOf_ref, iterOf_ref, getD_ref, putD_ref, fldD_ref, clsOf_ref, tru_ref, k_tupR, k_lstR, k_sumR, k_sumL, okKey_str, keyT_str, dput_def, fk_str, fk_int, mergeD_nil, mergeD_cons, ffind_nil, ffind_cons, fput_nil, fput_cons, ofString_inj, dfind_nil, dfind_cons, eqv_str, str_beq, twos, appD, ownB, String.reduceEq, Nat.reduceAdd, Nat.reduceLT, Nat.reduceLeDiff, Int.reduceLT, Int.reduceLE, Int.reduceNeg, Nat.reduceSub, Nat.zero_add, asgL, asgLs, List.any_cons, List.any_nil, List.cons_append, List.nil_append, List.replicate, List.reduceReplicate, Nat.sub_self, Option.isSome_none, Bool.or_false, Bool.or_true, Bool.false_or, Bool.true_or, beq_self_eq_true, reduceCtorEq, Bool.and_true, Bool.true_and, List.set_cons_zero] at hw ⊢
    (refine hk.nx ?_; clear hk K; try with_reducible refine does_nilp ?_)
    obtain ⟨players, hpl⟩ : ∃ players : Nat, 2 + p0 = (players : Int) := ⟨(2 + p0).toNat, by omega⟩
    rw [hpl]
    refine step fun K hk => ?_
    simp only [does_ok, does_no, does_noX, does_bind, does_some, does_none, does_ofS, does_ofSif, does_oif, does_omap, does_if, nxt_nx, nxt_ret, nxt_brk, nxt_ct, turn_nx, turn_ret, turn_brk, turn_ct, if_no, exS, evE, evEs, evO, evC, evI, asgL, asgLs, asgT, asgTs, setPar, truR, appD, ownB, twos, scr_len, o_addII, o_addIB, o_addTT, o_addLL, o_addSS, o_subII, o_mulII, o_divII, o_modII, o_powII, q_ltII, q_leII, q_gtII, q_geII, q_isN, q_notN, isNone_n, isNone_i, isNone_b, isNone_s, isNone_t, isNone_l, q_isB, q_notB, q_eq, q_ne, eqC_i, eqC_n, eqC_b, eqC_s, eqC_t, eqC_l, unref_i, unref_n, unref_b, unref_s, unref_t, unref_l, eq_II, eq_SS, eq_BB, eq_NN, eq_NI, eq_IN, t_none, t_bool, t_int, k_abs, k_intI, k_intB, k_lenL, k_lenT, k_tupL, k_tupT, k_lstL, k_lstT, k_max2, k_min2, r_2, u_II, u_add, u_sub, l_list, s_list, s_tup, i_list, i_tup, smallI_eq, List.getElem?_cons_zero, List.getElem?_cons_succ, List.set_cons_zero, List.set_cons_succ, Option.map_some, Option.map_none, Option.bind_some, Option.isSome_some, if_true, if_false, Bool.and_eq_true, Bool.not_true, Bool.not_false, Bool.false_eq_true, decide_true, decide_false, decide_eq_true_eq, true_and, and_true, false_and, and_false, List.length_cons, List.length_nil, List.length_map, List.map_cons, List.map_nil, List.all_cons, List.all_nil, does_alloc, objN_ref, ix_last, set_last, set_lastM, isE_app, List.map_append, isNone_oi, eqC_oi, eq_oi, get_l, get_t, at_0, at_1, at_2, at_3, at_4, at_last, unref_ref, eqC_refL, dicOf_ref, seqOf_ref, lstOf_ref, iterOf_ref, getD_ref, putD_ref, fldD_ref, clsOf_ref, tru_ref, k_tupR, k_lstR, k_sumR, k_sumL, okKey_str, keyT_str, dput_def, fk_str, fk_int, mergeD_nil, mergeD_cons, ffind_nil, ffind_cons, fput_nil, fput_cons, ofString_inj, dfind_nil, dfind_cons, eqv_str, str_beq, twos, appD, ownB, String.reduceEq, Nat.reduceAdd, Nat.reduceLT, Nat.reduceLeDiff, Int.reduceLT, Int.reduceLE, Int.reduceNeg, Nat.reduceSub, Nat.zero_add, asgL, asgLs, List.any_cons, List.any_nil, List.cons_append, List.nil_append, List.replicate, List.reduceReplicate, Nat.sub_self, Option.isSome_none, Bool.or_false, Bool.or_true, Bool.false_or, Bool.true_or, beq_self_eq_true, reduceCtorEq, Bool.and_true, Bool.true_and, L_law_TurnClocksu_initu]
    refine init_does (by omega) (by simp only [List.getElem?_cons_succ, List.getElem?_cons_zero]) ?_
    simp only [does_ok, does_no, does_noX, does_bind, does_some, does_none, does_ofS, does_ofSif, does_oif, does_omap, does_if, nxt_nx, nxt_ret, nxt_brk, nxt_ct, turn_nx, turn_ret, turn_brk, turn_ct, if_no, exS, evE, evEs, evO, evC, evI, asgL, asgLs, asgT, asgTs, setPar, truR, appD, ownB, twos, scr_len, o_addII, o_addIB, o_addTT, o_addLL, o_addSS, o_subII, o_mulII, o_divII, o_modII, o_powII, q_ltII, q_leII, q_gtII, q_geII, q_isN, q_notN, isNone_n, isNone_i, isNone_b, isNone_s, isNone_t, isNone_l, q_isB, q_notB, q_eq, q_ne, eqC_i, eqC_n, eqC_b, eqC_s, eqC_t, eqC_l, unref_i, unref_n, unref_b, unref_s, unref_t, unref_l, eq_II, eq_SS, eq_BB, eq_NN, eq_NI, eq_IN, t_none, t_bool, t_int, k_abs, k_intI, k_intB, k_lenL, k_lenT, k_tupL, k_tupT, k_lstL, k_lstT, k_max2, k_min2, r_2, u_II, u_add, u_sub, l_list, s_list, s_tup, i_list, i_tup, smallI_eq, List.getElem?_cons_zero, List.getElem?_cons_succ, List.set_cons_zero, List.set_cons_succ, Option.map_some, Option.map_none, Option.bind_some, Option.isSome_some, if_true, if_false, Bool.and_eq_true, Bool.not_true, Bool.not_false, Bool.false_eq_true, decide_true, decide_false, decide_eq_true_eq, true_and, and_true, false_and, and_false, List.length_cons, List.length_nil, List.length_map, List.map_cons, List.map_nil, List.all_cons, List.all_nil, does_alloc, objN_ref, ix_last, set_last, set_lastM, isE_app, List.map_append, isNone_oi, eqC_oi, eq_oi, get_l, get_t, at_0, at_1, at_2, at_3, at_4, at_last, unref_ref, eqC_refL, dicOf_ref, seqOf_ref, lstOf_ref, iterOf_ref, getD_ref, putD_ref, fldD_ref, clsOf_ref, tru_ref, k_tupR, k_lstR, k_sumR, k_sumL, okKey_str, keyT_str, dput_def, fk_str, fk_int, mergeD_nil, mergeD_cons, ffind_nil, ffind_cons, fput_nil, fput_cons, ofString_inj, dfind_nil, dfind_cons, eqv_str, str_beq, twos, appD, ownB, String.reduceEq, Nat.reduceAdd, Nat.reduceLT, Nat.reduceLeDiff, Int.reduceLT, Int.reduceLE, Int.reduceNeg, Nat.reduceSub, Nat.zero_add, asgL, asgLs, List.any_cons, List.any_nil, List.cons_append, List.nil_append, List.replicate, List.reduceReplicate, Nat.sub_self, Option.isSome_none, Bool.or_false, Bool.or_true, Bool.false_or, Bool.true_or, beq_self_eq_true, reduceCtorEq, Bool.and_true, Bool.true_and, List.set_cons_succ, List.set_cons_zero]
    have e2 : (2 : Int) = ((2 : Nat) : Int) := by simp
    rw [e2]
    refine init_does (by omega) (by simp only [List.getElem?_cons_succ, List.getElem?_cons_zero]) ?_
    simp only [does_ok, does_no, does_noX, does_bind, does_some, does_none, does_ofS, does_ofSif, does_oif, does_omap, does_if, nxt_nx, nxt_ret, nxt_brk, nxt_ct, turn_nx, turn_ret, turn_brk, turn_ct, if_no, exS, evE, evEs, evO, evC, evI, asgL, asgLs, asgT, asgTs, setPar, truR, appD, ownB, twos, scr_len, o_addII, o_addIB, o_addTT, o_addLL, o_addSS, o_subII, o_mulII, o_divII, o_modII, o_powII, q_ltII, q_leII, q_gtII, q_geII, q_isN, q_notN, isNone_n, isNone_i, isNone_b, isNone_s, isNone_t, isNone_l, q_isB, q_notB, q_eq, q_ne, eqC_i, eqC_n, eqC_b, eqC_s, eqC_t, eqC_l, unref_i, unref_n, unref_b, unref_s, unref_t, unref_l, eq_II, eq_SS, eq_BB, eq_NN, eq_NI, eq_IN, t_none, t_bool, t_int, k_abs, k_intI, k_intB, k_lenL, k_lenT, k_tupL, k_tupT, k_lstL, k_lstT, k_max2, k_min2, r_2, u_II, u_add, u_sub, l_list, s_list, s_tup, i_list, i_tup, smallI_eq, List.getElem?_cons_zero, List.getElem?_cons_succ, List.set_cons_zero, List.set_cons_succ, Option.map_some, Option.map_none, Option.bind_some, Option.isSome_some, if_true, if_false, Bool.and_eq_true, Bool.not_true, Bool.not_false, Bool.false_eq_true, decide_true, decide_false, decide_eq_true_eq, true_and, and_true, false_and, and_false, List.length_cons, List.length_nil, List.length_map, List.map_cons, List.map_nil, List.all_cons, List.all_nil, does_alloc, objN_ref, ix_last, set_last, set_lastM, isE_app, List.map_append, isNone_oi, eqC_oi, eq_oi, get_l, get_t, at_0, at_1, at_2, at_3, at_4, at_last, unref_ref, eqC_refL, dicOf_ref, seqOf_ref, lstOf_ref, iterOf_ref, getD_ref, putD_ref, fldD_ref, clsOf_ref, tru_ref, k_tupR, k_lstR, k_sumR, k_sumL, okKey_str, keyT_str, dput_def, fk_str, fk_int, mergeD_nil, mergeD_cons, ffind_nil, ffind_cons, fput_nil, fput_cons, ofString_inj, dfind_nil, dfind_cons, eqv_str, str_beq, twos, appD, ownB, String.reduceEq, Nat.reduceAdd, Nat.reduceLT, Nat.reduceLeDiff, Int.reduceLT, Int.reduceLE, Int.reduceNeg, Nat.reduceSub, Nat.zero_add, asgL, asgLs, List.any_cons, List.any_nil, List.cons_append, List.nil_append, List.replicate, List.reduceReplicate, Nat.sub_self, Option.isSome_none, Bool.or_false, Bool.or_true, Bool.false_or, Bool.true_or, beq_self_eq_true, reduceCtorEq, Bool.and_true, Bool.true_and, List.set_cons_succ, List.set_cons_zero]
    (refine hk.nx ?_; clear hk K; try with_reducible refine does_nilp ?_)
    refine step fun K hk => ?_
    have em : ∀ S : Store, opB S .mul (.list [.int (1 + f0)]) (.int (players : Int)) = some (.list (List.replicate players (.int (1 + f0)))) := fun S => mul_one _ _ (by omega)
    simp only [does_ok, does_no, does_noX, does_bind, does_some, does_none, does_ofS, does_ofSif, does_oif, does_omap, does_if, nxt_nx, nxt_ret, nxt_brk, nxt_ct, turn_nx, turn_ret, turn_brk, turn_ct, if_no, exS, evE, evEs, evO, evC, evI, asgL, asgLs, asgT, asgTs, setPar, truR, appD, ownB, twos, scr_len, o_addII, o_addIB, o_addTT, o_addLL, o_addSS, o_subII, o_mulII, o_divII, o_modII, o_powII, q_ltII, q_leII, q_gtII, q_geII, q_isN, q_notN, isNone_n, isNone_i, isNone_b, isNone_s, isNone_t, isNone_l, q_isB, q_notB, q_eq, q_ne, eqC_i, eqC_n, eqC_b, eqC_s, eqC_t, eqC_l, unref_i, unref_n, unref_b, unref_s, unref_t, unref_l, eq_II, eq_SS, eq_BB, eq_NN, eq_NI, eq_IN, t_none, t_bool, t_int, k_abs, k_intI, k_intB, k_lenL, k_lenT, k_tupL, k_tupT, k_lstL, k_lstT, k_max2, k_min2, r_2, u_II, u_add, u_sub, l_list, s_list, s_tup, i_list, i_tup, smallI_eq, List.getElem?_cons_zero, List.getElem?_cons_succ, List.set_cons_zero, List.set_cons_succ, Option.map_some, Option.map_none, Option.bind_some, Option.isSome_some, if_true, if_false, Bool.and_eq_true, Bool.not_true, Bool.not_false, Bool.false_eq_true, decide_true, decide_false, decide_eq_true_eq, true_and, and_true, false_and, and_false, List.length_cons, List.length_nil, List.length_map, List.map_cons, List.map_nil, List.all_cons, List.all_nil, does_alloc, objN_ref, ix_last, set_last, set_lastM, isE_app, List.map_append, isNone_oi, eqC_oi, eq_oi, get_l, get_t, at_0, at_1, at_2, at_3, at_4, at_last, unref_ref, eqC_refL, dicOf_ref, seqOf_ref, lstOf_ref, iterOf_ref, getD_ref, putD_ref, fldD_ref, clsOf_ref, tru_ref, k_tupR, k_lstR, k_sumR, k_sumL, okKey_str, keyT_str, dput_def, fk_str, fk_int, mergeD_nil, mergeD_cons, ffind_nil, ffind_cons, fput_nil, fput_cons, ofString_inj, dfind_nil, dfind_cons, eqv_str, str_beq, twos, appD, ownB, String.reduceEq, Nat.reduceAdd, Nat.reduceLT, Nat.reduceLeDiff, Int.reduceLT, Int.reduceLE, Int.reduceNeg, Nat.reduceSub, Nat.zero_add, asgL, asgLs, List.any_cons, List.any_nil, List.cons_append, List.nil_append, List.replicate, List.reduceReplicate, Nat.sub_self, Option.isSome_none, Bool.or_false, Bool.or_true, Bool.false_or, Bool.true_or, beq_self_eq_true, reduceCtorEq, Bool.and_true, Bool.true_and, em]
    (refine hk.nx ?_; clear hk K; try with_reducible refine does_nilp ?_)
    refine step fun K hk => ?_
    simp only [does_ok, does_no, does_noX, does_bind, does_some, does_none, does_ofS, does_ofSif, does_oif, does_omap, does_if, nxt_nx, nxt_ret, nxt_brk, nxt_ct, turn_nx, turn_ret, turn_brk, turn_ct, if_no, exS, evE, evEs, evO, evC, evI, asgL, asgLs, asgT, asgTs, setPar, truR, appD, ownB, twos, scr_len, o_addII, o_addIB, o_addTT, o_addLL, o_addSS, o_subII, o_mulII, o_divII, o_modII, o_powII, q_ltII, q_leII, q_gtII, q_geII, q_isN, q_notN, isNone_n, isNone_i, isNone_b, isNone_s, isNone_t, isNone_l, q_isB, q_notB, q_eq, q_ne, eqC_i, eqC_n, eqC_b, eqC_s, eqC_t, eqC_l, unref_i, unref_n, unref_b, unref_s, unref_t, unref_l, eq_II, eq_SS, eq_BB, eq_NN, eq_NI, eq_IN, t_none, t_bool, t_int, k_abs, k_intI, k_intB, k_lenL, k_lenT, k_tupL, k_tupT, k_lstL, k_lstT, k_max2, k_min2, r_2, u_II, u_add, u_sub, l_list, s_list, s_tup, i_list, i_tup, smallI_eq, List.getElem?_cons_zero, List.getElem?_cons_succ, List.set_cons_zero, List.set_cons_succ, Option.map_some, Option.map_none, Option.bind_some, Option.isSome_some, if_true, if_false, Bool.and_eq_true, Bool.not_true, Bool.not_false, Bool.false_eq_true, decide_true, decide_false, decide_eq_true_eq, true_and, and_true, false_and, and_false, List.length_cons, List.length_nil, List.length_map, List.map_cons, List.map_nil, List.all_cons, List.all_nil, does_alloc, objN_ref, ix_last, set_last, set_lastM, isE_app, List.map_append, isNone_oi, eqC_oi, eq_oi, get_l, get_t, at_0, at_1, at_2, at_3, at_4, at_last, unref_ref, eqC_refL, dicOf_ref, seqOf_ref, lstOf_ref, iterOf_ref, getD_ref, putD_ref, fldD_ref, clsOf_ref, tru_ref, k_tupR, k_lstR, k_sumR, k_sumL, okKey_str, keyT_str, dput_def, fk_str, fk_int, mergeD_nil, mergeD_cons, ffind_nil, ffind_cons, fput_nil, fput_cons, ofString_inj, dfind_nil, dfind_cons, eqv_str, str_beq, twos, appD, ownB, String.reduceEq, Nat.reduceAdd, Nat.reduceLT, Nat.reduceLeDiff, Int.reduceLT, Int.reduceLE, Int.reduceNeg, Nat.reduceSub, Nat.zero_add, asgL, asgLs, List.any_cons, List.any_nil, List.cons_append, List.nil_append, List.replicate, List.reduceReplicate, Nat.sub_self, Option.isSome_none, Bool.or_false, Bool.or_true, Bool.false_or, Bool.true_or, beq_self_eq_true, reduceCtorEq, Bool.and_true, Bool.true_and]
    (refine hk.nx ?_; clear hk K; try with_reducible refine does_nilp ?_)
    have h0 : KI ([o, tcO more 2 0 0 none, lstO (List.replicate players (1 + f0)), tcO 1 4 0 0 none, lstO [9, 9], lstO (List.replicate players (1 + f0)), mO 5 0 0 none] : Store) more 0 0 none (List.replicate players (1 + f0)) := ⟨hw, rfl, rfl, rfl, rfl, rfl, rfl⟩
    have eS : (SO.lst (List.replicate players (PyData.int (1 + f0)))) = lstO (List.replicate players (1 + f0)) := by unfold lstO; rw [List.map_replicate]
    have eM : (SO.dic [(PyData.str "left", ref 5), (PyData.str "now", .int 0), (PyData.str "latest", .int 0), (PyData.str "lost", .none)]) = mO 5 0 0 none := rfl
    rw [eS, eM]
    generalize ([o, tcO more 2 0 0 none, lstO (List.replicate players (1 + f0)), tcO 1 4 0 0 none, lstO [9, 9], lstO (List.replicate players (1 + f0)), mO 5 0 0 none] : Store) = S at h0 ⊢
    have hrows : ∀ x ∈ List.replicate players (1 + f0), -1000 * ((0 : Nat) + 1 : Int) ≤ x ∧ x ≤ 1000 * ((0 : Nat) + 1) := fun x hx => by
      rw [List.eq_of_mem_replicate hx]; omega
    have B0 : Bi 0 players more 0 0 0 none (List.replicate players (1 + f0)) := ⟨by decide, List.length_replicate, by omega, by omega, by omega, by decide, by decide, hrows, fun _ e => (nomatch e)⟩
    clear hrows eS eM em hw
    generalize List.replicate players (1 + f0) = rows at h0 B0
    refine step fun K hk => ?_
    simp only [does_ok, does_no, does_noX, does_bind, does_some, does_none, does_ofS, does_ofSif, does_oif, does_omap, does_if, nxt_nx, nxt_ret, nxt_brk, nxt_ct, turn_nx, turn_ret, turn_brk, turn_ct, if_no, exS, evE, evEs, evO, evC, evI, asgL, asgLs, asgT, asgTs, setPar, truR, appD, ownB, twos, scr_len, o_addII, o_addIB, o_addTT, o_addLL, o_addSS, o_subII, o_mulII, o_divII, o_modII, o_powII, q_ltII, q_leII, q_gtII, q_geII, q_isN, q_notN, isNone_n, isNone_i, isNone_b, isNone_s, isNone_t, isNone_l, q_isB, q_notB, q_eq, q_ne, eqC_i, eqC_n, eqC_b, eqC_s, eqC_t, eqC_l, unref_i, unref_n, unref_b, unref_s, unref_t, unref_l, eq_II, eq_SS, eq_BB, eq_NN, eq_NI, eq_IN, t_none, t_bool, t_int, k_abs, k_intI, k_intB, k_lenL, k_lenT, k_tupL, k_tupT, k_lstL, k_lstT, k_max2, k_min2, r_2, u_II, u_add, u_sub, l_list, s_list, s_tup, i_list, i_tup, smallI_eq, List.getElem?_cons_zero, List.getElem?_cons_succ, List.set_cons_zero, List.set_cons_succ, Option.map_some, Option.map_none, Option.bind_some, Option.isSome_some, if_true, if_false, Bool.and_eq_true, Bool.not_true, Bool.not_false, Bool.false_eq_true, decide_true, decide_false, decide_eq_true_eq, true_and, and_true, false_and, and_false, List.length_cons, List.length_nil, List.length_map, List.map_cons, List.map_nil, List.all_cons, List.all_nil, does_alloc, objN_ref, ix_last, set_last, set_lastM, isE_app, List.map_append, isNone_oi, eqC_oi, eq_oi, get_l, get_t, at_0, at_1, at_2, at_3, at_4, at_last, unref_ref, eqC_refL, dicOf_ref, seqOf_ref, lstOf_ref, iterOf_ref, getD_ref, putD_ref, fldD_ref, clsOf_ref, tru_ref, k_tupR, k_lstR, k_sumR, k_sumL, okKey_str, keyT_str, dput_def, fk_str, fk_int, mergeD_nil, mergeD_cons, ffind_nil, ffind_cons, fput_nil, fput_cons, ofString_inj, dfind_nil, dfind_cons, eqv_str, str_beq, twos, appD, ownB, String.reduceEq, Nat.reduceAdd, Nat.reduceLT, Nat.reduceLeDiff, Int.reduceLT, Int.reduceLE, Int.reduceNeg, Nat.reduceSub, Nat.zero_add, asgL, asgLs, List.any_cons, List.any_nil, List.cons_append, List.nil_append, List.replicate, List.reduceReplicate, Nat.sub_self, Option.isSome_none, Bool.or_false, Bool.or_true, Bool.false_or, Bool.true_or, beq_self_eq_true, reduceCtorEq, Bool.and_true, Bool.true_and, L_law__law_next]
    refine nx_does h0.w (by decide) fun v o v0 v1 hw => ?_
    replace h0 := h0.draw hw
    try simp only [does_ok, does_no, does_noX, does_bind, does_some, does_none, does_ofS, does_ofSif, does_oif, does_omap, does_if, nxt_nx, nxt_ret, nxt_brk, nxt_ct, turn_nx, turn_ret, turn_brk, turn_ct, if_no, exS, evE, evEs, evO, evC, evI, asgL, asgLs, asgT, asgTs, setPar, truR, appD, ownB, twos, scr_len, o_addII, o_addIB, o_addTT, o_addLL, o_addSS, o_subII, o_mulII, o_divII, o_modII, o_powII, q_ltII, q_leII, q_gtII, q_geII, q_isN, q_notN, isNone_n, isNone_i, isNone_b, isNone_s, isNone_t, isNone_l, q_isB, q_notB, q_eq, q_ne, eqC_i, eqC_n, eqC_b, eqC_s, eqC_t, eqC_l, unref_i, unref_n, unref_b, unref_s, unref_t, unref_l, eq_II, eq_SS, eq_BB, eq_NN, eq_NI, eq_IN, t_none, t_bool, t_int, k_abs, k_intI, k_intB, k_lenL, k_lenT, k_tupL, k_tupT, k_lstL, k_lstT, k_max2, k_min2, r_2, u_II, u_add, u_sub, l_list, s_list, s_tup, i_list, i_tup, smallI_eq, List.getElem?_cons_zero, List.getElem?_cons_succ, List.set_cons_zero, List.set_cons_succ, Option.map_some, Option.map_none, Option.bind_some, Option.isSome_some, if_true, if_false, Bool.and_eq_true, Bool.not_true, Bool.not_false, Bool.false_eq_true, decide_true, decide_false, decide_eq_true_eq, true_and, and_true, false_and, and_false, List.length_cons, List.length_nil, List.length_map, List.map_cons, List.map_nil, List.all_cons, List.all_nil, does_alloc, objN_ref, ix_last, set_last, set_lastM, isE_app, List.map_append, isNone_oi, eqC_oi, eq_oi, get_l, get_t, at_0, at_1, at_2, at_3, at_4, at_last, unref_ref, eqC_refL, dicOf_ref, seqOf_ref, lstOf_ref, iterOf_ref, getD_ref, putD_ref, fldD_ref, clsOf_ref, tru_ref, k_tupR, k_lstR, k_sumR, k_sumL, okKey_str, keyT_str, dput_def, fk_str, fk_int, mergeD_nil, mergeD_cons, ffind_nil, ffind_cons, fput_nil, fput_cons, ofString_inj, dfind_nil, dfind_cons, eqv_str, str_beq, twos, appD, ownB, String.reduceEq, Nat.reduceAdd, Nat.reduceLT, Nat.reduceLeDiff, Int.reduceLT, Int.reduceLE, Int.reduceNeg, Nat.reduceSub, Nat.zero_add, asgL, asgLs, List.any_cons, List.any_nil, List.cons_append, List.nil_append, List.replicate, List.reduceReplicate, Nat.sub_self, Option.isSome_none, Bool.or_false, Bool.or_true, Bool.false_or, Bool.true_or, beq_self_eq_true, reduceCtorEq, Bool.and_true, Bool.true_and]
    refine ⟨by omega, ?_⟩
    generalize S.set 0 o = S at h0
    obtain ⟨tn, htn⟩ : ∃ tn : Nat, 3 + v = (tn : Int) := ⟨(3 + v).toNat, by omega⟩
    rw [htn]
    refine for_rng 0 (tn : Int) tn (by omega) (LI ns players more) ⟨0, _, _, _, _, 0, 0, none, rows, rfl, h0, B0⟩ ?_ ?_
    · rintro i _ S hi ⟨time, x4, x5, x10, x11, now, latest, lost, rows, rfl, h, B⟩
      simp only [List.set_cons_succ, List.set_cons_zero]
      refine step fun K hk => ?_
      simp only [does_ok, does_no, does_noX, does_bind, does_some, does_none, does_ofS, does_ofSif, does_oif, does_omap, does_if, nxt_nx, nxt_ret, nxt_brk, nxt_ct, turn_nx, turn_ret, turn_brk, turn_ct, if_no, exS, evE, evEs, evO, evC, evI, asgL, asgLs, asgT, asgTs, setPar, truR, appD, ownB, twos, scr_len, o_addII, o_addIB, o_addTT, o_addLL, o_addSS, o_subII, o_mulII, o_divII, o_modII, o_powII, q_ltII, q_leII, q_gtII, q_geII, q_isN, q_notN, isNone_n, isNone_i, isNone_b, isNone_s, isNone_t, isNone_l, q_isB, q_notB, q_eq, q_ne, eqC_i, eqC_n, eqC_b, eqC_s, eqC_t, eqC_l, unref_i, unref_n, unref_b, unref_s, unref_t, unref_l, eq_II, eq_SS, eq_BB, eq_NN, eq_NI, eq_IN, t_none, t_bool, t_int, k_abs, k_intI, k_intB, k_lenL, k_lenT, k_tupL, k_tupT, k_lstL, k_lstT, k_max2, k_min2, r_2, u_II, u_add, u_sub, l_list, s_list, s_tup, i_list, i_tup, smallI_eq, List.getElem?_cons_zero, List.getElem?_cons_succ, List.set_cons_zero, List.set_cons_succ, Option.map_some, Option.map_none, Option.bind_some, Option.isSome_some, if_true, if_false, Bool.and_eq_true, Bool.not_true, Bool.not_false, Bool.false_eq_true, decide_true, decide_false, decide_eq_true_eq, true_and, and_true, false_and, and_false, List.length_cons, List.length_nil, List.length_map, List.map_cons, List.map_nil, List.all_cons, List.all_nil, does_alloc, objN_ref, ix_last, set_last, set_lastM, isE_app, List.map_append, isNone_oi, eqC_oi, eq_oi, get_l, get_t, at_0, at_1, at_2, at_3, at_4, at_last, unref_ref, eqC_refL, dicOf_ref, seqOf_ref, lstOf_ref, iterOf_ref, getD_ref, putD_ref, fldD_ref, clsOf_ref, tru_ref, k_tupR, k_lstR, k_sumR, k_sumL, okKey_str, keyT_str, dput_def, fk_str, fk_int, mergeD_nil, mergeD_cons, ffind_nil, ffind_cons, fput_nil, fput_cons, ofString_inj, dfind_nil, dfind_cons, eqv_str, str_beq, twos, appD, ownB, String.reduceEq, Nat.reduceAdd, Nat.reduceLT, Nat.reduceLeDiff, Int.reduceLT, Int.reduceLE, Int.reduceNeg, Nat.reduceSub, Nat.zero_add, asgL, asgLs, List.any_cons, List.any_nil, List.cons_append, List.nil_append, List.replicate, List.reduceReplicate, Nat.sub_self, Option.isSome_none, Bool.or_false, Bool.or_true, Bool.false_or, Bool.true_or, beq_self_eq_true, reduceCtorEq, Bool.and_true, Bool.true_and, L_law__law_next]
      refine nx_does h.w (by decide) fun a o a0 a1 hw => ?_
      replace h := h.draw hw
      generalize S.set 0 o = S at h
      try simp only [does_ok, does_no, does_noX, does_bind, does_some, does_none, does_ofS, does_ofSif, does_oif, does_omap, does_if, nxt_nx, nxt_ret, nxt_brk, nxt_ct, turn_nx, turn_ret, turn_brk, turn_ct, if_no, exS, evE, evEs, evO, evC, evI, asgL, asgLs, asgT, asgTs, setPar, truR, appD, ownB, twos, scr_len, o_addII, o_addIB, o_addTT, o_addLL, o_addSS, o_subII, o_mulII, o_divII, o_modII, o_powII, q_ltII, q_leII, q_gtII, q_geII, q_isN, q_notN, isNone_n, isNone_i, isNone_b, isNone_s, isNone_t, isNone_l, q_isB, q_notB, q_eq, q_ne, eqC_i, eqC_n, eqC_b, eqC_s, eqC_t, eqC_l, unref_i, unref_n, unref_b, unref_s, unref_t, unref_l, eq_II, eq_SS, eq_BB, eq_NN, eq_NI, eq_IN, t_none, t_bool, t_int, k_abs, k_intI, k_intB, k_lenL, k_lenT, k_tupL, k_tupT, k_lstL, k_lstT, k_max2, k_min2, r_2, u_II, u_add, u_sub, l_list, s_list, s_tup, i_list, i_tup, smallI_eq, List.getElem?_cons_zero, List.getElem?_cons_succ, List.set_cons_zero, List.set_cons_succ, Option.map_some, Option.map_none, Option.bind_some, Option.isSome_some, if_true, if_false, Bool.and_eq_true, Bool.not_true, Bool.not_false, Bool.false_eq_true, decide_true, decide_false, decide_eq_true_eq, true_and, and_true, false_and, and_false, List.length_cons, List.length_nil, List.length_map, List.map_cons, List.map_nil, List.all_cons, List.all_nil, does_alloc, objN_ref, ix_last, set_last, set_lastM, isE_app, List.map_append, isNone_oi, eqC_oi, eq_oi, get_l, get_t, at_0, at_1, at_2, at_3, at_4, at_last, unref_ref, eqC_refL, dicOf_ref, seqOf_ref, lstOf_ref, iterOf_ref, getD_ref, putD_ref, fldD_ref, clsOf_ref, tru_ref, k_tupR, k_lstR, k_sumR, k_sumL, okKey_str, keyT_str, dput_def, fk_str, fk_int, mergeD_nil, mergeD_cons, ffind_nil, ffind_cons, fput_nil, fput_cons, ofString_inj, dfind_nil, dfind_cons, eqv_str, str_beq, twos, appD, ownB, String.reduceEq, Nat.reduceAdd, Nat.reduceLT, Nat.reduceLeDiff, Int.reduceLT, Int.reduceLE, Int.reduceNeg, Nat.reduceSub, Nat.zero_add, asgL, asgLs, List.any_cons, List.any_nil, List.cons_append, List.nil_append, List.replicate, List.reduceReplicate, Nat.sub_self, Option.isSome_none, Bool.or_false, Bool.or_true, Bool.false_or, Bool.true_or, beq_self_eq_true, reduceCtorEq, Bool.and_true, Bool.true_and]
      refine nx_does h.w (by decide) fun b o b0 b1 hw => ?_
      replace h := h.draw hw
      generalize S.set 0 o = S at h
      try simp only [does_ok, does_no, does_noX, does_bind, does_some, does_none, does_ofS, does_ofSif, does_oif, does_omap, does_if, nxt_nx, nxt_ret, nxt_brk, nxt_ct, turn_nx, turn_ret, turn_brk, turn_ct, if_no, exS, evE, evEs, evO, evC, evI, asgL, asgLs, asgT, asgTs, setPar, truR, appD, ownB, twos, scr_len, o_addII, o_addIB, o_addTT, o_addLL, o_addSS, o_subII, o_mulII, o_divII, o_modII, o_powII, q_ltII, q_leII, q_gtII, q_geII, q_isN, q_notN, isNone_n, isNone_i, isNone_b, isNone_s, isNone_t, isNone_l, q_isB, q_notB, q_eq, q_ne, eqC_i, eqC_n, eqC_b, eqC_s, eqC_t, eqC_l, unref_i, unref_n, unref_b, unref_s, unref_t, unref_l, eq_II, eq_SS, eq_BB, eq_NN, eq_NI, eq_IN, t_none, t_bool, t_int, k_abs, k_intI, k_intB, k_lenL, k_lenT, k_tupL, k_tupT, k_lstL, k_lstT, k_max2, k_min2, r_2, u_II, u_add, u_sub, l_list, s_list, s_tup, i_list, i_tup, smallI_eq, List.getElem?_cons_zero, List.getElem?_cons_succ, List.set_cons_zero, List.set_cons_succ, Option.map_some, Option.map_none, Option.bind_some, Option.isSome_some, if_true, if_false, Bool.and_eq_true, Bool.not_true, Bool.not_false, Bool.false_eq_true, decide_true, decide_false, decide_eq_true_eq, true_and, and_true, false_and, and_false, List.length_cons, List.length_nil, List.length_map, List.map_cons, List.map_nil, List.all_cons, List.all_nil, does_alloc, objN_ref, ix_last, set_last, set_lastM, isE_app, List.map_append, isNone_oi, eqC_oi, eq_oi, get_l, get_t, at_0, at_1, at_2, at_3, at_4, at_last, unref_ref, eqC_refL, dicOf_ref, seqOf_ref, lstOf_ref, iterOf_ref, getD_ref, putD_ref, fldD_ref, clsOf_ref, tru_ref, k_tupR, k_lstR, k_sumR, k_sumL, okKey_str, keyT_str, dput_def, fk_str, fk_int, mergeD_nil, mergeD_cons, ffind_nil, ffind_cons, fput_nil, fput_cons, ofString_inj, dfind_nil, dfind_cons, eqv_str, str_beq, twos, appD, ownB, String.reduceEq, Nat.reduceAdd, Nat.reduceLT, Nat.reduceLeDiff, Int.reduceLT, Int.reduceLE, Int.reduceNeg, Nat.reduceSub, Nat.zero_add, asgL, asgLs, List.any_cons, List.any_nil, List.cons_append, List.nil_append, List.replicate, List.reduceReplicate, Nat.sub_self, Option.isSome_none, Bool.or_false, Bool.or_true, Bool.false_or, Bool.true_or, beq_self_eq_true, reduceCtorEq, Bool.and_true, Bool.true_and]
      refine nx_does h.w (by decide) fun c o c0 c1 hw => ?_
      replace h := h.draw hw
      generalize S.set 0 o = S at h
      obtain ⟨y, hy, ey⟩ := pick_int (S := S) (xs := [.int 0, .int 1, .int a, .int b, .int 3]) (ys := [0, 1, a, b, 3]) (v := c) rfl c0 (by simp; omega)
      have hy2 : 0 ≤ y ∧ y ≤ 19 := by simp at hy; omega
      simp only [does_ok, does_no, does_noX, does_bind, does_some, does_none, does_ofS, does_ofSif, does_oif, does_omap, does_if, nxt_nx, nxt_ret, nxt_brk, nxt_ct, turn_nx, turn_ret, turn_brk, turn_ct, if_no, exS, evE, evEs, evO, evC, evI, asgL, asgLs, asgT, asgTs, setPar, truR, appD, ownB, twos, scr_len, o_addII, o_addIB, o_addTT, o_addLL, o_addSS, o_subII, o_mulII, o_divII, o_modII, o_powII, q_ltII, q_leII, q_gtII, q_geII, q_isN, q_notN, isNone_n, isNone_i, isNone_b, isNone_s, isNone_t, isNone_l, q_isB, q_notB, q_eq, q_ne, eqC_i, eqC_n, eqC_b, eqC_s, eqC_t, eqC_l, unref_i, unref_n, unref_b, unref_s, unref_t, unref_l, eq_II, eq_SS, eq_BB, eq_NN, eq_NI, eq_IN, t_none, t_bool, t_int, k_abs, k_intI, k_intB, k_lenL, k_lenT, k_tupL, k_tupT, k_lstL, k_lstT, k_max2, k_min2, r_2, u_II, u_add, u_sub, l_list, s_list, s_tup, i_list, i_tup, smallI_eq, List.getElem?_cons_zero, List.getElem?_cons_succ, List.set_cons_zero, List.set_cons_succ, Option.map_some, Option.map_none, Option.bind_some, Option.isSome_some, if_true, if_false, Bool.and_eq_true, Bool.not_true, Bool.not_false, Bool.false_eq_true, decide_true, decide_false, decide_eq_true_eq, true_and, and_true, false_and, and_false, List.length_cons, List.length_nil, List.length_map, List.map_cons, List.map_nil, List.all_cons, List.all_nil, does_alloc, objN_ref, ix_last, set_last, set_lastM, isE_app, List.map_append, isNone_oi, eqC_oi, eq_oi, get_l, get_t, at_0, at_1, at_2, at_3, at_4, at_last, unref_ref, eqC_refL, dicOf_ref, seqOf_ref, lstOf_ref, iterOf_ref, getD_ref, putD_ref, fldD_ref, clsOf_ref, tru_ref, k_tupR, k_lstR, k_sumR, k_sumL, okKey_str, keyT_str, dput_def, fk_str, fk_int, mergeD_nil, mergeD_cons, ffind_nil, ffind_cons, fput_nil, fput_cons, ofString_inj, dfind_nil, dfind_cons, eqv_str, str_beq, twos, appD, ownB, String.reduceEq, Nat.reduceAdd, Nat.reduceLT, Nat.reduceLeDiff, Int.reduceLT, Int.reduceLE, Int.reduceNeg, Nat.reduceSub, Nat.zero_add, asgL, asgLs, List.any_cons, List.any_nil, List.cons_append, List.nil_append, List.replicate, List.reduceReplicate, Nat.sub_self, Option.isSome_none, Bool.or_false, Bool.or_true, Bool.false_or, Bool.true_or, beq_self_eq_true, reduceCtorEq, Bool.and_true, Bool.true_and, ey]
      (refine hk.nx ?_; clear hk K; try with_reducible refine does_nilp ?_)
      have B1 := B.bds (time' := time + y) (by omega)
      refine step fun K hk => ?_
      simp only [does_ok, does_no, does_noX, does_bind, does_some, does_none, does_ofS, does_ofSif, does_oif, does_omap, does_if, nxt_nx, nxt_ret, nxt_brk, nxt_ct, turn_nx, turn_ret, turn_brk, turn_ct, if_no, exS, evE, evEs, evO, evC, evI, asgL, asgLs, asgT, asgTs, setPar, truR, appD, ownB, twos, scr_len, o_addII, o_addIB, o_addTT, o_addLL, o_addSS, o_subII, o_mulII, o_divII, o_modII, o_powII, q_ltII, q_leII, q_gtII, q_geII, q_isN, q_notN, isNone_n, isNone_i, isNone_b, isNone_s, isNone_t, isNone_l, q_isB, q_notB, q_eq, q_ne, eqC_i, eqC_n, eqC_b, eqC_s, eqC_t, eqC_l, unref_i, unref_n, unref_b, unref_s, unref_t, unref_l, eq_II, eq_SS, eq_BB, eq_NN, eq_NI, eq_IN, t_none, t_bool, t_int, k_abs, k_intI, k_intB, k_lenL, k_lenT, k_tupL, k_tupT, k_lstL, k_lstT, k_max2, k_min2, r_2, u_II, u_add, u_sub, l_list, s_list, s_tup, i_list, i_tup, smallI_eq, List.getElem?_cons_zero, List.getElem?_cons_succ, List.set_cons_zero, List.set_cons_succ, Option.map_some, Option.map_none, Option.bind_some, Option.isSome_some, if_true, if_false, Bool.and_eq_true, Bool.not_true, Bool.not_false, Bool.false_eq_true, decide_true, decide_false, decide_eq_true_eq, true_and, and_true, false_and, and_false, List.length_cons, List.length_nil, List.length_map, List.map_cons, List.map_nil, List.all_cons, List.all_nil, does_alloc, objN_ref, ix_last, set_last, set_lastM, isE_app, List.map_append, isNone_oi, eqC_oi, eq_oi, get_l, get_t, at_0, at_1, at_2, at_3, at_4, at_last, unref_ref, eqC_refL, dicOf_ref, seqOf_ref, lstOf_ref, iterOf_ref, getD_ref, putD_ref, fldD_ref, clsOf_ref, tru_ref, k_tupR, k_lstR, k_sumR, k_sumL, okKey_str, keyT_str, dput_def, fk_str, fk_int, mergeD_nil, mergeD_cons, ffind_nil, ffind_cons, fput_nil, fput_cons, ofString_inj, dfind_nil, dfind_cons, eqv_str, str_beq, twos, appD, ownB, String.reduceEq, Nat.reduceAdd, Nat.reduceLT, Nat.reduceLeDiff, Int.reduceLT, Int.reduceLE, Int.reduceNeg, Nat.reduceSub, Nat.zero_add, asgL, asgLs, List.any_cons, List.any_nil, List.cons_append, List.nil_append, List.replicate, List.reduceReplicate, Nat.sub_self, Option.isSome_none, Bool.or_false, Bool.or_true, Bool.false_or, Bool.true_or, beq_self_eq_true, reduceCtorEq, Bool.and_true, Bool.true_and, L_law__law_looks_right]
      refine looks_does h.o1 h.o2 h.o5 h.o6 (by decide) B1 ?_
      simp only [does_ok, does_no, does_noX, does_bind, does_some, does_none, does_ofS, does_ofSif, does_oif, does_omap, does_if, nxt_nx, nxt_ret, nxt_brk, nxt_ct, turn_nx, turn_ret, turn_brk, turn_ct, if_no, exS, evE, evEs, evO, evC, evI, asgL, asgLs, asgT, asgTs, setPar, truR, appD, ownB, twos, scr_len, o_addII, o_addIB, o_addTT, o_addLL, o_addSS, o_subII, o_mulII, o_divII, o_modII, o_powII, q_ltII, q_leII, q_gtII, q_geII, q_isN, q_notN, isNone_n, isNone_i, isNone_b, isNone_s, isNone_t, isNone_l, q_isB, q_notB, q_eq, q_ne, eqC_i, eqC_n, eqC_b, eqC_s, eqC_t, eqC_l, unref_i, unref_n, unref_b, unref_s, unref_t, unref_l, eq_II, eq_SS, eq_BB, eq_NN, eq_NI, eq_IN, t_none, t_bool, t_int, k_abs, k_intI, k_intB, k_lenL, k_lenT, k_tupL, k_tupT, k_lstL, k_lstT, k_max2, k_min2, r_2, u_II, u_add, u_sub, l_list, s_list, s_tup, i_list, i_tup, smallI_eq, List.getElem?_cons_zero, List.getElem?_cons_succ, List.set_cons_zero, List.set_cons_succ, Option.map_some, Option.map_none, Option.bind_some, Option.isSome_some, if_true, if_false, Bool.and_eq_true, Bool.not_true, Bool.not_false, Bool.false_eq_true, decide_true, decide_false, decide_eq_true_eq, true_and, and_true, false_and, and_false, List.length_cons, List.length_nil, List.length_map, List.map_cons, List.map_nil, List.all_cons, List.all_nil, does_alloc, objN_ref, ix_last, set_last, set_lastM, isE_app, List.map_append, isNone_oi, eqC_oi, eq_oi, get_l, get_t, at_0, at_1, at_2, at_3, at_4, at_last, unref_ref, eqC_refL, dicOf_ref, seqOf_ref, lstOf_ref, iterOf_ref, getD_ref, putD_ref, fldD_ref, clsOf_ref, tru_ref, k_tupR, k_lstR, k_sumR, k_sumL, okKey_str, keyT_str, dput_def, fk_str, fk_int, mergeD_nil, mergeD_cons, ffind_nil, ffind_cons, fput_nil, fput_cons, ofString_inj, dfind_nil, dfind_cons, eqv_str, str_beq, twos, appD, ownB, String.reduceEq, Nat.reduceAdd, Nat.reduceLT, Nat.reduceLeDiff, Int.reduceLT, Int.reduceLE, Int.reduceNeg, Nat.reduceSub, Nat.zero_add, asgL, asgLs, List.any_cons, List.any_nil, List.cons_append, List.nil_append, List.replicate, List.reduceReplicate, Nat.sub_self, Option.isSome_none, Bool.or_false, Bool.or_true, Bool.false_or, Bool.true_or, beq_self_eq_true, reduceCtorEq, Bool.and_true, Bool.true_and, does_nil]
      (refine hk.nx ?_; clear hk K; try with_reducible refine does_nilp ?_)
      refine step fun K hk => ?_
      simp only [does_ok, does_no, does_noX, does_bind, does_some, does_none, does_ofS, does_ofSif, does_oif, does_omap, does_if, nxt_nx, nxt_ret, nxt_brk, nxt_ct, turn_nx, turn_ret, turn_brk, turn_ct, if_no, exS, evE, evEs, evO, evC, evI, asgL, asgLs, asgT, asgTs, setPar, truR, appD, ownB, twos, scr_len, o_addII, o_addIB, o_addTT, o_addLL, o_addSS, o_subII, o_mulII, o_divII, o_modII, o_powII, q_ltII, q_leII, q_gtII, q_geII, q_isN, q_notN, isNone_n, isNone_i, isNone_b, isNone_s, isNone_t, isNone_l, q_isB, q_notB, q_eq, q_ne, eqC_i, eqC_n, eqC_b, eqC_s, eqC_t, eqC_l, unref_i, unref_n, unref_b, unref_s, unref_t, unref_l, eq_II, eq_SS, eq_BB, eq_NN, eq_NI, eq_IN, t_none, t_bool, t_int, k_abs, k_intI, k_intB, k_lenL, k_lenT, k_tupL, k_tupT, k_lstL, k_lstT, k_max2, k_min2, r_2, u_II, u_add, u_sub, l_list, s_list, s_tup, i_list, i_tup, smallI_eq, List.getElem?_cons_zero, List.getElem?_cons_succ, List.set_cons_zero, List.set_cons_succ, Option.map_some, Option.map_none, Option.bind_some, Option.isSome_some, if_true, if_false, Bool.and_eq_true, Bool.not_true, Bool.not_false, Bool.false_eq_true, decide_true, decide_false, decide_eq_true_eq, true_and, and_true, false_and, and_false, List.length_cons, List.length_nil, List.length_map, List.map_cons, List.map_nil, List.all_cons, List.all_nil, does_alloc, objN_ref, ix_last, set_last, set_lastM, isE_app, List.map_append, isNone_oi, eqC_oi, eq_oi, get_l, get_t, at_0, at_1, at_2, at_3, at_4, at_last, unref_ref, eqC_refL, dicOf_ref, seqOf_ref, lstOf_ref, iterOf_ref, getD_ref, putD_ref, fldD_ref, clsOf_ref, tru_ref, k_tupR, k_lstR, k_sumR, k_sumL, okKey_str, keyT_str, dput_def, fk_str, fk_int, mergeD_nil, mergeD_cons, ffind_nil, ffind_cons, fput_nil, fput_cons, ofString_inj, dfind_nil, dfind_cons, eqv_str, str_beq, twos, appD, ownB, String.reduceEq, Nat.reduceAdd, Nat.reduceLT, Nat.reduceLeDiff, Int.reduceLT, Int.reduceLE, Int.reduceNeg, Nat.reduceSub, Nat.zero_add, asgL, asgLs, List.any_cons, List.any_nil, List.cons_append, List.nil_append, List.replicate, List.reduceReplicate, Nat.sub_self, Option.isSome_none, Bool.or_false, Bool.or_true, Bool.false_or, Bool.true_or, beq_self_eq_true, reduceCtorEq, Bool.and_true, Bool.true_and]
      (refine hk.nx ?_; clear hk K; try with_reducible refine does_nilp ?_)
      refine step fun K hk => ?_
      suffices rest : ∀ (S' : Store) (due : D) (x11 : Option Sl) (now2 latest2 : Int) (lost2 : Option Int) (rows2 : List Int), (∀ Q : D → Store → Prop, (∀ S2, KI S2 more now2 latest2 lost2 rows2 → Q due S2) → Does (r__law_told [.int 0, ref 1, .int 0, .int (time + y)] S') Q) → Rg 0 40 due →
          Bi (i + 1) players more now2 latest2 (time + y) lost2 rows2 → K (.nx [some (.pure (scr (ns.map .int))), some (.pure (ref 0)), some (.pure (ref 6)), some (.pure (.int (time + y))), some (.pure (.int (0 + (i : Int)))), x5, some (.pure (.int more)), some (.pure (.int players)), some (.pure (ref 1)), some (.pure (ref 3)), some (.pure due), x11]) S' by
        have o6 := h.o6
        unfold mO at o6
        have o5 := h.o5
        unfold lstO at o5
        cases lost with
        | some z =>
          simp only [does_ok, does_no, does_noX, does_bind, does_some, does_none, does_ofS, does_ofSif, does_oif, does_omap, does_if, nxt_nx, nxt_ret, nxt_brk, nxt_ct, turn_nx, turn_ret, turn_brk, turn_ct, if_no, exS, evE, evEs, evO, evC, evI, asgL, asgLs, asgT, asgTs, setPar, truR, appD, ownB, twos, scr_len, o_addII, o_addIB, o_addTT, o_addLL, o_addSS, o_subII, o_mulII, o_divII, o_modII, o_powII, q_ltII, q_leII, q_gtII, q_geII, q_isN, q_notN, isNone_n, isNone_i, isNone_b, isNone_s, isNone_t, isNone_l, q_isB, q_notB, q_eq, q_ne, eqC_i, eqC_n, eqC_b, eqC_s, eqC_t, eqC_l, unref_i, unref_n, unref_b, unref_s, unref_t, unref_l, eq_II, eq_SS, eq_BB, eq_NN, eq_NI, eq_IN, t_none, t_bool, t_int, k_abs, k_intI, k_intB, k_lenL, k_lenT, k_tupL, k_tupT, k_lstL, k_lstT, k_max2, k_min2, r_2, u_II, u_add, u_sub, l_list, s_list, s_tup, i_list, i_tup, smallI_eq, List.getElem?_cons_zero, List.getElem?_cons_succ, List.set_cons_zero, List.set_cons_succ, Option.map_some, Option.map_none, Option.bind_some, Option.isSome_some, if_true, if_false, Bool.and_eq_true, Bool.not_true, Bool.not_false, Bool.false_eq_true, decide_true, decide_false, decide_eq_true_eq, true_and, and_true, false_and, and_false, List.length_cons, List.length_nil, List.length_map, List.map_cons, List.map_nil, List.all_cons, List.all_nil, does_alloc, objN_ref, ix_last, set_last, set_lastM, isE_app, List.map_append, isNone_oi, eqC_oi, eq_oi, get_l, get_t, at_0, at_1, at_2, at_3, at_4, at_last, unref_ref, eqC_refL, dicOf_ref, seqOf_ref, lstOf_ref, iterOf_ref, getD_ref, putD_ref, fldD_ref, clsOf_ref, tru_ref, k_tupR, k_lstR, k_sumR, k_sumL, okKey_str, keyT_str, dput_def, fk_str, fk_int, mergeD_nil, mergeD_cons, ffind_nil, ffind_cons, fput_nil, fput_cons, ofString_inj, dfind_nil, dfind_cons, eqv_str, str_beq, twos, appD, ownB, String.reduceEq, Nat.reduceAdd, Nat.reduceLT, Nat.reduceLeDiff, Int.reduceLT, Int.reduceLE, Int.reduceNeg, Nat.reduceSub, Nat.zero_add, asgL, asgLs, List.any_cons, List.any_nil, List.cons_append, List.nil_append, List.replicate, List.reduceReplicate, Nat.sub_self, Option.isSome_none, Bool.or_false, Bool.or_true, Bool.false_or, Bool.true_or, beq_self_eq_true, reduceCtorEq, Bool.and_true, Bool.true_and, o6, oi_s, does_nil]
          refine rest S .none _ now latest (some z) rows (fun Q hQ => ?_) (Rg.non.mono (by decide) (by decide)) (B.later (by omega) (by omega) (by omega))
          refine told0_does h.o1 h.o2 B1.n0 B1.n1 (by decide) (fun e => by have := B1.lt; omega) (fun _ _ => hQ S h) (fun _ e => nomatch e)
        | none =>
          have hdr : restI rows now latest (time + y) = rows.getD now.toNat 0 - (time + y - latest) := rfl
          have Bm := B.move (time' := time + y) (by omega) (by omega) (by omega)
          have hg := B.get now.toNat
          have hl5 := get_lt h.o5
          have hl6 := get_lt h.o6
          have ix0 : ixN rows.length now = some now.toNat := ix_nat B1.n0 B1.n1
          have ms : ∀ (j : Nat) (x : Int) (xs : List Int), (xs.map PyData.int).set j (.int x) = (xs.set j x).map .int := fun j x xs => List.map_set.symm
          have ix : ∀ x, ixN (rows.set now.toNat x).length now = some now.toNat := fun x => ix_nat B1.n0 (by rw [List.length_set]; exact B1.n1)
          have e65 : ∀ (o : SO), (S.set 5 o)[6]? = S[6]? := fun o => get_set_ne (by decide)
          have c1 : ∀ (a b : SO), ((S.set 5 a).set 6 b)[6]? = some b := fun a b => List.getElem?_set_self (by rw [List.length_set]; exact hl6)
          have c2 : ∀ (a b : SO), ((S.set 5 a).set 6 b)[5]? = some a := fun a b => by rw [get_set_ne (by decide), List.getElem?_set_self hl5]
          have c4 : ∀ (a b c : SO), ((S.set 5 a).set 6 b).set 5 c = (S.set 5 c).set 6 b := fun a b c => by rw [List.set_comm _ _ (by decide), List.set_set]
          have c3 : ∀ (a b c : SO), ((S.set 5 a).set 6 b).set 6 c = (S.set 5 a).set 6 c := fun a b c => List.set_set _
          have hT : ∀ (now2 : Int) (lost2 : Option Int) (rows2 : List Int), nowM rows now latest (time + y) = now2 → (if outL rows now latest (time + y) then some now else none) = lost2 → rowsM rows now latest (time + y) more = rows2 → ∀ Q : D → Store → Prop, (∀ S2, KI S2 more now2 (time + y) lost2 rows2 → Q (oi (toldM rows now latest (time + y) more)) S2) →
              Does (r__law_told [.int 0, ref 1, .int 0, .int (time + y)] ((S.set 5 (lstO rows2)).set 6 (mO 5 now2 (time + y) lost2))) Q := by
            intro now2 lost2 rows2 e1 e2 e3 Q hQ
            refine told0_does (now := now) (latest := latest) (lost := none) (rows := rows) (more := more) (r := 2) ?_ ?_ B1.n0 B1.n1 (by decide) (fun e => by have := B1.lt; omega) (fun _ e => absurd rfl e) (fun _ _ => hQ _ ?_)
            · simp (disch := first | omega | (simp only [List.length_set, List.length_append, List.length_singleton]; omega) | (simp only [List.length_set, List.length_append, List.length_singleton]; done) | fail) only [List.getElem?_set_ne, List.getElem?_append_left, List.getElem?_set_self, get_new', List.length_set, List.length_append, List.length_singleton, List.set_set, List.set_append_left, h.o1]
            · simp (disch := first | omega | (simp only [List.length_set, List.length_append, List.length_singleton]; omega) | (simp only [List.length_set, List.length_append, List.length_singleton]; done) | fail) only [List.getElem?_set_ne, List.getElem?_append_left, List.getElem?_set_self, get_new', List.length_set, List.length_append, List.length_singleton, List.set_set, List.set_append_left, h.o2]
            rw [e1, e2, e3]
            have l1 := get_lt h.o1
            have l2 := get_lt h.o2
            refine ⟨WOk.ne h.w ?_, ?_, ?_, ?_, ?_, ?_, ?_⟩
            · simp (disch := first | omega | (simp only [List.length_set, List.length_append, List.length_singleton]; omega) | (simp only [List.length_set, List.length_append, List.length_singleton]; done) | fail) only [List.getElem?_set_ne, List.getElem?_append_left, List.getElem?_set_self, get_new', List.length_set, List.length_append, List.length_singleton, List.set_set, List.set_append_left]
            · simp (disch := first | omega | (simp only [List.length_set, List.length_append, List.length_singleton]; omega) | (simp only [List.length_set, List.length_append, List.length_singleton]; done) | fail) only [List.getElem?_set_ne, List.getElem?_append_left, List.getElem?_set_self, get_new', List.length_set, List.length_append, List.length_singleton, List.set_set, List.set_append_left]
            · simp (disch := first | omega | (simp only [List.length_set, List.length_append, List.length_singleton]; omega) | (simp only [List.length_set, List.length_append, List.length_singleton]; done) | fail) only [List.getElem?_set_ne, List.getElem?_append_left, List.getElem?_set_self, get_new', List.length_set, List.length_append, List.length_singleton, List.set_set, List.set_append_left]
            · simp (disch := first | omega | (simp only [List.length_set, List.length_append, List.length_singleton]; omega) | (simp only [List.length_set, List.length_append, List.length_singleton]; done) | fail) only [List.getElem?_set_ne, List.getElem?_append_left, List.getElem?_set_self, get_new', List.length_set, List.length_append, List.length_singleton, List.set_set, List.set_append_left, h.o3]
            · simp (disch := first | omega | (simp only [List.length_set, List.length_append, List.length_singleton]; omega) | (simp only [List.length_set, List.length_append, List.length_singleton]; done) | fail) only [List.getElem?_set_ne, List.getElem?_append_left, List.getElem?_set_self, get_new', List.length_set, List.length_append, List.length_singleton, List.set_set, List.set_append_left, h.o4]
            · simp (disch := first | omega | (simp only [List.length_set, List.length_append, List.length_singleton]; omega) | (simp only [List.length_set, List.length_append, List.length_singleton]; done) | fail) only [List.getElem?_set_ne, List.getElem?_append_left, List.getElem?_set_self, get_new', List.length_set, List.length_append, List.length_singleton, List.set_set, List.set_append_left]
            · simp (disch := first | omega | (simp only [List.length_set, List.length_append, List.length_singleton]; omega) | (simp only [List.length_set, List.length_append, List.length_singleton]; done) | fail) only [List.getElem?_set_ne, List.getElem?_append_left, List.getElem?_set_self, get_new', List.length_set, List.length_append, List.length_singleton, List.set_set, List.set_append_left]
          simp only [does_ok, does_no, does_noX, does_bind, does_some, does_none, does_ofS, does_ofSif, does_oif, does_omap, does_if, nxt_nx, nxt_ret, nxt_brk, nxt_ct, turn_nx, turn_ret, turn_brk, turn_ct, if_no, exS, evE, evEs, evO, evC, evI, asgL, asgLs, asgT, asgTs, setPar, truR, appD, ownB, twos, scr_len, o_addII, o_addIB, o_addTT, o_addLL, o_addSS, o_subII, o_mulII, o_divII, o_modII, o_powII, q_ltII, q_leII, q_gtII, q_geII, q_isN, q_notN, isNone_n, isNone_i, isNone_b, isNone_s, isNone_t, isNone_l, q_isB, q_notB, q_eq, q_ne, eqC_i, eqC_n, eqC_b, eqC_s, eqC_t, eqC_l, unref_i, unref_n, unref_b, unref_s, unref_t, unref_l, eq_II, eq_SS, eq_BB, eq_NN, eq_NI, eq_IN, t_none, t_bool, t_int, k_abs, k_intI, k_intB, k_lenL, k_lenT, k_tupL, k_tupT, k_lstL, k_lstT, k_max2, k_min2, r_2, u_II, u_add, u_sub, l_list, s_list, s_tup, i_list, i_tup, smallI_eq, List.getElem?_cons_zero, List.getElem?_cons_succ, List.set_cons_zero, List.set_cons_succ, Option.map_some, Option.map_none, Option.bind_some, Option.isSome_some, if_true, if_false, Bool.and_eq_true, Bool.not_true, Bool.not_false, Bool.false_eq_true, decide_true, decide_false, decide_eq_true_eq, true_and, and_true, false_and, and_false, List.length_cons, List.length_nil, List.length_map, List.map_cons, List.map_nil, List.all_cons, List.all_nil, does_alloc, objN_ref, ix_last, set_last, set_lastM, isE_app, List.map_append, isNone_oi, eqC_oi, eq_oi, get_l, get_t, at_0, at_1, at_2, at_3, at_4, at_last, unref_ref, eqC_refL, dicOf_ref, seqOf_ref, lstOf_ref, iterOf_ref, getD_ref, putD_ref, fldD_ref, clsOf_ref, tru_ref, k_tupR, k_lstR, k_sumR, k_sumL, okKey_str, keyT_str, dput_def, fk_str, fk_int, mergeD_nil, mergeD_cons, ffind_nil, ffind_cons, fput_nil, fput_cons, ofString_inj, dfind_nil, dfind_cons, eqv_str, str_beq, twos, appD, ownB, String.reduceEq, Nat.reduceAdd, Nat.reduceLT, Nat.reduceLeDiff, Int.reduceLT, Int.reduceLE, Int.reduceNeg, Nat.reduceSub, Nat.zero_add, asgL, asgLs, List.any_cons, List.any_nil, List.cons_append, List.nil_append, List.replicate, List.reduceReplicate, Nat.sub_self, Option.isSome_none, Bool.or_false, Bool.or_true, Bool.false_or, Bool.true_or, beq_self_eq_true, reduceCtorEq, Bool.and_true, Bool.true_and, o6, oi_n]
          refine step fun K hk => ?_
          simp only [does_ok, does_no, does_noX, does_bind, does_some, does_none, does_ofS, does_ofSif, does_oif, does_omap, does_if, nxt_nx, nxt_ret, nxt_brk, nxt_ct, turn_nx, turn_ret, turn_brk, turn_ct, if_no, exS, evE, evEs, evO, evC, evI, asgL, asgLs, asgT, asgTs, setPar, truR, appD, ownB, twos, scr_len, o_addII, o_addIB, o_addTT, o_addLL, o_addSS, o_subII, o_mulII, o_divII, o_modII, o_powII, q_ltII, q_leII, q_gtII, q_geII, q_isN, q_notN, isNone_n, isNone_i, isNone_b, isNone_s, isNone_t, isNone_l, q_isB, q_notB, q_eq, q_ne, eqC_i, eqC_n, eqC_b, eqC_s, eqC_t, eqC_l, unref_i, unref_n, unref_b, unref_s, unref_t, unref_l, eq_II, eq_SS, eq_BB, eq_NN, eq_NI, eq_IN, t_none, t_bool, t_int, k_abs, k_intI, k_intB, k_lenL, k_lenT, k_tupL, k_tupT, k_lstL, k_lstT, k_max2, k_min2, r_2, u_II, u_add, u_sub, l_list, s_list, s_tup, i_list, i_tup, smallI_eq, List.getElem?_cons_zero, List.getElem?_cons_succ, List.set_cons_zero, List.set_cons_succ, Option.map_some, Option.map_none, Option.bind_some, Option.isSome_some, if_true, if_false, Bool.and_eq_true, Bool.not_true, Bool.not_false, Bool.false_eq_true, decide_true, decide_false, decide_eq_true_eq, true_and, and_true, false_and, and_false, List.length_cons, List.length_nil, List.length_map, List.map_cons, List.map_nil, List.all_cons, List.all_nil, does_alloc, objN_ref, ix_last, set_last, set_lastM, isE_app, List.map_append, isNone_oi, eqC_oi, eq_oi, get_l, get_t, at_0, at_1, at_2, at_3, at_4, at_last, unref_ref, eqC_refL, dicOf_ref, seqOf_ref, lstOf_ref, iterOf_ref, getD_ref, putD_ref, fldD_ref, clsOf_ref, tru_ref, k_tupR, k_lstR, k_sumR, k_sumL, okKey_str, keyT_str, dput_def, fk_str, fk_int, mergeD_nil, mergeD_cons, ffind_nil, ffind_cons, fput_nil, fput_cons, ofString_inj, dfind_nil, dfind_cons, eqv_str, str_beq, twos, appD, ownB, String.reduceEq, Nat.reduceAdd, Nat.reduceLT, Nat.reduceLeDiff, Int.reduceLT, Int.reduceLE, Int.reduceNeg, Nat.reduceSub, Nat.zero_add, asgL, asgLs, List.any_cons, List.any_nil, List.cons_append, List.nil_append, List.replicate, List.reduceReplicate, Nat.sub_self, Option.isSome_none, Bool.or_false, Bool.or_true, Bool.false_or, Bool.true_or, beq_self_eq_true, reduceCtorEq, Bool.and_true, Bool.true_and, o6, o5, at_int B1.n0 B1.n1]
          rw [← hdr]
          (refine hk.nx ?_; clear hk K; try with_reducible refine does_nilp ?_)
          refine step fun K hk => ?_
          simp only [does_ok, does_no, does_noX, does_bind, does_some, does_none, does_ofS, does_ofSif, does_oif, does_omap, does_if, nxt_nx, nxt_ret, nxt_brk, nxt_ct, turn_nx, turn_ret, turn_brk, turn_ct, if_no, exS, evE, evEs, evO, evC, evI, asgL, asgLs, asgT, asgTs, setPar, truR, appD, ownB, twos, scr_len, o_addII, o_addIB, o_addTT, o_addLL, o_addSS, o_subII, o_mulII, o_divII, o_modII, o_powII, q_ltII, q_leII, q_gtII, q_geII, q_isN, q_notN, isNone_n, isNone_i, isNone_b, isNone_s, isNone_t, isNone_l, q_isB, q_notB, q_eq, q_ne, eqC_i, eqC_n, eqC_b, eqC_s, eqC_t, eqC_l, unref_i, unref_n, unref_b, unref_s, unref_t, unref_l, eq_II, eq_SS, eq_BB, eq_NN, eq_NI, eq_IN, t_none, t_bool, t_int, k_abs, k_intI, k_intB, k_lenL, k_lenT, k_tupL, k_tupT, k_lstL, k_lstT, k_max2, k_min2, r_2, u_II, u_add, u_sub, l_list, s_list, s_tup, i_list, i_tup, smallI_eq, List.getElem?_cons_zero, List.getElem?_cons_succ, List.set_cons_zero, List.set_cons_succ, Option.map_some, Option.map_none, Option.bind_some, Option.isSome_some, if_true, if_false, Bool.and_eq_true, Bool.not_true, Bool.not_false, Bool.false_eq_true, decide_true, decide_false, decide_eq_true_eq, true_and, and_true, false_and, and_false, List.length_cons, List.length_nil, List.length_map, List.map_cons, List.map_nil, List.all_cons, List.all_nil, does_alloc, objN_ref, ix_last, set_last, set_lastM, isE_app, List.map_append, isNone_oi, eqC_oi, eq_oi, get_l, get_t, at_0, at_1, at_2, at_3, at_4, at_last, unref_ref, eqC_refL, dicOf_ref, seqOf_ref, lstOf_ref, iterOf_ref, getD_ref, putD_ref, fldD_ref, clsOf_ref, tru_ref, k_tupR, k_lstR, k_sumR, k_sumL, okKey_str, keyT_str, dput_def, fk_str, fk_int, mergeD_nil, mergeD_cons, ffind_nil, ffind_cons, fput_nil, fput_cons, ofString_inj, dfind_nil, dfind_cons, eqv_str, str_beq, twos, appD, ownB, String.reduceEq, Nat.reduceAdd, Nat.reduceLT, Nat.reduceLeDiff, Int.reduceLT, Int.reduceLE, Int.reduceNeg, Nat.reduceSub, Nat.zero_add, asgL, asgLs, List.any_cons, List.any_nil, List.cons_append, List.nil_append, List.replicate, List.reduceReplicate, Nat.sub_self, Option.isSome_none, Bool.or_false, Bool.or_true, Bool.false_or, Bool.true_or, beq_self_eq_true, reduceCtorEq, Bool.and_true, Bool.true_and, asgL, asgLs, o6, o5, e65, ix0, ms]
          (refine hk.nx ?_; clear hk K; try with_reducible refine does_nilp ?_)
          refine step fun K hk => ?_
          cases ho : outL rows now latest (time + y) with
          | true =>
            have hle : restI rows now latest (time + y) ≤ 0 := by simpa [outL] using ho
            simp only [does_ok, does_no, does_noX, does_bind, does_some, does_none, does_ofS, does_ofSif, does_oif, does_omap, does_if, nxt_nx, nxt_ret, nxt_brk, nxt_ct, turn_nx, turn_ret, turn_brk, turn_ct, if_no, exS, evE, evEs, evO, evC, evI, asgL, asgLs, asgT, asgTs, setPar, truR, appD, ownB, twos, scr_len, o_addII, o_addIB, o_addTT, o_addLL, o_addSS, o_subII, o_mulII, o_divII, o_modII, o_powII, q_ltII, q_leII, q_gtII, q_geII, q_isN, q_notN, isNone_n, isNone_i, isNone_b, isNone_s, isNone_t, isNone_l, q_isB, q_notB, q_eq, q_ne, eqC_i, eqC_n, eqC_b, eqC_s, eqC_t, eqC_l, unref_i, unref_n, unref_b, unref_s, unref_t, unref_l, eq_II, eq_SS, eq_BB, eq_NN, eq_NI, eq_IN, t_none, t_bool, t_int, k_abs, k_intI, k_intB, k_lenL, k_lenT, k_tupL, k_tupT, k_lstL, k_lstT, k_max2, k_min2, r_2, u_II, u_add, u_sub, l_list, s_list, s_tup, i_list, i_tup, smallI_eq, List.getElem?_cons_zero, List.getElem?_cons_succ, List.set_cons_zero, List.set_cons_succ, Option.map_some, Option.map_none, Option.bind_some, Option.isSome_some, if_true, if_false, Bool.and_eq_true, Bool.not_true, Bool.not_false, Bool.false_eq_true, decide_true, decide_false, decide_eq_true_eq, true_and, and_true, false_and, and_false, List.length_cons, List.length_nil, List.length_map, List.map_cons, List.map_nil, List.all_cons, List.all_nil, does_alloc, objN_ref, ix_last, set_last, set_lastM, isE_app, List.map_append, isNone_oi, eqC_oi, eq_oi, get_l, get_t, at_0, at_1, at_2, at_3, at_4, at_last, unref_ref, eqC_refL, dicOf_ref, seqOf_ref, lstOf_ref, iterOf_ref, getD_ref, putD_ref, fldD_ref, clsOf_ref, tru_ref, k_tupR, k_lstR, k_sumR, k_sumL, okKey_str, keyT_str, dput_def, fk_str, fk_int, mergeD_nil, mergeD_cons, ffind_nil, ffind_cons, fput_nil, fput_cons, ofString_inj, dfind_nil, dfind_cons, eqv_str, str_beq, twos, appD, ownB, String.reduceEq, Nat.reduceAdd, Nat.reduceLT, Nat.reduceLeDiff, Int.reduceLT, Int.reduceLE, Int.reduceNeg, Nat.reduceSub, Nat.zero_add, asgL, asgLs, List.any_cons, List.any_nil, List.cons_append, List.nil_append, List.replicate, List.reduceReplicate, Nat.sub_self, Option.isSome_none, Bool.or_false, Bool.or_true, Bool.false_or, Bool.true_or, beq_self_eq_true, reduceCtorEq, Bool.and_true, Bool.true_and, hle]
            refine step fun K hk => ?_
            simp only [does_ok, does_no, does_noX, does_bind, does_some, does_none, does_ofS, does_ofSif, does_oif, does_omap, does_if, nxt_nx, nxt_ret, nxt_brk, nxt_ct, turn_nx, turn_ret, turn_brk, turn_ct, if_no, exS, evE, evEs, evO, evC, evI, asgL, asgLs, asgT, asgTs, setPar, truR, appD, ownB, twos, scr_len, o_addII, o_addIB, o_addTT, o_addLL, o_addSS, o_subII, o_mulII, o_divII, o_modII, o_powII, q_ltII, q_leII, q_gtII, q_geII, q_isN, q_notN, isNone_n, isNone_i, isNone_b, isNone_s, isNone_t, isNone_l, q_isB, q_notB, q_eq, q_ne, eqC_i, eqC_n, eqC_b, eqC_s, eqC_t, eqC_l, unref_i, unref_n, unref_b, unref_s, unref_t, unref_l, eq_II, eq_SS, eq_BB, eq_NN, eq_NI, eq_IN, t_none, t_bool, t_int, k_abs, k_intI, k_intB, k_lenL, k_lenT, k_tupL, k_tupT, k_lstL, k_lstT, k_max2, k_min2, r_2, u_II, u_add, u_sub, l_list, s_list, s_tup, i_list, i_tup, smallI_eq, List.getElem?_cons_zero, List.getElem?_cons_succ, List.set_cons_zero, List.set_cons_succ, Option.map_some, Option.map_none, Option.bind_some, Option.isSome_some, if_true, if_false, Bool.and_eq_true, Bool.not_true, Bool.not_false, Bool.false_eq_true, decide_true, decide_false, decide_eq_true_eq, true_and, and_true, false_and, and_false, List.length_cons, List.length_nil, List.length_map, List.map_cons, List.map_nil, List.all_cons, List.all_nil, does_alloc, objN_ref, ix_last, set_last, set_lastM, isE_app, List.map_append, isNone_oi, eqC_oi, eq_oi, get_l, get_t, at_0, at_1, at_2, at_3, at_4, at_last, unref_ref, eqC_refL, dicOf_ref, seqOf_ref, lstOf_ref, iterOf_ref, getD_ref, putD_ref, fldD_ref, clsOf_ref, tru_ref, k_tupR, k_lstR, k_sumR, k_sumL, okKey_str, keyT_str, dput_def, fk_str, fk_int, mergeD_nil, mergeD_cons, ffind_nil, ffind_cons, fput_nil, fput_cons, ofString_inj, dfind_nil, dfind_cons, eqv_str, str_beq, twos, appD, ownB, String.reduceEq, Nat.reduceAdd, Nat.reduceLT, Nat.reduceLeDiff, Int.reduceLT, Int.reduceLE, Int.reduceNeg, Nat.reduceSub, Nat.zero_add, asgL, asgLs, List.any_cons, List.any_nil, List.cons_append, List.nil_append, List.replicate, List.reduceReplicate, Nat.sub_self, Option.isSome_none, Bool.or_false, Bool.or_true, Bool.false_or, Bool.true_or, beq_self_eq_true, reduceCtorEq, Bool.and_true, Bool.true_and, asgL, c1, c3]
            (refine hk.nx ?_; clear hk K; try with_reducible refine does_nilp ?_)
            (refine hk.nx ?_; clear hk K; try with_reducible refine does_nilp ?_)
            refine rest _ .none _ now (time + y) (some now) (rows.set now.toNat (restI rows now latest (time + y))) (fun Q hQ => ?_) (Rg.non.mono (by decide) (by decide)) ?_
            · refine hT now (some now) _ (by simp [nowM, ho]) (by simp [ho]) (by simp [rowsM, ho]) Q fun S2 h2 => ?_
              rw [show toldM rows now latest (time + y) more = none by simp [toldM, ho]]
              exact hQ S2 h2
            · simpa [nowM, rowsM, ho] using Bm
          | false =>
            have hle : ¬ restI rows now latest (time + y) ≤ 0 := by simpa [outL] using ho
            simp only [does_ok, does_no, does_noX, does_bind, does_some, does_none, does_ofS, does_ofSif, does_oif, does_omap, does_if, nxt_nx, nxt_ret, nxt_brk, nxt_ct, turn_nx, turn_ret, turn_brk, turn_ct, if_no, exS, evE, evEs, evO, evC, evI, asgL, asgLs, asgT, asgTs, setPar, truR, appD, ownB, twos, scr_len, o_addII, o_addIB, o_addTT, o_addLL, o_addSS, o_subII, o_mulII, o_divII, o_modII, o_powII, q_ltII, q_leII, q_gtII, q_geII, q_isN, q_notN, isNone_n, isNone_i, isNone_b, isNone_s, isNone_t, isNone_l, q_isB, q_notB, q_eq, q_ne, eqC_i, eqC_n, eqC_b, eqC_s, eqC_t, eqC_l, unref_i, unref_n, unref_b, unref_s, unref_t, unref_l, eq_II, eq_SS, eq_BB, eq_NN, eq_NI, eq_IN, t_none, t_bool, t_int, k_abs, k_intI, k_intB, k_lenL, k_lenT, k_tupL, k_tupT, k_lstL, k_lstT, k_max2, k_min2, r_2, u_II, u_add, u_sub, l_list, s_list, s_tup, i_list, i_tup, smallI_eq, List.getElem?_cons_zero, List.getElem?_cons_succ, List.set_cons_zero, List.set_cons_succ, Option.map_some, Option.map_none, Option.bind_some, Option.isSome_some, if_true, if_false, Bool.and_eq_true, Bool.not_true, Bool.not_false, Bool.false_eq_true, decide_true, decide_false, decide_eq_true_eq, true_and, and_true, false_and, and_false, List.length_cons, List.length_nil, List.length_map, List.map_cons, List.map_nil, List.all_cons, List.all_nil, does_alloc, objN_ref, ix_last, set_last, set_lastM, isE_app, List.map_append, isNone_oi, eqC_oi, eq_oi, get_l, get_t, at_0, at_1, at_2, at_3, at_4, at_last, unref_ref, eqC_refL, dicOf_ref, seqOf_ref, lstOf_ref, iterOf_ref, getD_ref, putD_ref, fldD_ref, clsOf_ref, tru_ref, k_tupR, k_lstR, k_sumR, k_sumL, okKey_str, keyT_str, dput_def, fk_str, fk_int, mergeD_nil, mergeD_cons, ffind_nil, ffind_cons, fput_nil, fput_cons, ofString_inj, dfind_nil, dfind_cons, eqv_str, str_beq, twos, appD, ownB, String.reduceEq, Nat.reduceAdd, Nat.reduceLT, Nat.reduceLeDiff, Int.reduceLT, Int.reduceLE, Int.reduceNeg, Nat.reduceSub, Nat.zero_add, asgL, asgLs, List.any_cons, List.any_nil, List.cons_append, List.nil_append, List.replicate, List.reduceReplicate, Nat.sub_self, Option.isSome_none, Bool.or_false, Bool.or_true, Bool.false_or, Bool.true_or, beq_self_eq_true, reduceCtorEq, Bool.and_true, Bool.true_and, hle]
            refine step fun K hk => ?_
            simp only [does_ok, does_no, does_noX, does_bind, does_some, does_none, does_ofS, does_ofSif, does_oif, does_omap, does_if, nxt_nx, nxt_ret, nxt_brk, nxt_ct, turn_nx, turn_ret, turn_brk, turn_ct, if_no, exS, evE, evEs, evO, evC, evI, asgL, asgLs, asgT, asgTs, setPar, truR, appD, ownB, twos, scr_len, o_addII, o_addIB, o_addTT, o_addLL, o_addSS, o_subII, o_mulII, o_divII, o_modII, o_powII, q_ltII, q_leII, q_gtII, q_geII, q_isN, q_notN, isNone_n, isNone_i, isNone_b, isNone_s, isNone_t, isNone_l, q_isB, q_notB, q_eq, q_ne, eqC_i, eqC_n, eqC_b, eqC_s, eqC_t, eqC_l, unref_i, unref_n, unref_b, unref_s, unref_t, unref_l, eq_II, eq_SS, eq_BB, eq_NN, eq_NI, eq_IN, t_none, t_bool, t_int, k_abs, k_intI, k_intB, k_lenL, k_lenT, k_tupL, k_tupT, k_lstL, k_lstT, k_max2, k_min2, r_2, u_II, u_add, u_sub, l_list, s_list, s_tup, i_list, i_tup, smallI_eq, List.getElem?_cons_zero, List.getElem?_cons_succ, List.set_cons_zero, List.set_cons_succ, Option.map_some, Option.map_none, Option.bind_some, Option.isSome_some, if_true, if_false, Bool.and_eq_true, Bool.not_true, Bool.not_false, Bool.false_eq_true, decide_true, decide_false, decide_eq_true_eq, true_and, and_true, false_and, and_false, List.length_cons, List.length_nil, List.length_map, List.map_cons, List.map_nil, List.all_cons, List.all_nil, does_alloc, objN_ref, ix_last, set_last, set_lastM, isE_app, List.map_append, isNone_oi, eqC_oi, eq_oi, get_l, get_t, at_0, at_1, at_2, at_3, at_4, at_last, unref_ref, eqC_refL, dicOf_ref, seqOf_ref, lstOf_ref, iterOf_ref, getD_ref, putD_ref, fldD_ref, clsOf_ref, tru_ref, k_tupR, k_lstR, k_sumR, k_sumL, okKey_str, keyT_str, dput_def, fk_str, fk_int, mergeD_nil, mergeD_cons, ffind_nil, ffind_cons, fput_nil, fput_cons, ofString_inj, dfind_nil, dfind_cons, eqv_str, str_beq, twos, appD, ownB, String.reduceEq, Nat.reduceAdd, Nat.reduceLT, Nat.reduceLeDiff, Int.reduceLT, Int.reduceLE, Int.reduceNeg, Nat.reduceSub, Nat.zero_add, asgL, asgLs, List.any_cons, List.any_nil, List.cons_append, List.nil_append, List.replicate, List.reduceReplicate, Nat.sub_self, Option.isSome_none, Bool.or_false, Bool.or_true, Bool.false_or, Bool.true_or, beq_self_eq_true, reduceCtorEq, Bool.and_true, Bool.true_and]
            (refine hk.nx ?_; clear hk K; try with_reducible refine does_nilp ?_)
            refine step fun K hk => ?_
            simp only [does_ok, does_no, does_noX, does_bind, does_some, does_none, does_ofS, does_ofSif, does_oif, does_omap, does_if, nxt_nx, nxt_ret, nxt_brk, nxt_ct, turn_nx, turn_ret, turn_brk, turn_ct, if_no, exS, evE, evEs, evO, evC, evI, asgL, asgLs, asgT, asgTs, setPar, truR, appD, ownB, twos, scr_len, o_addII, o_addIB, o_addTT, o_addLL, o_addSS, o_subII, o_mulII, o_divII, o_modII, o_powII, q_ltII, q_leII, q_gtII, q_geII, q_isN, q_notN, isNone_n, isNone_i, isNone_b, isNone_s, isNone_t, isNone_l, q_isB, q_notB, q_eq, q_ne, eqC_i, eqC_n, eqC_b, eqC_s, eqC_t, eqC_l, unref_i, unref_n, unref_b, unref_s, unref_t, unref_l, eq_II, eq_SS, eq_BB, eq_NN, eq_NI, eq_IN, t_none, t_bool, t_int, k_abs, k_intI, k_intB, k_lenL, k_lenT, k_tupL, k_tupT, k_lstL, k_lstT, k_max2, k_min2, r_2, u_II, u_add, u_sub, l_list, s_list, s_tup, i_list, i_tup, smallI_eq, List.getElem?_cons_zero, List.getElem?_cons_succ, List.set_cons_zero, List.set_cons_succ, Option.map_some, Option.map_none, Option.bind_some, Option.isSome_some, if_true, if_false, Bool.and_eq_true, Bool.not_true, Bool.not_false, Bool.false_eq_true, decide_true, decide_false, decide_eq_true_eq, true_and, and_true, false_and, and_false, List.length_cons, List.length_nil, List.length_map, List.map_cons, List.map_nil, List.all_cons, List.all_nil, does_alloc, objN_ref, ix_last, set_last, set_lastM, isE_app, List.map_append, isNone_oi, eqC_oi, eq_oi, get_l, get_t, at_0, at_1, at_2, at_3, at_4, at_last, unref_ref, eqC_refL, dicOf_ref, seqOf_ref, lstOf_ref, iterOf_ref, getD_ref, putD_ref, fldD_ref, clsOf_ref, tru_ref, k_tupR, k_lstR, k_sumR, k_sumL, okKey_str, keyT_str, dput_def, fk_str, fk_int, mergeD_nil, mergeD_cons, ffind_nil, ffind_cons, fput_nil, fput_cons, ofString_inj, dfind_nil, dfind_cons, eqv_str, str_beq, twos, appD, ownB, String.reduceEq, Nat.reduceAdd, Nat.reduceLT, Nat.reduceLeDiff, Int.reduceLT, Int.reduceLE, Int.reduceNeg, Nat.reduceSub, Nat.zero_add, asgL, asgLs, List.any_cons, List.any_nil, List.cons_append, List.nil_append, List.replicate, List.reduceReplicate, Nat.sub_self, Option.isSome_none, Bool.or_false, Bool.or_true, Bool.false_or, Bool.true_or, beq_self_eq_true, reduceCtorEq, Bool.and_true, Bool.true_and, asgL, c1, c2, c4, ix, ms, List.set_set]
            (refine hk.nx ?_; clear hk K; try with_reducible refine does_nilp ?_)
            refine step fun K hk => ?_
            have hpos : (0 : Int) < players := by omega
            simp only [does_ok, does_no, does_noX, does_bind, does_some, does_none, does_ofS, does_ofSif, does_oif, does_omap, does_if, nxt_nx, nxt_ret, nxt_brk, nxt_ct, turn_nx, turn_ret, turn_brk, turn_ct, if_no, exS, evE, evEs, evO, evC, evI, asgL, asgLs, asgT, asgTs, setPar, truR, appD, ownB, twos, scr_len, o_addII, o_addIB, o_addTT, o_addLL, o_addSS, o_subII, o_mulII, o_divII, o_modII, o_powII, q_ltII, q_leII, q_gtII, q_geII, q_isN, q_notN, isNone_n, isNone_i, isNone_b, isNone_s, isNone_t, isNone_l, q_isB, q_notB, q_eq, q_ne, eqC_i, eqC_n, eqC_b, eqC_s, eqC_t, eqC_l, unref_i, unref_n, unref_b, unref_s, unref_t, unref_l, eq_II, eq_SS, eq_BB, eq_NN, eq_NI, eq_IN, t_none, t_bool, t_int, k_abs, k_intI, k_intB, k_lenL, k_lenT, k_tupL, k_tupT, k_lstL, k_lstT, k_max2, k_min2, r_2, u_II, u_add, u_sub, l_list, s_list, s_tup, i_list, i_tup, smallI_eq, List.getElem?_cons_zero, List.getElem?_cons_succ, List.set_cons_zero, List.set_cons_succ, Option.map_some, Option.map_none, Option.bind_some, Option.isSome_some, if_true, if_false, Bool.and_eq_true, Bool.not_true, Bool.not_false, Bool.false_eq_true, decide_true, decide_false, decide_eq_true_eq, true_and, and_true, false_and, and_false, List.length_cons, List.length_nil, List.length_map, List.map_cons, List.map_nil, List.all_cons, List.all_nil, does_alloc, objN_ref, ix_last, set_last, set_lastM, isE_app, List.map_append, isNone_oi, eqC_oi, eq_oi, get_l, get_t, at_0, at_1, at_2, at_3, at_4, at_last, unref_ref, eqC_refL, dicOf_ref, seqOf_ref, lstOf_ref, iterOf_ref, getD_ref, putD_ref, fldD_ref, clsOf_ref, tru_ref, k_tupR, k_lstR, k_sumR, k_sumL, okKey_str, keyT_str, dput_def, fk_str, fk_int, mergeD_nil, mergeD_cons, ffind_nil, ffind_cons, fput_nil, fput_cons, ofString_inj, dfind_nil, dfind_cons, eqv_str, str_beq, twos, appD, ownB, String.reduceEq, Nat.reduceAdd, Nat.reduceLT, Nat.reduceLeDiff, Int.reduceLT, Int.reduceLE, Int.reduceNeg, Nat.reduceSub, Nat.zero_add, asgL, asgLs, List.any_cons, List.any_nil, List.cons_append, List.nil_append, List.replicate, List.reduceReplicate, Nat.sub_self, Option.isSome_none, Bool.or_false, Bool.or_true, Bool.false_or, Bool.true_or, beq_self_eq_true, reduceCtorEq, Bool.and_true, Bool.true_and, asgL, c1, c3, hpos]
            (refine hk.nx ?_; clear hk K; try with_reducible refine does_nilp ?_)
            (refine hk.nx ?_; clear hk K; try with_reducible refine does_nilp ?_)
            refine rest _ (.int (restI rows now latest (time + y) + more)) _ ((now + 1) % players) (time + y) none (rows.set now.toNat (restI rows now latest (time + y) + more)) (fun Q hQ => ?_) (Rg.int ?_) ?_
            · refine hT ((now + 1) % players) none _ (by simp [nowM, ho, B.pl]) (by simp [ho]) (by simp [rowsM, ho]) Q fun S2 h2 => ?_
              rw [show toldM rows now latest (time + y) more = some (restI rows now latest (time + y) + more) by simp [toldM, ho]]
              exact hQ S2 h2
            · rw [hdr]
              have := B.l0
              have := B.mo
              have := B.ip
              have := B.t1
              omega
            · simpa [nowM, rowsM, ho, B.pl] using Bm
      intro S' due x11 now2 latest2 lost2 rows2 hT hD B2
      (refine hk.nx ?_; clear hk K; try with_reducible refine does_nilp ?_)
      refine step fun K hk => ?_
      simp only [does_ok, does_no, does_noX, does_bind, does_some, does_none, does_ofS, does_ofSif, does_oif, does_omap, does_if, nxt_nx, nxt_ret, nxt_brk, nxt_ct, turn_nx, turn_ret, turn_brk, turn_ct, if_no, exS, evE, evEs, evO, evC, evI, asgL, asgLs, asgT, asgTs, setPar, truR, appD, ownB, twos, scr_len, o_addII, o_addIB, o_addTT, o_addLL, o_addSS, o_subII, o_mulII, o_divII, o_modII, o_powII, q_ltII, q_leII, q_gtII, q_geII, q_isN, q_notN, isNone_n, isNone_i, isNone_b, isNone_s, isNone_t, isNone_l, q_isB, q_notB, q_eq, q_ne, eqC_i, eqC_n, eqC_b, eqC_s, eqC_t, eqC_l, unref_i, unref_n, unref_b, unref_s, unref_t, unref_l, eq_II, eq_SS, eq_BB, eq_NN, eq_NI, eq_IN, t_none, t_bool, t_int, k_abs, k_intI, k_intB, k_lenL, k_lenT, k_tupL, k_tupT, k_lstL, k_lstT, k_max2, k_min2, r_2, u_II, u_add, u_sub, l_list, s_list, s_tup, i_list, i_tup, smallI_eq, List.getElem?_cons_zero, List.getElem?_cons_succ, List.set_cons_zero, List.set_cons_succ, Option.map_some, Option.map_none, Option.bind_some, Option.isSome_some, if_true, if_false, Bool.and_eq_true, Bool.not_true, Bool.not_false, Bool.false_eq_true, decide_true, decide_false, decide_eq_true_eq, true_and, and_true, false_and, and_false, List.length_cons, List.length_nil, List.length_map, List.map_cons, List.map_nil, List.all_cons, List.all_nil, does_alloc, objN_ref, ix_last, set_last, set_lastM, isE_app, List.map_append, isNone_oi, eqC_oi, eq_oi, get_l, get_t, at_0, at_1, at_2, at_3, at_4, at_last, unref_ref, eqC_refL, dicOf_ref, seqOf_ref, lstOf_ref, iterOf_ref, getD_ref, putD_ref, fldD_ref, clsOf_ref, tru_ref, k_tupR, k_lstR, k_sumR, k_sumL, okKey_str, keyT_str, dput_def, fk_str, fk_int, mergeD_nil, mergeD_cons, ffind_nil, ffind_cons, fput_nil, fput_cons, ofString_inj, dfind_nil, dfind_cons, eqv_str, str_beq, twos, appD, ownB, String.reduceEq, Nat.reduceAdd, Nat.reduceLT, Nat.reduceLeDiff, Int.reduceLT, Int.reduceLE, Int.reduceNeg, Nat.reduceSub, Nat.zero_add, asgL, asgLs, List.any_cons, List.any_nil, List.cons_append, List.nil_append, List.replicate, List.reduceReplicate, Nat.sub_self, Option.isSome_none, Bool.or_false, Bool.or_true, Bool.false_or, Bool.true_or, beq_self_eq_true, reduceCtorEq, Bool.and_true, Bool.true_and, L_law__law_told, L_law__law_same]
      refine hT _ fun S2 h2 => ?_
      refine sm_does hD (by decide) (by decide) ?_
      simp only [does_ok, does_no, does_noX, does_bind, does_some, does_none, does_ofS, does_ofSif, does_oif, does_omap, does_if, nxt_nx, nxt_ret, nxt_brk, nxt_ct, turn_nx, turn_ret, turn_brk, turn_ct, if_no, exS, evE, evEs, evO, evC, evI, asgL, asgLs, asgT, asgTs, setPar, truR, appD, ownB, twos, scr_len, o_addII, o_addIB, o_addTT, o_addLL, o_addSS, o_subII, o_mulII, o_divII, o_modII, o_powII, q_ltII, q_leII, q_gtII, q_geII, q_isN, q_notN, isNone_n, isNone_i, isNone_b, isNone_s, isNone_t, isNone_l, q_isB, q_notB, q_eq, q_ne, eqC_i, eqC_n, eqC_b, eqC_s, eqC_t, eqC_l, unref_i, unref_n, unref_b, unref_s, unref_t, unref_l, eq_II, eq_SS, eq_BB, eq_NN, eq_NI, eq_IN, t_none, t_bool, t_int, k_abs, k_intI, k_intB, k_lenL, k_lenT, k_tupL, k_tupT, k_lstL, k_lstT, k_max2, k_min2, r_2, u_II, u_add, u_sub, l_list, s_list, s_tup, i_list, i_tup, smallI_eq, List.getElem?_cons_zero, List.getElem?_cons_succ, List.set_cons_zero, List.set_cons_succ, Option.map_some, Option.map_none, Option.bind_some, Option.isSome_some, if_true, if_false, Bool.and_eq_true, Bool.not_true, Bool.not_false, Bool.false_eq_true, decide_true, decide_false, decide_eq_true_eq, true_and, and_true, false_and, and_false, List.length_cons, List.length_nil, List.length_map, List.map_cons, List.map_nil, List.all_cons, List.all_nil, does_alloc, objN_ref, ix_last, set_last, set_lastM, isE_app, List.map_append, isNone_oi, eqC_oi, eq_oi, get_l, get_t, at_0, at_1, at_2, at_3, at_4, at_last, unref_ref, eqC_refL, dicOf_ref, seqOf_ref, lstOf_ref, iterOf_ref, getD_ref, putD_ref, fldD_ref, clsOf_ref, tru_ref, k_tupR, k_lstR, k_sumR, k_sumL, okKey_str, keyT_str, dput_def, fk_str, fk_int, mergeD_nil, mergeD_cons, ffind_nil, ffind_cons, fput_nil, fput_cons, ofString_inj, dfind_nil, dfind_cons, eqv_str, str_beq, twos, appD, ownB, String.reduceEq, Nat.reduceAdd, Nat.reduceLT, Nat.reduceLeDiff, Int.reduceLT, Int.reduceLE, Int.reduceNeg, Nat.reduceSub, Nat.zero_add, asgL, asgLs, List.any_cons, List.any_nil, List.cons_append, List.nil_append, List.replicate, List.reduceReplicate, Nat.sub_self, Option.isSome_none, Bool.or_false, Bool.or_true, Bool.false_or, Bool.true_or, beq_self_eq_true, reduceCtorEq, Bool.and_true, Bool.true_and, does_nil]
      (refine hk.nx ?_; clear hk K; try with_reducible refine does_nilp ?_)
      refine step fun K hk => ?_
      simp only [does_ok, does_no, does_noX, does_bind, does_some, does_none, does_ofS, does_ofSif, does_oif, does_omap, does_if, nxt_nx, nxt_ret, nxt_brk, nxt_ct, turn_nx, turn_ret, turn_brk, turn_ct, if_no, exS, evE, evEs, evO, evC, evI, asgL, asgLs, asgT, asgTs, setPar, truR, appD, ownB, twos, scr_len, o_addII, o_addIB, o_addTT, o_addLL, o_addSS, o_subII, o_mulII, o_divII, o_modII, o_powII, q_ltII, q_leII, q_gtII, q_geII, q_isN, q_notN, isNone_n, isNone_i, isNone_b, isNone_s, isNone_t, isNone_l, q_isB, q_notB, q_eq, q_ne, eqC_i, eqC_n, eqC_b, eqC_s, eqC_t, eqC_l, unref_i, unref_n, unref_b, unref_s, unref_t, unref_l, eq_II, eq_SS, eq_BB, eq_NN, eq_NI, eq_IN, t_none, t_bool, t_int, k_abs, k_intI, k_intB, k_lenL, k_lenT, k_tupL, k_tupT, k_lstL, k_lstT, k_max2, k_min2, r_2, u_II, u_add, u_sub, l_list, s_list, s_tup, i_list, i_tup, smallI_eq, List.getElem?_cons_zero, List.getElem?_cons_succ, List.set_cons_zero, List.set_cons_succ, Option.map_some, Option.map_none, Option.bind_some, Option.isSome_some, if_true, if_false, Bool.and_eq_true, Bool.not_true, Bool.not_false, Bool.false_eq_true, decide_true, decide_false, decide_eq_true_eq, true_and, and_true, false_and, and_false, List.length_cons, List.length_nil, List.length_map, List.map_cons, List.map_nil, List.all_cons, List.all_nil, does_alloc, objN_ref, ix_last, set_last, set_lastM, isE_app, List.map_append, isNone_oi, eqC_oi, eq_oi, get_l, get_t, at_0, at_1, at_2, at_3, at_4, at_last, unref_ref, eqC_refL, dicOf_ref, seqOf_ref, lstOf_ref, iterOf_ref, getD_ref, putD_ref, fldD_ref, clsOf_ref, tru_ref, k_tupR, k_lstR, k_sumR, k_sumL, okKey_str, keyT_str, dput_def, fk_str, fk_int, mergeD_nil, mergeD_cons, ffind_nil, ffind_cons, fput_nil, fput_cons, ofString_inj, dfind_nil, dfind_cons, eqv_str, str_beq, twos, appD, ownB, String.reduceEq, Nat.reduceAdd, Nat.reduceLT, Nat.reduceLeDiff, Int.reduceLT, Int.reduceLE, Int.reduceNeg, Nat.reduceSub, Nat.zero_add, asgL, asgLs, List.any_cons, List.any_nil, List.cons_append, List.nil_append, List.replicate, List.reduceReplicate, Nat.sub_self, Option.isSome_none, Bool.or_false, Bool.or_true, Bool.false_or, Bool.true_or, beq_self_eq_true, reduceCtorEq, Bool.and_true, Bool.true_and, L_law__law_looks_right, L_law__law_next]
      refine nx_does h2.w (by decide) fun d o d0 d1 hw => ?_
      replace h2 := h2.draw hw
      generalize S2.set 0 o = S2 at h2
      try simp only [does_ok, does_no, does_noX, does_bind, does_some, does_none, does_ofS, does_ofSif, does_oif, does_omap, does_if, nxt_nx, nxt_ret, nxt_brk, nxt_ct, turn_nx, turn_ret, turn_brk, turn_ct, if_no, exS, evE, evEs, evO, evC, evI, asgL, asgLs, asgT, asgTs, setPar, truR, appD, ownB, twos, scr_len, o_addII, o_addIB, o_addTT, o_addLL, o_addSS, o_subII, o_mulII, o_divII, o_modII, o_powII, q_ltII, q_leII, q_gtII, q_geII, q_isN, q_notN, isNone_n, isNone_i, isNone_b, isNone_s, isNone_t, isNone_l, q_isB, q_notB, q_eq, q_ne, eqC_i, eqC_n, eqC_b, eqC_s, eqC_t, eqC_l, unref_i, unref_n, unref_b, unref_s, unref_t, unref_l, eq_II, eq_SS, eq_BB, eq_NN, eq_NI, eq_IN, t_none, t_bool, t_int, k_abs, k_intI, k_intB, k_lenL, k_lenT, k_tupL, k_tupT, k_lstL, k_lstT, k_max2, k_min2, r_2, u_II, u_add, u_sub, l_list, s_list, s_tup, i_list, i_tup, smallI_eq, List.getElem?_cons_zero, List.getElem?_cons_succ, List.set_cons_zero, List.set_cons_succ, Option.map_some, Option.map_none, Option.bind_some, Option.isSome_some, if_true, if_false, Bool.and_eq_true, Bool.not_true, Bool.not_false, Bool.false_eq_true, decide_true, decide_false, decide_eq_true_eq, true_and, and_true, false_and, and_false, List.length_cons, List.length_nil, List.length_map, List.map_cons, List.map_nil, List.all_cons, List.all_nil, does_alloc, objN_ref, ix_last, set_last, set_lastM, isE_app, List.map_append, isNone_oi, eqC_oi, eq_oi, get_l, get_t, at_0, at_1, at_2, at_3, at_4, at_last, unref_ref, eqC_refL, dicOf_ref, seqOf_ref, lstOf_ref, iterOf_ref, getD_ref, putD_ref, fldD_ref, clsOf_ref, tru_ref, k_tupR, k_lstR, k_sumR, k_sumL, okKey_str, keyT_str, dput_def, fk_str, fk_int, mergeD_nil, mergeD_cons, ffind_nil, ffind_cons, fput_nil, fput_cons, ofString_inj, dfind_nil, dfind_cons, eqv_str, str_beq, twos, appD, ownB, String.reduceEq, Nat.reduceAdd, Nat.reduceLT, Nat.reduceLeDiff, Int.reduceLT, Int.reduceLE, Int.reduceNeg, Nat.reduceSub, Nat.zero_add, asgL, asgLs, List.any_cons, List.any_nil, List.cons_append, List.nil_append, List.replicate, List.reduceReplicate, Nat.sub_self, Option.isSome_none, Bool.or_false, Bool.or_true, Bool.false_or, Bool.true_or, beq_self_eq_true, reduceCtorEq, Bool.and_true, Bool.true_and]
      refine looks_does h2.o1 h2.o2 h2.o5 h2.o6 (by decide) (B2.bds (by omega)) ?_
      simp only [does_ok, does_no, does_noX, does_bind, does_some, does_none, does_ofS, does_ofSif, does_oif, does_omap, does_if, nxt_nx, nxt_ret, nxt_brk, nxt_ct, turn_nx, turn_ret, turn_brk, turn_ct, if_no, exS, evE, evEs, evO, evC, evI, asgL, asgLs, asgT, asgTs, setPar, truR, appD, ownB, twos, scr_len, o_addII, o_addIB, o_addTT, o_addLL, o_addSS, o_subII, o_mulII, o_divII, o_modII, o_powII, q_ltII, q_leII, q_gtII, q_geII, q_isN, q_notN, isNone_n, isNone_i, isNone_b, isNone_s, isNone_t, isNone_l, q_isB, q_notB, q_eq, q_ne, eqC_i, eqC_n, eqC_b, eqC_s, eqC_t, eqC_l, unref_i, unref_n, unref_b, unref_s, unref_t, unref_l, eq_II, eq_SS, eq_BB, eq_NN, eq_NI, eq_IN, t_none, t_bool, t_int, k_abs, k_intI, k_intB, k_lenL, k_lenT, k_tupL, k_tupT, k_lstL, k_lstT, k_max2, k_min2, r_2, u_II, u_add, u_sub, l_list, s_list, s_tup, i_list, i_tup, smallI_eq, List.getElem?_cons_zero, List.getElem?_cons_succ, List.set_cons_zero, List.set_cons_succ, Option.map_some, Option.map_none, Option.bind_some, Option.isSome_some, if_true, if_false, Bool.and_eq_true, Bool.not_true, Bool.not_false, Bool.false_eq_true, decide_true, decide_false, decide_eq_true_eq, true_and, and_true, false_and, and_false, List.length_cons, List.length_nil, List.length_map, List.map_cons, List.map_nil, List.all_cons, List.all_nil, does_alloc, objN_ref, ix_last, set_last, set_lastM, isE_app, List.map_append, isNone_oi, eqC_oi, eq_oi, get_l, get_t, at_0, at_1, at_2, at_3, at_4, at_last, unref_ref, eqC_refL, dicOf_ref, seqOf_ref, lstOf_ref, iterOf_ref, getD_ref, putD_ref, fldD_ref, clsOf_ref, tru_ref, k_tupR, k_lstR, k_sumR, k_sumL, okKey_str, keyT_str, dput_def, fk_str, fk_int, mergeD_nil, mergeD_cons, ffind_nil, ffind_cons, fput_nil, fput_cons, ofString_inj, dfind_nil, dfind_cons, eqv_str, str_beq, twos, appD, ownB, String.reduceEq, Nat.reduceAdd, Nat.reduceLT, Nat.reduceLeDiff, Int.reduceLT, Int.reduceLE, Int.reduceNeg, Nat.reduceSub, Nat.zero_add, asgL, asgLs, List.any_cons, List.any_nil, List.cons_append, List.nil_append, List.replicate, List.reduceReplicate, Nat.sub_self, Option.isSome_none, Bool.or_false, Bool.or_true, Bool.false_or, Bool.true_or, beq_self_eq_true, reduceCtorEq, Bool.and_true, Bool.true_and, does_nil]
      (refine hk.nx ?_; clear hk K; try with_reducible refine does_nilp ?_)
      exact ⟨time + y, _, _, _, _, now2, latest2, lost2, rows2, rfl, h2, B2⟩
    · rintro _ S ⟨time, x4, x5, x10, x11, now, latest, lost, rows, rfl, h, B⟩
      (refine hk.nx ?_; clear hk K; try with_reducible refine does_nilp ?_)
      refine step fun K hk => ?_
      have o3 := h.o3
      unfold tcO at o3
      have l3 := get_lt h.o3
      have l4 := get_lt h.o4
      simp only [does_ok, does_no, does_noX, does_bind, does_some, does_none, does_ofS, does_ofSif, does_oif, does_omap, does_if, nxt_nx, nxt_ret, nxt_brk, nxt_ct, turn_nx, turn_ret, turn_brk, turn_ct, if_no, exS, evE, evEs, evO, evC, evI, asgL, asgLs, asgT, asgTs, setPar, truR, appD, ownB, twos, scr_len, o_addII, o_addIB, o_addTT, o_addLL, o_addSS, o_subII, o_mulII, o_divII, o_modII, o_powII, q_ltII, q_leII, q_gtII, q_geII, q_isN, q_notN, isNone_n, isNone_i, isNone_b, isNone_s, isNone_t, isNone_l, q_isB, q_notB, q_eq, q_ne, eqC_i, eqC_n, eqC_b, eqC_s, eqC_t, eqC_l, unref_i, unref_n, unref_b, unref_s, unref_t, unref_l, eq_II, eq_SS, eq_BB, eq_NN, eq_NI, eq_IN, t_none, t_bool, t_int, k_abs, k_intI, k_intB, k_lenL, k_lenT, k_tupL, k_tupT, k_lstL, k_lstT, k_max2, k_min2, r_2, u_II, u_add, u_sub, l_list, s_list, s_tup, i_list, i_tup, smallI_eq, List.getElem?_cons_zero, List.getElem?_cons_succ, List.set_cons_zero, List.set_cons_succ, Option.map_some, Option.map_none, Option.bind_some, Option.isSome_some, if_true, if_false, Bool.and_eq_true, Bool.not_true, Bool.not_false, Bool.false_eq_true, decide_true, decide_false, decide_eq_true_eq, true_and, and_true, false_and, and_false, List.length_cons, List.length_nil, List.length_map, List.map_cons, List.map_nil, List.all_cons, List.all_nil, does_alloc, objN_ref, ix_last, set_last, set_lastM, isE_app, List.map_append, isNone_oi, eqC_oi, eq_oi, get_l, get_t, at_0, at_1, at_2, at_3, at_4, at_last, unref_ref, eqC_refL, dicOf_ref, seqOf_ref, lstOf_ref, iterOf_ref, getD_ref, putD_ref, fldD_ref, clsOf_ref, tru_ref, k_tupR, k_lstR, k_sumR, k_sumL, okKey_str, keyT_str, dput_def, fk_str, fk_int, mergeD_nil, mergeD_cons, ffind_nil, ffind_cons, fput_nil, fput_cons, ofString_inj, dfind_nil, dfind_cons, eqv_str, str_beq, twos, appD, ownB, String.reduceEq, Nat.reduceAdd, Nat.reduceLT, Nat.reduceLeDiff, Int.reduceLT, Int.reduceLE, Int.reduceNeg, Nat.reduceSub, Nat.zero_add, asgL, asgLs, List.any_cons, List.any_nil, List.cons_append, List.nil_append, List.replicate, List.reduceReplicate, Nat.sub_self, Option.isSome_none, Bool.or_false, Bool.or_true, Bool.false_or, Bool.true_or, beq_self_eq_true, reduceCtorEq, Bool.and_true, Bool.true_and, o3, L_law_TurnClocks_turn, L_law_TurnClocks_out_at, L_law_TurnClocks_move, L_law_TurnClocks_left, L_law__law_same]
      refine turn_does h.o3 ?_
      refine sm_does (Rg.int (by decide)) (by decide) (by decide) ?_
      simp only [does_ok, does_no, does_noX, does_bind, does_some, does_none, does_ofS, does_ofSif, does_oif, does_omap, does_if, nxt_nx, nxt_ret, nxt_brk, nxt_ct, turn_nx, turn_ret, turn_brk, turn_ct, if_no, exS, evE, evEs, evO, evC, evI, asgL, asgLs, asgT, asgTs, setPar, truR, appD, ownB, twos, scr_len, o_addII, o_addIB, o_addTT, o_addLL, o_addSS, o_subII, o_mulII, o_divII, o_modII, o_powII, q_ltII, q_leII, q_gtII, q_geII, q_isN, q_notN, isNone_n, isNone_i, isNone_b, isNone_s, isNone_t, isNone_l, q_isB, q_notB, q_eq, q_ne, eqC_i, eqC_n, eqC_b, eqC_s, eqC_t, eqC_l, unref_i, unref_n, unref_b, unref_s, unref_t, unref_l, eq_II, eq_SS, eq_BB, eq_NN, eq_NI, eq_IN, t_none, t_bool, t_int, k_abs, k_intI, k_intB, k_lenL, k_lenT, k_tupL, k_tupT, k_lstL, k_lstT, k_max2, k_min2, r_2, u_II, u_add, u_sub, l_list, s_list, s_tup, i_list, i_tup, smallI_eq, List.getElem?_cons_zero, List.getElem?_cons_succ, List.set_cons_zero, List.set_cons_succ, Option.map_some, Option.map_none, Option.bind_some, Option.isSome_some, if_true, if_false, Bool.and_eq_true, Bool.not_true, Bool.not_false, Bool.false_eq_true, decide_true, decide_false, decide_eq_true_eq, true_and, and_true, false_and, and_false, List.length_cons, List.length_nil, List.length_map, List.map_cons, List.map_nil, List.all_cons, List.all_nil, does_alloc, objN_ref, ix_last, set_last, set_lastM, isE_app, List.map_append, isNone_oi, eqC_oi, eq_oi, get_l, get_t, at_0, at_1, at_2, at_3, at_4, at_last, unref_ref, eqC_refL, dicOf_ref, seqOf_ref, lstOf_ref, iterOf_ref, getD_ref, putD_ref, fldD_ref, clsOf_ref, tru_ref, k_tupR, k_lstR, k_sumR, k_sumL, okKey_str, keyT_str, dput_def, fk_str, fk_int, mergeD_nil, mergeD_cons, ffind_nil, ffind_cons, fput_nil, fput_cons, ofString_inj, dfind_nil, dfind_cons, eqv_str, str_beq, twos, appD, ownB, String.reduceEq, Nat.reduceAdd, Nat.reduceLT, Nat.reduceLeDiff, Int.reduceLT, Int.reduceLE, Int.reduceNeg, Nat.reduceSub, Nat.zero_add, asgL, asgLs, List.any_cons, List.any_nil, List.cons_append, List.nil_append, List.replicate, List.reduceReplicate, Nat.sub_self, Option.isSome_none, Bool.or_false, Bool.or_true, Bool.false_or, Bool.true_or, beq_self_eq_true, reduceCtorEq, Bool.and_true, Bool.true_and, o3]
      refine out_does h.o3 h.o4 (by decide) (by decide) ?_
      rw [show oi (if (none : Option Int) = none then some (0 + ([9, 9] : List Int).getD (0 : Int).toNat 0) else none) = .int 9 from rfl]
      refine sm_does (Rg.int (by decide)) (by decide) (by decide) ?_
      simp only [does_ok, does_no, does_noX, does_bind, does_some, does_none, does_ofS, does_ofSif, does_oif, does_omap, does_if, nxt_nx, nxt_ret, nxt_brk, nxt_ct, turn_nx, turn_ret, turn_brk, turn_ct, if_no, exS, evE, evEs, evO, evC, evI, asgL, asgLs, asgT, asgTs, setPar, truR, appD, ownB, twos, scr_len, o_addII, o_addIB, o_addTT, o_addLL, o_addSS, o_subII, o_mulII, o_divII, o_modII, o_powII, q_ltII, q_leII, q_gtII, q_geII, q_isN, q_notN, isNone_n, isNone_i, isNone_b, isNone_s, isNone_t, isNone_l, q_isB, q_notB, q_eq, q_ne, eqC_i, eqC_n, eqC_b, eqC_s, eqC_t, eqC_l, unref_i, unref_n, unref_b, unref_s, unref_t, unref_l, eq_II, eq_SS, eq_BB, eq_NN, eq_NI, eq_IN, t_none, t_bool, t_int, k_abs, k_intI, k_intB, k_lenL, k_lenT, k_tupL, k_tupT, k_lstL, k_lstT, k_max2, k_min2, r_2, u_II, u_add, u_sub, l_list, s_list, s_tup, i_list, i_tup, smallI_eq, List.getElem?_cons_zero, List.getElem?_cons_succ, List.set_cons_zero, List.set_cons_succ, Option.map_some, Option.map_none, Option.bind_some, Option.isSome_some, if_true, if_false, Bool.and_eq_true, Bool.not_true, Bool.not_false, Bool.false_eq_true, decide_true, decide_false, decide_eq_true_eq, true_and, and_true, false_and, and_false, List.length_cons, List.length_nil, List.length_map, List.map_cons, List.map_nil, List.all_cons, List.all_nil, does_alloc, objN_ref, ix_last, set_last, set_lastM, isE_app, List.map_append, isNone_oi, eqC_oi, eq_oi, get_l, get_t, at_0, at_1, at_2, at_3, at_4, at_last, unref_ref, eqC_refL, dicOf_ref, seqOf_ref, lstOf_ref, iterOf_ref, getD_ref, putD_ref, fldD_ref, clsOf_ref, tru_ref, k_tupR, k_lstR, k_sumR, k_sumL, okKey_str, keyT_str, dput_def, fk_str, fk_int, mergeD_nil, mergeD_cons, ffind_nil, ffind_cons, fput_nil, fput_cons, ofString_inj, dfind_nil, dfind_cons, eqv_str, str_beq, twos, appD, ownB, String.reduceEq, Nat.reduceAdd, Nat.reduceLT, Nat.reduceLeDiff, Int.reduceLT, Int.reduceLE, Int.reduceNeg, Nat.reduceSub, Nat.zero_add, asgL, asgLs, List.any_cons, List.any_nil, List.cons_append, List.nil_append, List.replicate, List.reduceReplicate, Nat.sub_self, Option.isSome_none, Bool.or_false, Bool.or_true, Bool.false_or, Bool.true_or, beq_self_eq_true, reduceCtorEq, Bool.and_true, Bool.true_and, o3]
      refine Dx.does (move_dx h.o3 h.o4 (by decide) (by decide) (by decide) (fun e => absurd e (by decide)) (fun _ e => absurd rfl e) fun _ _ => ?_)
      rw [show oi (toldM [9, 9] 0 0 4 1) = .int 6 from rfl]
      refine sm_does (Rg.int (by decide)) (by decide) (by decide) ?_
      rw [show tcO 1 4 (nowM [9, 9] 0 0 4) 4 (if outL [9, 9] 0 0 4 then some 0 else none) = tcO 1 4 1 4 none from rfl, show lstO (rowsM [9, 9] 0 0 4 1) = lstO [6, 9] from rfl]
      have g3 : ((S.set 3 (tcO 1 4 1 4 none)).set 4 (lstO [6, 9]))[3]? = some (tcO 1 4 1 4 none) := by simp (disch := first | omega | (simp only [List.length_set, List.length_append, List.length_singleton]; omega) | (simp only [List.length_set, List.length_append, List.length_singleton]; done) | fail) only [List.getElem?_set_ne, List.getElem?_append_left, List.getElem?_set_self, get_new', List.length_set, List.length_append, List.length_singleton, List.set_set, List.set_append_left]
      have g4 : ((S.set 3 (tcO 1 4 1 4 none)).set 4 (lstO [6, 9]))[4]? = some (lstO [6, 9]) := by simp (disch := first | omega | (simp only [List.length_set, List.length_append, List.length_singleton]; omega) | (simp only [List.length_set, List.length_append, List.length_singleton]; done) | fail) only [List.getElem?_set_ne, List.getElem?_append_left, List.getElem?_set_self, get_new', List.length_set, List.length_append, List.length_singleton, List.set_set, List.set_append_left]
      have g3' := g3
      unfold tcO at g3'
      generalize hSS : (S.set 3 (tcO 1 4 1 4 none)).set 4 (lstO [6, 9]) = SS at g3 g4
      have g3' := g3
      unfold tcO at g3'
      simp only [does_ok, does_no, does_noX, does_bind, does_some, does_none, does_ofS, does_ofSif, does_oif, does_omap, does_if, nxt_nx, nxt_ret, nxt_brk, nxt_ct, turn_nx, turn_ret, turn_brk, turn_ct, if_no, exS, evE, evEs, evO, evC, evI, asgL, asgLs, asgT, asgTs, setPar, truR, appD, ownB, twos, scr_len, o_addII, o_addIB, o_addTT, o_addLL, o_addSS, o_subII, o_mulII, o_divII, o_modII, o_powII, q_ltII, q_leII, q_gtII, q_geII, q_isN, q_notN, isNone_n, isNone_i, isNone_b, isNone_s, isNone_t, isNone_l, q_isB, q_notB, q_eq, q_ne, eqC_i, eqC_n, eqC_b, eqC_s, eqC_t, eqC_l, unref_i, unref_n, unref_b, unref_s, unref_t, unref_l, eq_II, eq_SS, eq_BB, eq_NN, eq_NI, eq_IN, t_none, t_bool, t_int, k_abs, k_intI, k_intB, k_lenL, k_lenT, k_tupL, k_tupT, k_lstL, k_lstT, k_max2, k_min2, r_2, u_II, u_add, u_sub, l_list, s_list, s_tup, i_list, i_tup, smallI_eq, List.getElem?_cons_zero, List.getElem?_cons_succ, List.set_cons_zero, List.set_cons_succ, Option.map_some, Option.map_none, Option.bind_some, Option.isSome_some, if_true, if_false, Bool.and_eq_true, Bool.not_true, Bool.not_false, Bool.false_eq_true, decide_true, decide_false, decide_eq_true_eq, true_and, and_true, false_and, and_false, List.length_cons, List.length_nil, List.length_map, List.map_cons, List.map_nil, List.all_cons, List.all_nil, does_alloc, objN_ref, ix_last, set_last, set_lastM, isE_app, List.map_append, isNone_oi, eqC_oi, eq_oi, get_l, get_t, at_0, at_1, at_2, at_3, at_4, at_last, unref_ref, eqC_refL, dicOf_ref, seqOf_ref, lstOf_ref, iterOf_ref, getD_ref, putD_ref, fldD_ref, clsOf_ref, tru_ref, k_tupR, k_lstR, k_sumR, k_sumL, okKey_str, keyT_str, dput_def, fk_str, fk_int, mergeD_nil, mergeD_cons, ffind_nil, ffind_cons, fput_nil, fput_cons, ofString_inj, dfind_nil, dfind_cons, eqv_str, str_beq, twos, appD, ownB, String.reduceEq, Nat.reduceAdd, Nat.reduceLT, Nat.reduceLeDiff, Int.reduceLT, Int.reduceLE, Int.reduceNeg, Nat.reduceSub, Nat.zero_add, asgL, asgLs, List.any_cons, List.any_nil, List.cons_append, List.nil_append, List.replicate, List.reduceReplicate, Nat.sub_self, Option.isSome_none, Bool.or_false, Bool.or_true, Bool.false_or, Bool.true_or, beq_self_eq_true, reduceCtorEq, Bool.and_true, Bool.true_and, g3']
      refine left_does g3 g4 (by decide) (by decide) (by decide) ?_
      refine sm_does (Rg.int (by decide)) (by decide) (by decide) ?_
      simp only [does_ok, does_no, does_noX, does_bind, does_some, does_none, does_ofS, does_ofSif, does_oif, does_omap, does_if, nxt_nx, nxt_ret, nxt_brk, nxt_ct, turn_nx, turn_ret, turn_brk, turn_ct, if_no, exS, evE, evEs, evO, evC, evI, asgL, asgLs, asgT, asgTs, setPar, truR, appD, ownB, twos, scr_len, o_addII, o_addIB, o_addTT, o_addLL, o_addSS, o_subII, o_mulII, o_divII, o_modII, o_powII, q_ltII, q_leII, q_gtII, q_geII, q_isN, q_notN, isNone_n, isNone_i, isNone_b, isNone_s, isNone_t, isNone_l, q_isB, q_notB, q_eq, q_ne, eqC_i, eqC_n, eqC_b, eqC_s, eqC_t, eqC_l, unref_i, unref_n, unref_b, unref_s, unref_t, unref_l, eq_II, eq_SS, eq_BB, eq_NN, eq_NI, eq_IN, t_none, t_bool, t_int, k_abs, k_intI, k_intB, k_lenL, k_lenT, k_tupL, k_tupT, k_lstL, k_lstT, k_max2, k_min2, r_2, u_II, u_add, u_sub, l_list, s_list, s_tup, i_list, i_tup, smallI_eq, List.getElem?_cons_zero, List.getElem?_cons_succ, List.set_cons_zero, List.set_cons_succ, Option.map_some, Option.map_none, Option.bind_some, Option.isSome_some, if_true, if_false, Bool.and_eq_true, Bool.not_true, Bool.not_false, Bool.false_eq_true, decide_true, decide_false, decide_eq_true_eq, true_and, and_true, false_and, and_false, List.length_cons, List.length_nil, List.length_map, List.map_cons, List.map_nil, List.all_cons, List.all_nil, does_alloc, objN_ref, ix_last, set_last, set_lastM, isE_app, List.map_append, isNone_oi, eqC_oi, eq_oi, get_l, get_t, at_0, at_1, at_2, at_3, at_4, at_last, unref_ref, eqC_refL, dicOf_ref, seqOf_ref, lstOf_ref, iterOf_ref, getD_ref, putD_ref, fldD_ref, clsOf_ref, tru_ref, k_tupR, k_lstR, k_sumR, k_sumL, okKey_str, keyT_str, dput_def, fk_str, fk_int, mergeD_nil, mergeD_cons, ffind_nil, ffind_cons, fput_nil, fput_cons, ofString_inj, dfind_nil, dfind_cons, eqv_str, str_beq, twos, appD, ownB, String.reduceEq, Nat.reduceAdd, Nat.reduceLT, Nat.reduceLeDiff, Int.reduceLT, Int.reduceLE, Int.reduceNeg, Nat.reduceSub, Nat.zero_add, asgL, asgLs, List.any_cons, List.any_nil, List.cons_append, List.nil_append, List.replicate, List.reduceReplicate, Nat.sub_self, Option.isSome_none, Bool.or_false, Bool.or_true, Bool.false_or, Bool.true_or, beq_self_eq_true, reduceCtorEq, Bool.and_true, Bool.true_and, g3']
      refine left_does g3 g4 (by decide) (by decide) (by decide) ?_
      refine sm_does (Rg.int (by decide)) (by decide) (by decide) ?_
      (refine hk.ret ?_; clear hk K; try simp only [does_ok])
  obtain ⟨a, S, e, rfl⟩ := main.get
  exact ⟨S, e⟩
end
end PL
set_option autoImplicit false
set_option linter.all false
set_option maxRecDepth 100000
set_option maxHeartbeats 4000000
set_option Elab.async false
namespace PL
open PySem PySem.Spec PyProof.Rows L2
def top (i : Nat) : Stmt := PySem.Challenge.pw_daysworn_k83_clocks_of_players.main.body.getD i (.Pass ⟨0, 0, 0, 0⟩)
def s_TurnClocksu_initu : Stmt := inClass (top 4) 0
def s_TurnClocks_turn : Stmt := inClass (top 4) 1
def s_TurnClocks_lost : Stmt := inClass (top 4) 2
def s_TurnClocks_left : Stmt := inClass (top 4) 3
def s_TurnClocks_move : Stmt := inClass (top 4) 4
def s_TurnClocks_out_at : Stmt := inClass (top 4) 5
def s__law_draws : Stmt := top 6
def s__law_next : Stmt := top 7
def s__law_same : Stmt := top 8
def s__law_told : Stmt := top 9
def s__law_looks_right : Stmt := top 10
def s_law : Stmt := top 11
def sg0 : Sig := ⟨[], [], [], ["NoDay"]⟩
theorem so0 : SigOk tb0 sg0 := ⟨fun _ h => (nomatch h), fun _ _ h => (nomatch h), fun _ h => (nomatch h), fun d h => by
  have h2 : d ∈ (["NoDay"] : List Str) := by simpa [sg0] using h
  simp only [List.mem_cons, List.not_mem_nil, or_false] at h2
  rcases h2 with rfl
  · exact ⟨"NoDay", true, by decide +kernel⟩⟩
def s_XNoDay : Stmt := inClass (top 2) 0
theorem sc_TurnClocksu_initu : FnScope n_TurnClocksu_initu p_TurnClocksu_initu (defScope s_TurnClocksu_initu) := ⟨rfl, rfl, rfl, by decide +kernel, rfl, by decide +kernel, by decide +kernel⟩
theorem ck_TurnClocksu_initu : chkSs 100 sg0 n_TurnClocksu_initu (defScope s_TurnClocksu_initu) (defBody s_TurnClocksu_initu) b_TurnClocksu_initu = true := by decide +kernel
def sg1 : Sig := sg0.n "TurnClocks"
theorem so1 : SigOk tb1 sg1 := so0.n
theorem sc_TurnClocks_turn : FnScope n_TurnClocks_turn p_TurnClocks_turn (defScope s_TurnClocks_turn) := ⟨rfl, rfl, rfl, by decide +kernel, rfl, by decide +kernel, by decide +kernel⟩
theorem ck_TurnClocks_turn : chkSs 100 sg1 n_TurnClocks_turn (defScope s_TurnClocks_turn) (defBody s_TurnClocks_turn) b_TurnClocks_turn = true := by decide +kernel
def sg2 : Sig := sg1.m "TurnClocks" "turn"
theorem so2 : SigOk tb2 sg2 := so1.m
theorem sc_TurnClocks_left : FnScope n_TurnClocks_left p_TurnClocks_left (defScope s_TurnClocks_left) := ⟨rfl, rfl, rfl, by decide +kernel, rfl, by decide +kernel, by decide +kernel⟩
theorem ck_TurnClocks_left : chkSs 100 sg2 n_TurnClocks_left (defScope s_TurnClocks_left) (defBody s_TurnClocks_left) b_TurnClocks_left = true := by decide +kernel
def sg3 : Sig := sg2.m "TurnClocks" "left"
theorem so3 : SigOk tb3 sg3 := so2.m
theorem sc_TurnClocks_move : FnScope n_TurnClocks_move p_TurnClocks_move (defScope s_TurnClocks_move) := ⟨rfl, rfl, rfl, by decide +kernel, rfl, by decide +kernel, by decide +kernel⟩
theorem ck_TurnClocks_move : chkSs 100 sg3 n_TurnClocks_move (defScope s_TurnClocks_move) (defBody s_TurnClocks_move) b_TurnClocks_move = true := by decide +kernel
def sg4 : Sig := sg3.m "TurnClocks" "move"
theorem so4 : SigOk tb4 sg4 := so3.m
theorem sc_TurnClocks_out_at : FnScope n_TurnClocks_out_at p_TurnClocks_out_at (defScope s_TurnClocks_out_at) := ⟨rfl, rfl, rfl, by decide +kernel, rfl, by decide +kernel, by decide +kernel⟩
theorem ck_TurnClocks_out_at : chkSs 100 sg4 n_TurnClocks_out_at (defScope s_TurnClocks_out_at) (defBody s_TurnClocks_out_at) b_TurnClocks_out_at = true := by decide +kernel
def sg5 : Sig := sg4.m "TurnClocks" "out_at"
theorem so5 : SigOk tb5 sg5 := so4.m
theorem sc__law_draws : FnScope n__law_draws p__law_draws (defScope s__law_draws) := ⟨rfl, rfl, rfl, by decide +kernel, rfl, by decide +kernel, by decide +kernel⟩
theorem ck__law_draws : chkSs 100 sg5 n__law_draws (defScope s__law_draws) (defBody s__law_draws) b__law_draws = true := by decide +kernel
def sg6 : Sig := sg5.f "_law_draws"
theorem so6 : SigOk tb6 sg6 := so5.f
theorem sc__law_next : FnScope n__law_next p__law_next (defScope s__law_next) := ⟨rfl, rfl, rfl, by decide +kernel, rfl, by decide +kernel, by decide +kernel⟩
theorem ck__law_next : chkSs 100 sg6 n__law_next (defScope s__law_next) (defBody s__law_next) b__law_next = true := by decide +kernel
def sg7 : Sig := sg6.f "_law_next"
theorem so7 : SigOk tb7 sg7 := so6.f
theorem sc__law_same : FnScope n__law_same p__law_same (defScope s__law_same) := ⟨rfl, rfl, rfl, by decide +kernel, rfl, by decide +kernel, by decide +kernel⟩
theorem ck__law_same : chkSs 100 sg7 n__law_same (defScope s__law_same) (defBody s__law_same) b__law_same = true := by decide +kernel
def sg8 : Sig := sg7.f "_law_same"
theorem so8 : SigOk tb8 sg8 := so7.f
theorem sc__law_told : FnScope n__law_told p__law_told (defScope s__law_told) := ⟨rfl, rfl, rfl, by decide +kernel, rfl, by decide +kernel, by decide +kernel⟩
theorem ck__law_told : chkSs 100 sg8 n__law_told (defScope s__law_told) (defBody s__law_told) b__law_told = true := by decide +kernel
def sg9 : Sig := sg8.f "_law_told"
theorem so9 : SigOk tb9 sg9 := so8.f
theorem sc_TurnClocks_lost : FnScope n_TurnClocks_lost p_TurnClocks_lost (defScope s_TurnClocks_lost) := ⟨rfl, rfl, rfl, by decide +kernel, rfl, by decide +kernel, by decide +kernel⟩
theorem ck_TurnClocks_lost : chkSs 100 sg9 n_TurnClocks_lost (defScope s_TurnClocks_lost) (defBody s_TurnClocks_lost) b_TurnClocks_lost = true := by decide +kernel
def sg10 : Sig := sg9.m "TurnClocks" "lost"
theorem so10 : SigOk tb10 sg10 := so9.m
theorem sc__law_looks_right : FnScope n__law_looks_right p__law_looks_right (defScope s__law_looks_right) := ⟨rfl, rfl, rfl, by decide +kernel, rfl, by decide +kernel, by decide +kernel⟩
theorem ck__law_looks_right : chkSs 100 sg10 n__law_looks_right (defScope s__law_looks_right) (defBody s__law_looks_right) b__law_looks_right = true := by decide +kernel
def sg11 : Sig := sg10.f "_law_looks_right"
theorem so11 : SigOk tb11 sg11 := so10.f
theorem sc_law : FnScope n_law p_law (defScope s_law) := ⟨rfl, rfl, rfl, by decide +kernel, rfl, by decide +kernel, by decide +kernel⟩
theorem ck_law : chkSs 100 sg11 n_law (defScope s_law) (defBody s_law) b_law = true := by decide +kernel
theorem all_mk {l : PySem.W.OpenLaw} {w : World} {K : PySem.W.Frag} {h : Heap} {mg : Str → Option Value} {fa C_TurnClocks f_TurnClocksu_initu f_TurnClocks_turn f_TurnClocks_left f_TurnClocks_move f_TurnClocks_out_at f__law_draws f__law_next f__law_same f__law_told f_TurnClocks_lost f__law_looks_right f_law : Addr} {od_TurnClocksu_initu an_TurnClocksu_initu od_TurnClocks_turn an_TurnClocks_turn od_TurnClocks_left an_TurnClocks_left od_TurnClocks_move an_TurnClocks_move od_TurnClocks_out_at an_TurnClocks_out_at od__law_draws an__law_draws od__law_next an__law_next od__law_same an__law_same od__law_told an__law_told od_TurnClocks_lost an_TurnClocks_lost od__law_looks_right an__law_looks_right od_law an_law : Option Addr} {sl_TurnClocksu_initu sl_TurnClocks_turn sl_TurnClocks_left sl_TurnClocks_move sl_TurnClocks_out_at sl__law_draws sl__law_next sl__law_same sl__law_told sl_TurnClocks_lost sl__law_looks_right sl_law : Array (Option Value)} {oc_TurnClocksu_initu kV_TurnClocksu_initu dc_TurnClocksu_initu pm_TurnClocksu_initu cd_TurnClocksu_initu ct_TurnClocksu_initu oc_TurnClocks_turn kV_TurnClocks_turn dc_TurnClocks_turn pm_TurnClocks_turn cd_TurnClocks_turn ct_TurnClocks_turn oc_TurnClocks_left kV_TurnClocks_left dc_TurnClocks_left pm_TurnClocks_left cd_TurnClocks_left ct_TurnClocks_left oc_TurnClocks_move kV_TurnClocks_move dc_TurnClocks_move pm_TurnClocks_move cd_TurnClocks_move ct_TurnClocks_move oc_TurnClocks_out_at kV_TurnClocks_out_at dc_TurnClocks_out_at pm_TurnClocks_out_at cd_TurnClocks_out_at ct_TurnClocks_out_at oc__law_draws kV__law_draws dc__law_draws pm__law_draws cd__law_draws ct__law_draws oc__law_next kV__law_next dc__law_next pm__law_next cd__law_next ct__law_next oc__law_same kV__law_same dc__law_same pm__law_same cd__law_same ct__law_same oc__law_told kV__law_told dc__law_told pm__law_told cd__law_told ct__law_told oc_TurnClocks_lost kV_TurnClocks_lost dc_TurnClocks_lost pm_TurnClocks_lost cd_TurnClocks_lost ct_TurnClocks_lost oc__law_looks_right kV__law_looks_right dc__law_looks_right pm__law_looks_right cd__law_looks_right ct__law_looks_right oc_law kV_law dc_law pm_law cd_law ct_law : Value} {X_DayError X_NoDay g_NoDay : Addr} {xm_NoDay xq_NoDay : Str} {xN_NoDay : Addr} {xb_NoDay xu_NoDay : List Value} {xn_NoDay : List Str} {xa_NoDay : Bool} {xo_NoDay : Option Bool} {xd_NoDay : Option Addr} {xr_NoDay xs_NoDay xt_NoDay xv_NoDay xw_NoDay : Option Value} {od_XNoDay an_XNoDay : Option Addr} {sl_XNoDay : Array (Option Value)} {oc_XNoDay kV_XNoDay dc_XNoDay pm_XNoDay cd_XNoDay ct_XNoDay : Value} (KX : K.In h) (G : h.Ns mainGlobals mg) (hfa : mg "law" = some (.ref fa))
    (aC_TurnClocks : PySem.W.nsIn K mainGlobals "TurnClocks" = some (some (.ref C_TurnClocks)))
    (xA_DayError : PySem.W.nsIn K mainGlobals "DayError" = some (some (.ref X_DayError)))
    (xA_NoDay : PySem.W.nsIn K mainGlobals "NoDay" = some (some (.ref X_NoDay)))
    (br_DayError : PySem.W.readsIn K X_DayError (.type "type") = true)
    (bg_DayError : PySem.W.specialIn K (.ref X_DayError) "__getattribute__" = some (some (.builtin "type.__getattribute__")))
    (bi_DayError : PySem.W.findCls K (.ref X_DayError) (.type "type") "__init__" = some (.val (.builtin "ValueError.__init__")))
    (xL_NoDay : K.lookup X_NoDay = some (excClassObj xm_NoDay xq_NoDay X_NoDay xN_NoDay xb_NoDay [.ref X_DayError, .type "ValueError", .type "Exception", .type "BaseException", .type "object"] true xn_NoDay xu_NoDay xa_NoDay xo_NoDay xd_NoDay xr_NoDay xs_NoDay xt_NoDay xv_NoDay xw_NoDay "ValueError.__new__"))
    (x1_NoDay : PySem.W.findIn K (.ref X_NoDay) "__setattr__" = some (some (.builtin "object.__setattr__")))
    (x2_NoDay : PySem.W.subIn K (.ref X_NoDay) (.type "BaseException") = some true)
    (x3_NoDay : PySem.W.typeIn K (.ref X_NoDay) = some (.type "type"))
    (x4_NoDay : PySem.W.keepIn K (.ref X_NoDay) = true)
    (x5_NoDay : PySem.W.findIn K (.ref X_NoDay) "__getattribute__" = some (some (.builtin "BaseException.__getattribute__")))
    (x6_NoDay : PySem.W.findIn K (.ref X_NoDay) "__getattr__" = some none)
    (x7_NoDay : PySem.W.hasDictIn K X_NoDay = true)
    (x8_NoDay : PySem.W.findIn K (.ref X_NoDay) "word" = some none)
    (x9_NoDay : PySem.W.findIn K (.ref X_NoDay) "__class__" = some (some (.builtin "object.__class__")))
    (xm0_NoDay : PySem.W.mroIn K X_NoDay (.type "object") = some true)
    (xi_NoDay : PySem.W.findIn K (.ref X_NoDay) "__init__" = some (some (.ref g_NoDay)))
    (xt0_NoDay : PySem.W.typeIn K (.ref g_NoDay) = some (.type "function"))
    (l_XNoDay : K.lookup g_NoDay = some ⟨oc_XNoDay, od_XNoDay, .func (PySem.W.fnOf "__init__" "NoDay.__init__" (defArgs s_XNoDay) (defBody s_XNoDay) (defScope s_XNoDay) .none kV_XNoDay dc_XNoDay pm_XNoDay an_XNoDay cd_XNoDay ct_XNoDay), sl_XNoDay⟩)
    (c_XNoDay : PySem.W.codeIn K cd_XNoDay "NoDay.__init__" = true)
    (e_NoDay_NoDay : PySem.W.subIn K (.ref X_NoDay) (.ref X_NoDay) = some true)
    (e_NoDay_DayError : PySem.W.subIn K (.ref X_NoDay) (.ref X_DayError) = some true)
    (e_NoDay_ValueError : PySem.W.subIn K (.ref X_NoDay) (.type "ValueError") = some true)
    (y1_NoDay : PySem.W.subIn K (.ref X_NoDay) (.type "BaseException") = some true)
    (y2_NoDay : PySem.W.isClsIn K X_NoDay = true)
    (y3_NoDay : PySem.W.typeIn K (.ref X_NoDay) = some (.type "type"))
    (y1_DayError : PySem.W.subIn K (.ref X_DayError) (.type "BaseException") = some true)
    (y2_DayError : PySem.W.isClsIn K X_DayError = true)
    (y3_DayError : PySem.W.typeIn K (.ref X_DayError) = some (.type "type"))
    (zx_ValueError : PySem.W.nsIn K mainGlobals "ValueError" = some none)
    (xg : PySem.W.specialIn K (.builtin "object.__class__") "__get__" = some (some (.builtin "getset_descriptor.__get__")))
    (xk : PySem.W.takesIn K (.builtin "object.__class__") = some true)
    (a_TurnClocksu_initu : PySem.W.findIn K (.ref C_TurnClocks) "__init__" = some (some (.ref f_TurnClocksu_initu)))
    (i_TurnClocksu_initu : PySem.W.isFn K (.ref f_TurnClocksu_initu) = true)
    (l_TurnClocksu_initu : K.lookup f_TurnClocksu_initu = some ⟨oc_TurnClocksu_initu, od_TurnClocksu_initu, .func (PySem.W.fnOf "__init__" "TurnClocks.__init__" (defArgs s_TurnClocksu_initu) (defBody s_TurnClocksu_initu) (defScope s_TurnClocksu_initu) .none kV_TurnClocksu_initu dc_TurnClocksu_initu pm_TurnClocksu_initu an_TurnClocksu_initu cd_TurnClocksu_initu ct_TurnClocksu_initu), sl_TurnClocksu_initu⟩)
    (c_TurnClocksu_initu : PySem.W.codeIn K cd_TurnClocksu_initu "TurnClocks.__init__" = true)
    (k_TurnClocksu_initu : PySem.W.keepIn K (.ref f_TurnClocksu_initu) = true)
    (a_TurnClocks_turn : PySem.W.findIn K (.ref C_TurnClocks) "turn" = some (some (.ref f_TurnClocks_turn)))
    (i_TurnClocks_turn : PySem.W.isFn K (.ref f_TurnClocks_turn) = true)
    (l_TurnClocks_turn : K.lookup f_TurnClocks_turn = some ⟨oc_TurnClocks_turn, od_TurnClocks_turn, .func (PySem.W.fnOf "turn" "TurnClocks.turn" (defArgs s_TurnClocks_turn) (defBody s_TurnClocks_turn) (defScope s_TurnClocks_turn) .none kV_TurnClocks_turn dc_TurnClocks_turn pm_TurnClocks_turn an_TurnClocks_turn cd_TurnClocks_turn ct_TurnClocks_turn), sl_TurnClocks_turn⟩)
    (c_TurnClocks_turn : PySem.W.codeIn K cd_TurnClocks_turn "TurnClocks.turn" = true)
    (k_TurnClocks_turn : PySem.W.keepIn K (.ref f_TurnClocks_turn) = true)
    (a_TurnClocks_left : PySem.W.findIn K (.ref C_TurnClocks) "left" = some (some (.ref f_TurnClocks_left)))
    (i_TurnClocks_left : PySem.W.isFn K (.ref f_TurnClocks_left) = true)
    (l_TurnClocks_left : K.lookup f_TurnClocks_left = some ⟨oc_TurnClocks_left, od_TurnClocks_left, .func (PySem.W.fnOf "left" "TurnClocks.left" (defArgs s_TurnClocks_left) (defBody s_TurnClocks_left) (defScope s_TurnClocks_left) .none kV_TurnClocks_left dc_TurnClocks_left pm_TurnClocks_left an_TurnClocks_left cd_TurnClocks_left ct_TurnClocks_left), sl_TurnClocks_left⟩)
    (c_TurnClocks_left : PySem.W.codeIn K cd_TurnClocks_left "TurnClocks.left" = true)
    (k_TurnClocks_left : PySem.W.keepIn K (.ref f_TurnClocks_left) = true)
    (a_TurnClocks_move : PySem.W.findIn K (.ref C_TurnClocks) "move" = some (some (.ref f_TurnClocks_move)))
    (i_TurnClocks_move : PySem.W.isFn K (.ref f_TurnClocks_move) = true)
    (l_TurnClocks_move : K.lookup f_TurnClocks_move = some ⟨oc_TurnClocks_move, od_TurnClocks_move, .func (PySem.W.fnOf "move" "TurnClocks.move" (defArgs s_TurnClocks_move) (defBody s_TurnClocks_move) (defScope s_TurnClocks_move) .none kV_TurnClocks_move dc_TurnClocks_move pm_TurnClocks_move an_TurnClocks_move cd_TurnClocks_move ct_TurnClocks_move), sl_TurnClocks_move⟩)
    (c_TurnClocks_move : PySem.W.codeIn K cd_TurnClocks_move "TurnClocks.move" = true)
    (k_TurnClocks_move : PySem.W.keepIn K (.ref f_TurnClocks_move) = true)
    (a_TurnClocks_out_at : PySem.W.findIn K (.ref C_TurnClocks) "out_at" = some (some (.ref f_TurnClocks_out_at)))
    (i_TurnClocks_out_at : PySem.W.isFn K (.ref f_TurnClocks_out_at) = true)
    (l_TurnClocks_out_at : K.lookup f_TurnClocks_out_at = some ⟨oc_TurnClocks_out_at, od_TurnClocks_out_at, .func (PySem.W.fnOf "out_at" "TurnClocks.out_at" (defArgs s_TurnClocks_out_at) (defBody s_TurnClocks_out_at) (defScope s_TurnClocks_out_at) .none kV_TurnClocks_out_at dc_TurnClocks_out_at pm_TurnClocks_out_at an_TurnClocks_out_at cd_TurnClocks_out_at ct_TurnClocks_out_at), sl_TurnClocks_out_at⟩)
    (c_TurnClocks_out_at : PySem.W.codeIn K cd_TurnClocks_out_at "TurnClocks.out_at" = true)
    (k_TurnClocks_out_at : PySem.W.keepIn K (.ref f_TurnClocks_out_at) = true)
    (a__law_draws : PySem.W.nsIn K mainGlobals "_law_draws" = some (some (.ref f__law_draws)))
    (l__law_draws : K.lookup f__law_draws = some ⟨oc__law_draws, od__law_draws, .func (PySem.W.fnOf "_law_draws" "_law_draws" (defArgs s__law_draws) (defBody s__law_draws) (defScope s__law_draws) .none kV__law_draws dc__law_draws pm__law_draws an__law_draws cd__law_draws ct__law_draws), sl__law_draws⟩)
    (c__law_draws : PySem.W.codeIn K cd__law_draws "_law_draws" = true)
    (k__law_draws : PySem.W.keepIn K (.ref f__law_draws) = true)
    (a__law_next : PySem.W.nsIn K mainGlobals "_law_next" = some (some (.ref f__law_next)))
    (l__law_next : K.lookup f__law_next = some ⟨oc__law_next, od__law_next, .func (PySem.W.fnOf "_law_next" "_law_next" (defArgs s__law_next) (defBody s__law_next) (defScope s__law_next) .none kV__law_next dc__law_next pm__law_next an__law_next cd__law_next ct__law_next), sl__law_next⟩)
    (c__law_next : PySem.W.codeIn K cd__law_next "_law_next" = true)
    (k__law_next : PySem.W.keepIn K (.ref f__law_next) = true)
    (a__law_same : PySem.W.nsIn K mainGlobals "_law_same" = some (some (.ref f__law_same)))
    (l__law_same : K.lookup f__law_same = some ⟨oc__law_same, od__law_same, .func (PySem.W.fnOf "_law_same" "_law_same" (defArgs s__law_same) (defBody s__law_same) (defScope s__law_same) .none kV__law_same dc__law_same pm__law_same an__law_same cd__law_same ct__law_same), sl__law_same⟩)
    (c__law_same : PySem.W.codeIn K cd__law_same "_law_same" = true)
    (k__law_same : PySem.W.keepIn K (.ref f__law_same) = true)
    (a__law_told : PySem.W.nsIn K mainGlobals "_law_told" = some (some (.ref f__law_told)))
    (l__law_told : K.lookup f__law_told = some ⟨oc__law_told, od__law_told, .func (PySem.W.fnOf "_law_told" "_law_told" (defArgs s__law_told) (defBody s__law_told) (defScope s__law_told) .none kV__law_told dc__law_told pm__law_told an__law_told cd__law_told ct__law_told), sl__law_told⟩)
    (c__law_told : PySem.W.codeIn K cd__law_told "_law_told" = true)
    (k__law_told : PySem.W.keepIn K (.ref f__law_told) = true)
    (a_TurnClocks_lost : PySem.W.findIn K (.ref C_TurnClocks) "lost" = some (some (.ref f_TurnClocks_lost)))
    (i_TurnClocks_lost : PySem.W.isFn K (.ref f_TurnClocks_lost) = true)
    (l_TurnClocks_lost : K.lookup f_TurnClocks_lost = some ⟨oc_TurnClocks_lost, od_TurnClocks_lost, .func (PySem.W.fnOf "lost" "TurnClocks.lost" (defArgs s_TurnClocks_lost) (defBody s_TurnClocks_lost) (defScope s_TurnClocks_lost) .none kV_TurnClocks_lost dc_TurnClocks_lost pm_TurnClocks_lost an_TurnClocks_lost cd_TurnClocks_lost ct_TurnClocks_lost), sl_TurnClocks_lost⟩)
    (c_TurnClocks_lost : PySem.W.codeIn K cd_TurnClocks_lost "TurnClocks.lost" = true)
    (k_TurnClocks_lost : PySem.W.keepIn K (.ref f_TurnClocks_lost) = true)
    (a__law_looks_right : PySem.W.nsIn K mainGlobals "_law_looks_right" = some (some (.ref f__law_looks_right)))
    (l__law_looks_right : K.lookup f__law_looks_right = some ⟨oc__law_looks_right, od__law_looks_right, .func (PySem.W.fnOf "_law_looks_right" "_law_looks_right" (defArgs s__law_looks_right) (defBody s__law_looks_right) (defScope s__law_looks_right) .none kV__law_looks_right dc__law_looks_right pm__law_looks_right an__law_looks_right cd__law_looks_right ct__law_looks_right), sl__law_looks_right⟩)
    (c__law_looks_right : PySem.W.codeIn K cd__law_looks_right "_law_looks_right" = true)
    (k__law_looks_right : PySem.W.keepIn K (.ref f__law_looks_right) = true)
    (a_law : PySem.W.nsIn K mainGlobals "law" = some (some (.ref f_law)))
    (l_law : K.lookup f_law = some ⟨oc_law, od_law, .func (PySem.W.fnOf "law" "law" (defArgs s_law) (defBody s_law) (defScope s_law) .none kV_law dc_law pm_law an_law cd_law ct_law), sl_law⟩)
    (c_law : PySem.W.codeIn K cd_law "law" = true)
    (k_law : PySem.W.keepIn K (.ref f_law) = true)
    (pg_TurnClocks : PySem.W.plainGet K C_TurnClocks Str.empty = true)
    (hd_TurnClocks : PySem.W.hasDictIn K C_TurnClocks = true)
    (po_TurnClocks : PySem.W.plainOver K C_TurnClocks = true)
    (sa_TurnClocks : PySem.W.findIn K (.ref C_TurnClocks) "__setattr__" = some (some (.builtin "object.__setattr__")))
    (mk_TurnClocks : PySem.W.makesIn K C_TurnClocks = true)
    (kc_TurnClocks : PySem.W.keepIn K (.ref C_TurnClocks) = true)
    (n_TurnClocks_more : PySem.W.findIn K (.ref C_TurnClocks) "more" = some none)
    (n_TurnClocks_rest : PySem.W.findIn K (.ref C_TurnClocks) "rest" = some none)
    (n_TurnClocks_now : PySem.W.findIn K (.ref C_TurnClocks) "now" = some none)
    (n_TurnClocks_latest : PySem.W.findIn K (.ref C_TurnClocks) "latest" = some none)
    (n_TurnClocks_loser : PySem.W.findIn K (.ref C_TurnClocks) "loser" = some none)
    (z_len : PySem.W.nsIn K mainGlobals "len" = some none)
    (z_abs : PySem.W.nsIn K mainGlobals "abs" = some none)
    (z_int : PySem.W.nsIn K mainGlobals "int" = some none)
    (z_str : PySem.W.nsIn K mainGlobals "str" = some none)
    (z_sum : PySem.W.nsIn K mainGlobals "sum" = some none)
    (z_max : PySem.W.nsIn K mainGlobals "max" = some none)
    (z_min : PySem.W.nsIn K mainGlobals "min" = some none)
    (z_sorted : PySem.W.nsIn K mainGlobals "sorted" = some none)
    (z_tuple : PySem.W.nsIn K mainGlobals "tuple" = some none)
    (z_list : PySem.W.nsIn K mainGlobals "list" = some none)
    (z_all : PySem.W.nsIn K mainGlobals "all" = some none)
    (z_any : PySem.W.nsIn K mainGlobals "any" = some none)
    (z_repr : PySem.W.nsIn K mainGlobals "repr" = some none)
    (z_isinstance : PySem.W.nsIn K mainGlobals "isinstance" = some none)
    (z_range : PySem.W.nsIn K mainGlobals "range" = some none)
    (z_zip : PySem.W.nsIn K mainGlobals "zip" = some none)
    (z_dict : PySem.W.nsIn K mainGlobals "dict" = some none)
    (z_set : PySem.W.nsIn K mainGlobals "set" = some none)
    (z_bool : PySem.W.nsIn K mainGlobals "bool" = some none) :
    ∃ (Cn : Str → Option Addr) (fd : FuncData) (x : Str), (∀ (s : Shared) (u : Value), BindsTo s fd ⟨[u], []⟩ [(x, u)]) ∧ ∀ base : Heap, K.In base → base.Ns mainGlobals mg → GFn l.prog w K mg base 25 fa fd [x] (spOf K Cn r_law) := by
  have e := hfa.symm.trans (PySem.W.mg_of KX G a_law)
  cases e
  refine ⟨fun c => if c = "TurnClocks" then some C_TurnClocks else if c = "DayError" then some X_DayError else if c = "NoDay" then some X_NoDay else none, PySem.W.fnOf "law" "law" (defArgs s_law) (defBody s_law) (defScope s_law) .none kV_law dc_law pm_law an_law cd_law ct_law, "script", fun s v => .of_eq rfl, fun base KB NB => ?_⟩
  generalize hCn : (fun c : Str => (if c = "TurnClocks" then some C_TurnClocks else if c = "DayError" then some X_DayError else if c = "NoDay" then some X_NoDay else none : Option Addr)) = Cn
  have cn_TurnClocks : Cn "TurnClocks" = some C_TurnClocks := by subst hCn; simp
  have cl_TurnClocks : Cls K C_TurnClocks := ⟨pg_TurnClocks, hd_TurnClocks, po_TurnClocks, sa_TurnClocks⟩
  have hz : ∀ x ∈ Bn, mg x = none := fun x hx => by
    simp only [Bn, List.mem_cons, List.not_mem_nil, or_false] at hx
    rcases hx with rfl | rfl | rfl | rfl | rfl | rfl | rfl | rfl | rfl | rfl | rfl | rfl | rfl | rfl | rfl | rfl | rfl | rfl | rfl
    · exact PySem.W.mg_none_of KX G z_len
    · exact PySem.W.mg_none_of KX G z_abs
    · exact PySem.W.mg_none_of KX G z_int
    · exact PySem.W.mg_none_of KX G z_str
    · exact PySem.W.mg_none_of KX G z_sum
    · exact PySem.W.mg_none_of KX G z_max
    · exact PySem.W.mg_none_of KX G z_min
    · exact PySem.W.mg_none_of KX G z_sorted
    · exact PySem.W.mg_none_of KX G z_tuple
    · exact PySem.W.mg_none_of KX G z_list
    · exact PySem.W.mg_none_of KX G z_all
    · exact PySem.W.mg_none_of KX G z_any
    · exact PySem.W.mg_none_of KX G z_repr
    · exact PySem.W.mg_none_of KX G z_isinstance
    · exact PySem.W.mg_none_of KX G z_range
    · exact PySem.W.mg_none_of KX G z_zip
    · exact PySem.W.mg_none_of KX G z_dict
    · exact PySem.W.mg_none_of KX G z_set
    · exact PySem.W.mg_none_of KX G z_bool
  have cnX_DayError : Cn "DayError" = some X_DayError := by subst hCn; dsimp only; rw [if_neg (by decide +kernel), if_pos rfl]
  have cnX_NoDay : Cn "NoDay" = some X_NoDay := by subst hCn; dsimp only; rw [if_neg (by decide +kernel), if_neg (by decide +kernel), if_pos rfl]
  have xc_NoDay : XCls K X_NoDay "word" := ⟨⟨⟨_, _, _, _, _, _, _, _, _, _, _, _, _, _, _, xL_NoDay, rfl⟩, x1_NoDay, x2_NoDay, x3_NoDay, x4_NoDay⟩, ⟨x5_NoDay, x6_NoDay, x2_NoDay, x7_NoDay⟩, x8_NoDay, x9_NoDay, xg, xk, xm0_NoDay⟩
  have xi0_NoDay := exc_init (P := l.prog) (w := w) (K := K) (mg := mg) (base := base) (t := true) (st := s_XNoDay) ⟨⟨_, _, _, _, _, _, _, _, _, l_XNoDay, c_XNoDay⟩⟩ ⟨rfl, rfl, rfl, by decide +kernel, rfl, by decide +kernel, by decide +kernel⟩ (by decide +kernel) (by decide +kernel) (by decide +kernel) (by decide +kernel) (PySem.W.mg_of KX G xA_DayError) ⟨br_DayError, bg_DayError, bi_DayError⟩ xc_NoDay (fun _ _ _ _ _ _ us hl => match us, hl with | [_, _], _ => rfl)
  obtain ⟨fd_NoDay, ps_NoDay, xf_NoDay, xb0_NoDay⟩ := xi0_NoDay
  have B0 : GB tb0 Cn 1 l.prog w K mg base := GB.a (GB.s (GB.s (GB.s (GB.x ((GB.none_ hz).mono (Nat.zero_le 1)) ⟨X_NoDay, g_NoDay, fd_NoDay, ps_NoDay, cnX_NoDay, PySem.W.mg_of KX G xA_NoDay, xc_NoDay, xi_NoDay, xt0_NoDay, xf_NoDay, xb0_NoDay⟩) ⟨X_NoDay, .ref X_NoDay, .ref X_NoDay, cnX_NoDay, rfl, fun _ h => h, by decide +kernel, .inl (PySem.W.mg_of KX G xA_NoDay), xsub_ref y1_NoDay y2_NoDay y3_NoDay e_NoDay_NoDay⟩) ⟨X_NoDay, .ref X_DayError, .ref X_DayError, cnX_NoDay, rfl, fun _ h => h, by decide +kernel, .inl (PySem.W.mg_of KX G xA_DayError), xsub_ref y1_DayError y2_DayError y3_DayError e_NoDay_DayError⟩) ⟨X_NoDay, .ty "ValueError", .type "ValueError", cnX_NoDay, rfl, fun _ h => h, by decide +kernel, .inr ⟨PySem.W.mg_none_of KX G zx_ValueError, by decide +kernel, by decide⟩, xsub_ty (by decide +kernel) (by decide +kernel) e_NoDay_ValueError⟩) cn_TurnClocks cl_TurnClocks (fun f hf => by
    simp only [List.mem_cons, List.not_mem_nil, or_false] at hf
    rcases hf with rfl | rfl | rfl | rfl | rfl
    · exact n_TurnClocks_more
    · exact n_TurnClocks_rest
    · exact n_TurnClocks_now
    · exact n_TurnClocks_latest
    · exact n_TurnClocks_loser)
  have q0 : At l.prog w K mg base Cn 3 f_TurnClocksu_initu r_TurnClocksu_initu := at_def B0 so0 ⟨⟨_, _, _, _, _, _, _, _, _, l_TurnClocksu_initu, c_TurnClocksu_initu⟩⟩ sc_TurnClocksu_initu ck_TurnClocksu_initu (fun _ _ _ _ _ _ us hl => match us, hl with | [_, _, _, _], _ => rfl)
  have B1 : GB tb1 Cn 3 l.prog w K mg base := (B0.mono (by decide)).n cn_TurnClocks (PySem.W.mg_of KX G aC_TurnClocks) ⟨mk_TurnClocks, a_TurnClocksu_initu, i_TurnClocksu_initu, kc_TurnClocks⟩ q0
  have q1 : At l.prog w K mg base Cn 5 f_TurnClocks_turn r_TurnClocks_turn := at_def B1 so1 ⟨⟨_, _, _, _, _, _, _, _, _, l_TurnClocks_turn, c_TurnClocks_turn⟩⟩ sc_TurnClocks_turn ck_TurnClocks_turn (fun _ _ _ _ _ _ us hl => match us, hl with | [_], _ => rfl)
  have B2 : GB tb2 Cn 5 l.prog w K mg base := (B1.mono (by decide)).m cn_TurnClocks cl_TurnClocks ⟨a_TurnClocks_turn, i_TurnClocks_turn, k_TurnClocks_turn⟩ q1
  have q2 : At l.prog w K mg base Cn 7 f_TurnClocks_left r_TurnClocks_left := at_def B2 so2 ⟨⟨_, _, _, _, _, _, _, _, _, l_TurnClocks_left, c_TurnClocks_left⟩⟩ sc_TurnClocks_left ck_TurnClocks_left (fun _ _ _ _ _ _ us hl => match us, hl with | [_, _, _], _ => rfl)
  have B3 : GB tb3 Cn 7 l.prog w K mg base := (B2.mono (by decide)).m cn_TurnClocks cl_TurnClocks ⟨a_TurnClocks_left, i_TurnClocks_left, k_TurnClocks_left⟩ q2
  have q3 : At l.prog w K mg base Cn 9 f_TurnClocks_move r_TurnClocks_move := at_def B3 so3 ⟨⟨_, _, _, _, _, _, _, _, _, l_TurnClocks_move, c_TurnClocks_move⟩⟩ sc_TurnClocks_move ck_TurnClocks_move (fun _ _ _ _ _ _ us hl => match us, hl with | [_, _], _ => rfl)
  have B4 : GB tb4 Cn 9 l.prog w K mg base := (B3.mono (by decide)).m cn_TurnClocks cl_TurnClocks ⟨a_TurnClocks_move, i_TurnClocks_move, k_TurnClocks_move⟩ q3
  have q4 : At l.prog w K mg base Cn 11 f_TurnClocks_out_at r_TurnClocks_out_at := at_def B4 so4 ⟨⟨_, _, _, _, _, _, _, _, _, l_TurnClocks_out_at, c_TurnClocks_out_at⟩⟩ sc_TurnClocks_out_at ck_TurnClocks_out_at (fun _ _ _ _ _ _ us hl => match us, hl with | [_], _ => rfl)
  have B5 : GB tb5 Cn 11 l.prog w K mg base := (B4.mono (by decide)).m cn_TurnClocks cl_TurnClocks ⟨a_TurnClocks_out_at, i_TurnClocks_out_at, k_TurnClocks_out_at⟩ q4
  have q5 : At l.prog w K mg base Cn 13 f__law_draws r__law_draws := at_def B5 so5 ⟨⟨_, _, _, _, _, _, _, _, _, l__law_draws, c__law_draws⟩⟩ sc__law_draws ck__law_draws (fun _ _ _ _ _ _ us hl => match us, hl with | [_, _], _ => rfl)
  have B6 : GB tb6 Cn 13 l.prog w K mg base := (B5.mono (by decide)).f (PySem.W.mg_of KX G a__law_draws) k__law_draws q5
  have q6 : At l.prog w K mg base Cn 15 f__law_next r__law_next := at_def B6 so6 ⟨⟨_, _, _, _, _, _, _, _, _, l__law_next, c__law_next⟩⟩ sc__law_next ck__law_next (fun _ _ _ _ _ _ us hl => match us, hl with | [_, _], _ => rfl)
  have B7 : GB tb7 Cn 15 l.prog w K mg base := (B6.mono (by decide)).f (PySem.W.mg_of KX G a__law_next) k__law_next q6
  have q7 : At l.prog w K mg base Cn 17 f__law_same r__law_same := at_def B7 so7 ⟨⟨_, _, _, _, _, _, _, _, _, l__law_same, c__law_same⟩⟩ sc__law_same ck__law_same (fun _ _ _ _ _ _ us hl => match us, hl with | [_, _], _ => rfl)
  have B8 : GB tb8 Cn 17 l.prog w K mg base := (B7.mono (by decide)).f (PySem.W.mg_of KX G a__law_same) k__law_same q7
  have q8 : At l.prog w K mg base Cn 19 f__law_told r__law_told := at_def B8 so8 ⟨⟨_, _, _, _, _, _, _, _, _, l__law_told, c__law_told⟩⟩ sc__law_told ck__law_told (fun _ _ _ _ _ _ us hl => match us, hl with | [_, _, _, _], _ => rfl)
  have B9 : GB tb9 Cn 19 l.prog w K mg base := (B8.mono (by decide)).f (PySem.W.mg_of KX G a__law_told) k__law_told q8
  have q9 : At l.prog w K mg base Cn 21 f_TurnClocks_lost r_TurnClocks_lost := at_def B9 so9 ⟨⟨_, _, _, _, _, _, _, _, _, l_TurnClocks_lost, c_TurnClocks_lost⟩⟩ sc_TurnClocks_lost ck_TurnClocks_lost (fun _ _ _ _ _ _ us hl => match us, hl with | [_], _ => rfl)
  have B10 : GB tb10 Cn 21 l.prog w K mg base := (B9.mono (by decide)).m cn_TurnClocks cl_TurnClocks ⟨a_TurnClocks_lost, i_TurnClocks_lost, k_TurnClocks_lost⟩ q9
  have q10 : At l.prog w K mg base Cn 23 f__law_looks_right r__law_looks_right := at_def B10 so10 ⟨⟨_, _, _, _, _, _, _, _, _, l__law_looks_right, c__law_looks_right⟩⟩ sc__law_looks_right ck__law_looks_right (fun _ _ _ _ _ _ us hl => match us, hl with | [_, _, _, _], _ => rfl)
  have B11 : GB tb11 Cn 23 l.prog w K mg base := (B10.mono (by decide)).f (PySem.W.mg_of KX G a__law_looks_right) k__law_looks_right q10
  exact gfn_def B11 so11 l_law c_law sc_law ck_law
end PL
set_option Elab.async false
open PySem PySem.W PyProof.Rows
set_option maxRecDepth 100000 in
set_option maxHeartbeats 0 in
theorem PySem.Challenge.cw_daysworn_k83_clocks_of_players_holds : PySem.Challenge.rw_daysworn_k83_clocks_of_players.Holds := by
  w_on; o_law; k_head; (case hw => w_witness2)
  k_fill
  refine PL.law_walk (l := PySem.Challenge.rw_daysworn_k83_clocks_of_players) (n := 63) (k := 25) (F := PL.r_law) rfl (by decide) rfl ⟨rfl, by decide, by decide⟩ rfl (fun w h Y => PySem.W.kIn_of Y) ?F PL.plain
  case F =>
    intro w mg fa h KX G hmg
    refine' PL.all_mk KX G hmg ?aC_TurnClocks ?xA_DayError ?xA_NoDay ?br_DayError ?bg_DayError ?bi_DayError ?xL_NoDay ?x1_NoDay ?x2_NoDay ?x3_NoDay ?x4_NoDay ?x5_NoDay ?x6_NoDay ?x7_NoDay ?x8_NoDay ?x9_NoDay ?xm0_NoDay ?xi_NoDay ?xt0_NoDay ?l_XNoDay ?c_XNoDay ?e_NoDay_NoDay ?e_NoDay_DayError ?e_NoDay_ValueError ?y1_NoDay ?y2_NoDay ?y3_NoDay ?y1_DayError ?y2_DayError ?y3_DayError ?zx_ValueError ?xg ?xk ?a_TurnClocksu_initu ?i_TurnClocksu_initu ?l_TurnClocksu_initu ?c_TurnClocksu_initu ?k_TurnClocksu_initu ?a_TurnClocks_turn ?i_TurnClocks_turn ?l_TurnClocks_turn ?c_TurnClocks_turn ?k_TurnClocks_turn ?a_TurnClocks_left ?i_TurnClocks_left ?l_TurnClocks_left ?c_TurnClocks_left ?k_TurnClocks_left ?a_TurnClocks_move ?i_TurnClocks_move ?l_TurnClocks_move ?c_TurnClocks_move ?k_TurnClocks_move ?a_TurnClocks_out_at ?i_TurnClocks_out_at ?l_TurnClocks_out_at ?c_TurnClocks_out_at ?k_TurnClocks_out_at ?a__law_draws ?l__law_draws ?c__law_draws ?k__law_draws ?a__law_next ?l__law_next ?c__law_next ?k__law_next ?a__law_same ?l__law_same ?c__law_same ?k__law_same ?a__law_told ?l__law_told ?c__law_told ?k__law_told ?a_TurnClocks_lost ?i_TurnClocks_lost ?l_TurnClocks_lost ?c_TurnClocks_lost ?k_TurnClocks_lost ?a__law_looks_right ?l__law_looks_right ?c__law_looks_right ?k__law_looks_right ?a_law ?l_law ?c_law ?k_law ?pg_TurnClocks ?hd_TurnClocks ?po_TurnClocks ?sa_TurnClocks ?mk_TurnClocks ?kc_TurnClocks ?n_TurnClocks_more ?n_TurnClocks_rest ?n_TurnClocks_now ?n_TurnClocks_latest ?n_TurnClocks_loser ?z_len ?z_abs ?z_int ?z_str ?z_sum ?z_max ?z_min ?z_sorted ?z_tuple ?z_list ?z_all ?z_any ?z_repr ?z_isinstance ?z_range ?z_zip ?z_dict ?z_set ?z_bool
    (case aC_TurnClocks => k_is)
    (case xA_DayError => k_is)
    (case xA_NoDay => k_is)
    (case br_DayError => k_is)
    (case bg_DayError => k_is)
    (case bi_DayError => k_is)
    (case xL_NoDay => k_is)
    (case x1_NoDay => k_is)
    (case x2_NoDay => k_is)
    (case x3_NoDay => k_is)
    (case x4_NoDay => k_is)
    (case x5_NoDay => k_is)
    (case x6_NoDay => k_is)
    (case x7_NoDay => k_is)
    (case x8_NoDay => k_is)
    (case x9_NoDay => k_is)
    (case xm0_NoDay => k_is)
    (case xi_NoDay => k_is)
    (case xt0_NoDay => k_is)
    (case l_XNoDay => k_is)
    (case c_XNoDay => k_is)
    (case e_NoDay_NoDay => k_is)
    (case e_NoDay_DayError => k_is)
    (case e_NoDay_ValueError => k_is)
    (case y1_NoDay => k_is)
    (case y2_NoDay => k_is)
    (case y3_NoDay => k_is)
    (case y1_DayError => k_is)
    (case y2_DayError => k_is)
    (case y3_DayError => k_is)
    (case zx_ValueError => k_is)
    (case xg => k_is)
    (case xk => k_is)
    (case a_TurnClocksu_initu => k_is)
    (case i_TurnClocksu_initu => k_is)
    (case l_TurnClocksu_initu => k_is)
    (case c_TurnClocksu_initu => k_is)
    (case k_TurnClocksu_initu => k_is)
    (case a_TurnClocks_turn => k_is)
    (case i_TurnClocks_turn => k_is)
    (case l_TurnClocks_turn => k_is)
    (case c_TurnClocks_turn => k_is)
    (case k_TurnClocks_turn => k_is)
    (case a_TurnClocks_left => k_is)
    (case i_TurnClocks_left => k_is)
    (case l_TurnClocks_left => k_is)
    (case c_TurnClocks_left => k_is)
    (case k_TurnClocks_left => k_is)
    (case a_TurnClocks_move => k_is)
    (case i_TurnClocks_move => k_is)
    (case l_TurnClocks_move => k_is)
    (case c_TurnClocks_move => k_is)
    (case k_TurnClocks_move => k_is)
    (case a_TurnClocks_out_at => k_is)
    (case i_TurnClocks_out_at => k_is)
    (case l_TurnClocks_out_at => k_is)
    (case c_TurnClocks_out_at => k_is)
    (case k_TurnClocks_out_at => k_is)
    (case a__law_draws => k_is)
    (case l__law_draws => k_is)
    (case c__law_draws => k_is)
    (case k__law_draws => k_is)
    (case a__law_next => k_is)
    (case l__law_next => k_is)
    (case c__law_next => k_is)
    (case k__law_next => k_is)
    (case a__law_same => k_is)
    (case l__law_same => k_is)
    (case c__law_same => k_is)
    (case k__law_same => k_is)
    (case a__law_told => k_is)
    (case l__law_told => k_is)
    (case c__law_told => k_is)
    (case k__law_told => k_is)
    (case a_TurnClocks_lost => k_is)
    (case i_TurnClocks_lost => k_is)
    (case l_TurnClocks_lost => k_is)
    (case c_TurnClocks_lost => k_is)
    (case k_TurnClocks_lost => k_is)
    (case a__law_looks_right => k_is)
    (case l__law_looks_right => k_is)
    (case c__law_looks_right => k_is)
    (case k__law_looks_right => k_is)
    (case a_law => k_is)
    (case l_law => k_is)
    (case c_law => k_is)
    (case k_law => k_is)
    (case pg_TurnClocks => k_is)
    (case hd_TurnClocks => k_is)
    (case po_TurnClocks => k_is)
    (case sa_TurnClocks => k_is)
    (case mk_TurnClocks => k_is)
    (case kc_TurnClocks => k_is)
    (case n_TurnClocks_more => k_is)
    (case n_TurnClocks_rest => k_is)
    (case n_TurnClocks_now => k_is)
    (case n_TurnClocks_latest => k_is)
    (case n_TurnClocks_loser => k_is)
    (case z_len => k_is)
    (case z_abs => k_is)
    (case z_int => k_is)
    (case z_str => k_is)
    (case z_sum => k_is)
    (case z_max => k_is)
    (case z_min => k_is)
    (case z_sorted => k_is)
    (case z_tuple => k_is)
    (case z_list => k_is)
    (case z_all => k_is)
    (case z_any => k_is)
    (case z_repr => k_is)
    (case z_isinstance => k_is)
    (case z_range => k_is)
    (case z_zip => k_is)
    (case z_dict => k_is)
    (case z_set => k_is)
    (case z_bool => k_is)
