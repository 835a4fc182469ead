import PyProof.Rows.All
import Wide.All
import OpenK.AllK
import Wide.FinOn
import HandS.ForMost
import HandS.IsInst
import KE.DataCmp
import KE.SortData
import HandS.Lambda
import HandS.TupAny
import HandS.TupMul
import HandS.Deep
import HandS.Wide
import PyProof.StrOps2
import HandS.More
import HandS.RaiseMore
import HandS.CallSlots
import HandS.Style
import HandS.ExcOwn
import HandS.ExcCtx
import HandS.List
import HandS.SetFor
import PyProof.SeqRoads2
import HandS.Iter
import HandS.Zip
import KE.GoesMore
import PyProof.EnumMake
import PyProof.Draws
import HandS.WordsExc
import KE.KDictKeyed
import KE.KDictLaw
import HandS.HotCalls
import HandS.ExcIs
import HandS.Head0
import HandS.Head1
import HandS.Head2
import HandS.HeadHook1
import HandS.HeadHook2
import HandS.HeadHook3
import HandS.HeadHook4
import HandS.HeadWalk
import HandS.EndTab
import HandS.Text
import PySem.Challenge.RW_lookmakes_k09_looks_quieted
import KE.KStateDown
import Lean
set_option Elab.async false
set_option linter.all false
set_option maxRecDepth 100000
namespace G
open PySem
abbrev D := PyData
inductive Out (α : Type) where
  | ok (a : α)
  | exc (e : Str) (l : Option Int)
  | stuck
namespace Out
@[simp] def bind {α β : Type} : Out α → (α → Out β) → Out β
  | .ok a, f => f a
  | .exc e l, _ => .exc e l
  | .stuck, _ => .stuck
end Out
inductive Cell where
  | val (d : D)
  | own (ds : List D)
abbrev Rho := List (Option Cell)
inductive RV where
  | val (d : D)
  | fresh (ds : List D)
  | own (i : Nat)
inductive Rs where
  | val (d : D)
  | fresh (ds : List D)
def Rs.rv : Rs → RV
  | .val d => .val d
  | .fresh ds => .fresh ds
def Rs.d : Rs → D
  | .val d => d
  | .fresh ds => .list ds
@[simp] theorem Rs.rv_val (d : D) : (Rs.val d).rv = .val d := rfl
@[simp] theorem Rs.rv_fresh (d : List D) : (Rs.fresh d).rv = .fresh d := rfl
abbrev M (α : Type) := Rho → Out (α × Rho)
namespace M
def pure {α : Type} (a : α) : M α := fun ρ => .ok (a, ρ)
def bind {α β : Type} (m : M α) (f : α → M β) : M β := fun ρ => (m ρ).bind fun p => f p.1 p.2
def stuck {α : Type} : M α := fun _ => .stuck
def opt {α : Type} : Option α → M α
  | some a => pure a
  | none => stuck
@[simp] theorem pure_ap {α : Type} (a : α) (ρ : Rho) : (pure a : M α) ρ = .ok (a, ρ) := rfl
@[simp] theorem bind_ap {α β : Type} (m : M α) (f : α → M β) (ρ : Rho) : bind m f ρ = (m ρ).bind fun p => f p.1 p.2 := rfl
@[simp] theorem stuck_ap {α : Type} (ρ : Rho) : (stuck : M α) ρ = .stuck := rfl
@[simp] theorem opt_some {α : Type} (a : α) (ρ : Rho) : (opt (some a) : M α) ρ = .ok (a, ρ) := rfl
@[simp] theorem opt_none {α : Type} (ρ : Rho) : (opt (none : Option α)) ρ = .stuck := rfl
end M
def fnD (x : Str) : D := .dict [(.str x, .none)]
def scrD (ns : List Int) : D := .dict [(.none, .list (ns.map .int))]
def truth : D → Option Bool
  | .none => some false
  | .bool b => some b
  | .int i => some (i != 0)
  | .str s => if s.length ≤ sizeLine then some (s.length != 0) else none
  | .list xs => some (!xs.isEmpty)
  | .tuple xs => some (!xs.isEmpty)
  | .dict _ => none
def plen : D → Option D
  | .str s => if s.length ≤ sizeLine then some (.int s.length) else none
  | .list xs => some (.int xs.length)
  | .tuple xs => some (.int xs.length)
  | .dict [(.none, .list xs)] => some (.int xs.length)
  | _ => none
inductive Bop where
  | add | sub | mul | fdiv | mod | pow
  deriving DecidableEq
def szB (i : Int) : Nat := i.natAbs.log2 + 1
def lines (n : Nat) : Bool := decide (n ≤ sizeLine)
def rep {α : Type} (xs : List α) (k : Int) : List α := (List.replicate k.toNat xs).flatten
def badd : D → D → Option Rs
  | .int i, .int j => some (.val (.int (i + j)))
  | .str i, .str j => if i.length + j.length ≤ sizeLine then some (.val (.str (i ++ j))) else none
  | .tuple xs, .tuple ys => if xs.length + ys.length ≤ sizeLine then some (.val (.tuple (xs ++ ys))) else none
  | .list xs, .list ys => if xs.length + ys.length ≤ sizeLine then some (.fresh (xs ++ ys)) else none
  | _, _ => none
def bsub : D → D → Option Rs
  | .int i, .int j => some (.val (.int (i - j)))
  | _, _ => none
def bmul : D → D → Option Rs
  | .int i, .int j => if i.natAbs.log2 + j.natAbs.log2 < 1000000 then some (.val (.int (i * j))) else none
  | .str x, .int k => if 0 ≤ k ∧ k ≤ 1000 ∧ x.length ≤ 1000 then some (.val (.str ⟨(rep x.cps.toList k).toArray⟩)) else none
  | .tuple xs, .int k => if xs ≠ [] ∧ 1 ≤ k ∧ k ≤ 1000 ∧ xs.length ≤ 1000 then some (.val (.tuple (rep xs k))) else none
  | _, _ => none
def bfdiv : D → D → Option Rs
  | .int i, .int j => if 0 < j ∧ j.natAbs.log2 < 9000 then some (.val (.int (i / j))) else none
  | _, _ => none
def bmod : D → D → Option Rs
  | .int i, .int j => if 0 < j then some (.val (.int (i % j))) else none
  | _, _ => none
def bpow : D → D → Option Rs
  | .int i, .int j => if 0 ≤ j ∧ j ≤ 1000 ∧ i.natAbs < 2 ^ 64 then some (.val (.int (i ^ j.toNat))) else none
  | _, _ => none
def bin : Bop → D → D → Option Rs
  | .add => badd
  | .sub => bsub
  | .mul => bmul
  | .fdiv => bfdiv
  | .mod => bmod
  | .pow => bpow
inductive Cop where
  | eq | ne | lt | le | gt | ge | isN | notN | in_ | notIn
  deriving DecidableEq
def isFlat : D → Bool
  | .none | .bool _ | .int _ | .str _ => true
  | _ => false
def notNone : D → Bool
  | .none => false
  | _ => true
def cmpOk (x y : D) : Bool := notNone x && PySem.W.alike x y && SeqAt.shaped x && SeqAt.shaped y
def inStr (x y : Str) : Bool := !(Builtin.Str.occurrences y x 0 y.length 1).isEmpty
def inSeq (x : D) (xs : List D) : Bool := xs.any fun y => PyData.eqv y x
def dctD (kvs : List (Str × Str)) : D := .dict (kvs.map fun p => (.str p.1, .str p.2))
def dfind : List (D × D) → Str → Option (Option D)
  | [], _ => some none
  | (.str k, .str v) :: r, x => (dfind r x).map fun o => if k = x then some (.str v) else o
  | _, _ => none
def pin : D → D → Option Bool
  | .str x, .str y => some (inStr x y)
  | .str x, .dict kvs => (dfind kvs x).map (·.isSome)
  | x, .tuple xs => if SeqAt.shaped x && SeqAt.shaped (.tuple xs) then some (inSeq x xs) else none
  | x, .list xs => if SeqAt.shaped x && SeqAt.shaped (.list xs) then some (inSeq x xs) else none
  | _, _ => none
def peq (x y : D) : Option Bool := if SeqAt.shaped x && SeqAt.shaped y then some (PyData.eqv x y) else none
def isNone : D → Bool
  | .none => true
  | _ => false
def pisN (x : D) : D → Option Bool
  | .none => some (isNone x)
  | _ => none
def cmp : Cop → D → D → Option Bool
  | .eq => peq
  | .ne => fun x y => (peq x y).map (!·)
  | .lt => fun x y => if cmpOk x y then some (PySem.W.dataLt x y) else none
  | .le => fun x y => if cmpOk x y then some (!PySem.W.dataLt y x) else none
  | .gt => fun x y => if cmpOk x y then some (PySem.W.dataLt y x) else none
  | .ge => fun x y => if cmpOk x y then some (!PySem.W.dataLt x y) else none
  | .in_ => pin
  | .notIn => fun x y => (pin x y).map (!·)
  | .isN => pisN
  | .notN => fun x y => (pisN x y).map (!·)
def intsD : List D → Option (List Int)
  | [] => some []
  | .int b :: r => (intsD r).map (b :: ·)
  | _ :: _ => none
def pix : D → D → Option D
  | .tuple xs, .int i => L2.atI xs i
  | .list xs, .int i => L2.atI xs i
  | .dict [(.none, .list xs)], .int i => L2.atI xs i
  | .str s, .int i => if s.length ≤ sizeLine then (L2.atI s.cps.toList i).map fun c => .str ⟨#[c]⟩ else none
  | .dict kvs, .str x => (dfind kvs x).bind id
  | _, _ => none
def pkeys : List D → Option (List (List Int × D))
  | [] => some []
  | .tuple [.tuple ks, d] :: r => (intsD ks).bind fun k => (pkeys r).map ((k, d) :: ·)
  | _ => none
def lastAt (k : List Int) : List (List Int × D) → Option D
  | [] => none
  | p :: r => match lastAt k r with
    | some d => some d
    | none => if p.1 = k then some p.2 else none
def dgetD : D → D → Option D
  | .list ps, .tuple ks => if ps.length ≤ sizeLine then (pkeys ps).bind fun xs => (intsD ks).bind fun k => lastAt k xs else none
  | _, _ => none
def cut {α : Type} (xs : List α) (lo hi : Option Int) : List α := (xs.drop (HT.sIx xs.length 0 lo)).take (HT.sIx xs.length xs.length hi - HT.sIx xs.length 0 lo)
def psl : D → Option Int → Option Int → Option Rs
  | .tuple xs, lo, hi => some (.val (.tuple (cut xs lo hi)))
  | .list xs, lo, hi => some (.fresh (cut xs lo hi))
  | .str s, lo, hi => if s.length ≤ sizeLine then some (.val (.str ⟨(cut s.cps.toList lo hi).toArray⟩)) else none
  | _, _, _ => none
def prev : D → Option Rs
  | .list xs => some (.fresh xs.reverse)
  | _ => none
def isInst (x : D) (t : String) : Option Bool :=
  match x with
  | .none => some false
  | .bool _ => some (t == "bool" || t == "int")
  | .int _ => some (t == "int")
  | .str _ => some (t == "str")
  | .list _ => some (t == "list")
  | .tuple _ => some (t == "tuple")
  | .dict _ => none
inductive Bi where
  | len | abs | int | str | min | max | list | tuple | sorted | all | any | lenset | sortedset | range | dictget
  deriving DecidableEq
inductive Mt where
  | join | split | startswith | upper | count | index
  deriving DecidableEq
inductive Lm where
  | append | extend | pop | popAt | insert
  deriving DecidableEq
inductive Tg where
  | one (i : Nat)
  | tup (is : List Nat)
mutual
inductive ME where
  | slot (i : Nat)
  | cst (d : D)
  | glob (x : Str)
  | fnv (x : Str)
  | bin (op : Bop) (a b : ME)
  | neg (a : ME)
  | cmp (op : Cop) (a b : ME)
  | chain (o p : Cop) (a b c : ME)
  | bool (conj : Bool) (a b : ME)
  | not (a : ME)
  | ite (c a b : ME)
  | tup (es : MEs)
  | lst (es : MEs)
  | ix (a b : ME)
  | sl (a : ME) (lo hi : MO)
  | rev (a : ME)
  | call (f : Str) (es : MEs)
  | blt (b : Bi) (es : MEs)
  | isi (a : ME) (t : String)
  | isi2 (a : ME) (t u : String)
  | meth (m : Mt) (o : ME) (es : MEs)
  | lmeth (m : Lm) (i : Nat) (es : MEs)
  | lc (own : List Nat) (tg : Tg) (it : MI) (cond : MO) (el : ME)
  | lc2 (own own1 : List Nat) (t0 : Tg) (it : MI) (t1 : Tg) (it1 : MI) (el : ME)
  | told (f : ME)
  | dct (kvs : List (Str × Str))
  | dget (a : ME) (i : Nat)
  | callL (f : Str) (a b : Nat) (ds : List D) (z : D)
  | gin (a : ME) (x : Str)
  | gix (x : Str) (a : ME)
inductive MEs where
  | nil
  | cons (e : ME) (es : MEs)
inductive MO where
  | none
  | some (e : ME)
inductive MI where
  | ex (a : ME)
  | range (es : MEs)
  | enum (es : MEs)
  | zip (es : MEs)
end
mutual
inductive MS where
  | asg (i : Nat) (hold : Bool) (e : ME)
  | asgT (is : List Nat) (e : ME)
  | par (is : List Nat) (es : MEs)
  | setIx (i : Nat) (k e : ME)
  | setSl (i : Nat) (lo hi e : ME)
  | ex (e : ME)
  | ret (e : ME)
  | retN
  | ite (c : ME) (a b : MSs)
  | for (clear : List Nat) (tg : Tg) (it : MI) (body : MSs)
  | whl (c : ME) (body : MSs)
  | raise (x : Str)
  | pass
  | brk
  | cont
inductive MSs where
  | nil
  | cons (s : MS) (r : MSs)
end
structure MF where
  np : Nat
  nn : Nat
  body : MSs
abbrev FM := List Cell → Out (Rs × List (List D))
structure Cfg where
  Φ : Str → FM
  Γ : Str → Option D
  ios : List Nat
  exc : Str → Bool
  Φ2 : Option (Str → FM)
namespace M
def get (i : Nat) : M RV := fun ρ => match ρ[i]? with
  | some (some (.val d)) => .ok (.val d, ρ)
  | some (some (.own _)) => .ok (.own i, ρ)
  | _ => .stuck
def settle : RV → RV
  | .fresh ds => .val (.list ds)
  | r => r
def look (ρ : Rho) : RV → Option D
  | .val d => some d
  | .fresh ds => some (.list ds)
  | .own i => match ρ[i]? with
    | some (some (.own ds)) => some (.list ds)
    | some (some (.val d)) => some d
    | _ => none
def use (r : RV) : M D := fun ρ => match look ρ r with
  | some d => .ok (d, ρ)
  | none => .stuck
def keep (ios : List Nat) : RV → M D
  | .val d => pure d
  | .fresh ds => pure (.list ds)
  | .own i => fun ρ => match ρ[i]? with
    | some (some (.own ds)) => if i ∈ ios then .stuck else .ok (.list ds, ρ.set i (some (.val (.list ds))))
    | some (some (.val d)) => .ok (d, ρ)
    | _ => .stuck
end M
def boolsD : List D → Option (List Bool)
  | [] => some []
  | .bool b :: r => (boolsD r).map (b :: ·)
  | _ :: _ => none
def strsD : List D → Option (List Str)
  | [] => some []
  | .str b :: r => (strsD r).map (b :: ·)
  | _ :: _ => none
def items : D → Option (List D)
  | .list xs => some xs
  | .tuple xs => some xs
  | _ => none
def isTupC : D → Bool
  | .tuple (_ :: _) => true
  | _ => false
def sortOk (xs : List D) : Bool :=
  (xs.all fun x => xs.all fun y => PySem.W.alike x y) && (xs.all SeqAt.shaped) && lines xs.length &&
    ((xs.all isTupC) || (xs.all fun x => match x with | .none => false | .tuple _ => false | _ => true))
def sortD (xs : List D) : List D := xs.mergeSort (PySem.W.dataLe false (fun x : D => x))
def dedup {α : Type} [DecidableEq α] : List α → List α
  | [] => []
  | x :: r => x :: (dedup r).filter (fun y => decide (y ≠ x))
def bLen : List D → Option Rs
  | [x] => (plen x).map .val
  | _ => none
def bAbs : List D → Option Rs
  | [.int i] => some (.val (.int (if i < 0 then -i else i)))
  | _ => none
def bInt : List D → Option Rs
  | [.int i] => some (.val (.int i))
  | [.bool b] => some (.val (.int (if b then 1 else 0)))
  | [.str s] => if s.length ≤ 640 then (PySem.intText? s).map fun n => .val (.int n) else none
  | _ => none
def bStr : List D → Option Rs
  | [.int i] => if i.natAbs.log2 < 1920 then some (.val (.str (toString i))) else none
  | [.str s] => some (.val (.str s))
  | _ => none
def bMin : List D → Option Rs
  | [.int i, .int j] => some (.val (.int (if j < i then j else i)))
  | _ => none
def bMax : List D → Option Rs
  | [.int i, .int j] => some (.val (.int (if j > i then j else i)))
  | _ => none
def bList : List D → Option Rs
  | [.list xs] => some (.fresh xs)
  | [.tuple xs] => some (.fresh xs)
  | _ => none
def bTuple : List D → Option Rs
  | [.list xs] => some (.val (.tuple xs))
  | [.tuple xs] => some (.val (.tuple xs))
  | _ => none
def bSorted : List D → Option Rs
  | [.list xs] => if sortOk xs then some (.fresh (sortD xs)) else none
  | _ => none
def bAll : List D → Option Rs
  | [.list xs] => (boolsD xs).map fun bs => .val (.bool (bs.all id))
  | _ => none
def bAny : List D → Option Rs
  | [.list xs] => (boolsD xs).map fun bs => .val (.bool (bs.any id))
  | _ => none
def bMax3 : List D → Option Rs
  | [.int i, .int j] => some (.val (.int (if j > i then j else i)))
  | [.int i, .int j, .int k] => some (.val (.int (if k > (if j > i then j else i) then k else (if j > i then j else i))))
  | [.list xs] => match intsD xs with
    | some (n :: ns) => some (.val (.int (ns.foldl (fun a b => if b > a then b else a) n)))
    | _ => none
  | _ => none
def bLenset : List D → Option Rs
  | [x] => (items x).bind fun xs => (intsD xs).map fun ns => .val (.int (dedup ns).length)
  | _ => none
def bSortedset : List D → Option Rs
  | _ => none
def bRange : List D → Option Rs
  | [.int n] => if 0 ≤ n ∧ n ≤ 1000000 then some (.fresh ((List.range n.toNat).map fun (k : Nat) => .int (k : Int))) else none
  | _ => none
def bDictget : List D → Option Rs
  | _ => none
def blt : Bi → List D → Option Rs
  | .len => bLen
  | .abs => bAbs
  | .int => bInt
  | .str => bStr
  | .min => bMin
  | .max => bMax
  | .list => bList
  | .tuple => bTuple
  | .sorted => bSorted
  | .all => bAll
  | .any => bAny
  | .lenset => bLenset
  | .sortedset => bSortedset
  | .range => bRange
  | .dictget => bDictget
def mJoin : D → List D → Option Rs
  | .str s, [.list xs] => (strsD xs).bind fun ys => if (ys.map (·.length)).sum + ys.length * s.length ≤ 16777216 then some (.val (.str (Txt.join s ys))) else none
  | .str s, [.tuple xs] => (strsD xs).bind fun ys => if (ys.map (·.length)).sum + ys.length * s.length ≤ 16777216 then some (.val (.str (Txt.join s ys))) else none
  | _, _ => none
def mSplit : D → List D → Option Rs
  | .str s, [.str t] => if (t.length == 0) = false ∧ s.length + 2 ≤ sizeLine then some (.fresh ((Txt.split s t).map .str)) else none
  | _, _ => none
def mStartswith : D → List D → Option Rs
  | .str s, [.str t] => some (.val (.bool (Txt.startswith s t)))
  | _, _ => none
def mUpper : D → List D → Option Rs
  | .str s, [] => if s.length ≤ 5592405 then some (.val (.str (Txt.upper s))) else none
  | _, _ => none
def mCount : D → List D → Option Rs
  | .list xs, [.str y] => (strsD xs).map fun zs => .val (.int ((zs.countP fun z => decide (z = y) : Nat) : Int))
  | _, _ => none
def mIndex : D → List D → Option Rs
  | .list xs, [.str y] => (strsD xs).bind fun zs => (zs.findIdx? fun z => decide (z = y)).map fun (j : Nat) => .val (.int (j : Int))
  | _, _ => none
def meth : Mt → D → List D → Option Rs
  | .join => mJoin
  | .split => mSplit
  | .startswith => mStartswith
  | .upper => mUpper
  | .count => mCount
  | .index => mIndex
def mtOk : Mt → D → Bool
  | .join, .str _ | .split, .str _ | .startswith, .str _ | .upper, .str _ => true
  | .count, .list _ | .index, .list _ => true
  | _, _ => false
def lAppend (xs : List D) : List D → Option (D × List D)
  | [y] => if xs.length < sizeLine then some (.none, xs ++ [y]) else none
  | _ => none
def lExtend (xs : List D) : List D → Option (D × List D)
  | [.list ys] => if xs.length + ys.length ≤ sizeLine then some (.none, xs ++ ys) else none
  | _ => none
def lPop (xs : List D) : List D → Option (D × List D)
  | [] => (xs[xs.length - 1]?).map fun y => (y, xs.dropLast)
  | _ => none
def lPopAt (xs : List D) : List D → Option (D × List D)
  | [.int i] => if 0 ≤ i ∧ i < xs.length then (xs[i.toNat]?).map fun y => (y, xs.eraseIdx i.toNat) else none
  | _ => none
def lInsert (xs : List D) : List D → Option (D × List D)
  | [.int i, y] => if 0 ≤ i ∧ i < 2 ^ 62 ∧ xs.length < sizeLine then some (.none, xs.take i.toNat ++ [y] ++ xs.drop i.toNat) else none
  | _ => none
def lmeth : Lm → List D → List D → Option (D × List D)
  | .append => lAppend
  | .extend => lExtend
  | .pop => lPop
  | .popAt => lPopAt
  | .insert => lInsert
namespace M
def setSlot (i : Nat) (c : Option Cell) : M Unit := fun ρ => .ok ((), ρ.set i c)
def wipe (is : List Nat) (ρ : Rho) : Rho := is.foldl (fun r i => r.set i none) ρ
def restore (is : List Nat) (ρ₀ ρ : Rho) : Rho := is.foldl (fun r i => r.set i (match ρ₀[i]? with | some (some (.val d)) => some (.val d) | _ => none)) ρ
def setAll : List Nat → List D → Rho → Rho
  | i :: is, d :: ds, ρ => setAll is ds (ρ.set i (some (.val d)))
  | _, _, ρ => ρ
def target : Tg → D → M Unit
  | .one i, d => fun ρ => .ok ((), ρ.set i (some (.val d)))
  | .tup is, .tuple ds => fun ρ => if is.length = ds.length then .ok ((), setAll is ds ρ) else .stuck
  | .tup _, _ => stuck
abbrev Src := List D × Option Nat
def still (src : Src) (all : List D) (ρ : Rho) : Bool := match src.2 with
  | none => true
  | some i => match ρ[i]? with
    | some (some (.own ds)) => decide (ds.length = all.length)
    | _ => false
end M
def walkOf : D → Option (List D)
  | .list xs => some xs
  | .tuple xs => some xs
  | .str s => some (s.cps.toList.map fun c => .str ⟨#[c]⟩)
  | _ => none
def pairs (k : Nat) : List D → List D
  | [] => []
  | x :: r => .tuple [.int k, x] :: pairs (k + 1) r
def rangeI : List D → Option (List D)
  | [.int n] => if -(2 ^ 62) ≤ n ∧ n < 2 ^ 62 then some ((List.range n.toNat).map fun (k : Nat) => .int (k : Int)) else none
  | _ => none
def enumI : List D → Option (List D)
  | [d] => (items d).map (pairs 0)
  | _ => none
def zipI : List D → Option (List D)
  | [.list xs, .list ys] => some (List.zipWith (fun p q => .tuple [p, q]) xs ys)
  | [.tuple xs, .tuple ys] => some (List.zipWith (fun p q => .tuple [p, q]) xs ys)
  | _ => none
def lcGo (own : List Nat) (tg : Tg) (cond : M Bool) (el : M D) : List D → M (List D)
  | [] => M.pure []
  | x :: r => fun ρ => (M.target tg x (M.wipe own ρ)).bind fun p => (cond p.2).bind fun q =>
      match q.1 with
      | true => (el q.2).bind fun y => (lcGo own tg cond el r y.2).bind fun z => .ok (y.1 :: z.1, z.2)
      | false => lcGo own tg cond el r q.2
def lc2Go (own own1 : List Nat) (t0 : Tg) (inner : M (List D)) (el : M (List D)) : List D → M (List D)
  | [] => M.pure []
  | x :: r => fun ρ => (M.target t0 x (M.wipe own ρ)).bind fun p => (el p.2).bind fun y => (lc2Go own own1 t0 inner el r y.2).bind fun z => .ok (y.1 ++ z.1, z.2)
def lcEnd (own : List Nat) (ρ : Rho) : Out (List D × Rho) → Out (RV × Rho)
  | .ok p => .ok (.fresh p.1, M.restore own ρ p.2)
  | _ => .stuck
inductive Arg where
  | val (d : D)
  | lent (i : Nat) (ds : List D)
  | temp (ds : List D)
def Arg.cell : Arg → Cell
  | .val d => .val d
  | .lent _ ds => .own ds
  | .temp ds => .own ds
def back : List Arg → List (List D) → Rho → Option Rho
  | [], [], ρ => some ρ
  | .val _ :: r, os, ρ => back r os ρ
  | .lent i _ :: r, o :: os, ρ => back r os (ρ.set i (some (.own o)))
  | .temp _ :: r, _ :: os, ρ => back r os ρ
  | _, _, _ => none
def argOf (ρ : Rho) : RV → Option Arg
  | .val d => some (.val d)
  | .fresh ds => some (.val (.list ds))
  | .own i => match ρ[i]? with
    | some (some (.own ds)) => some (.lent i ds)
    | some (some (.val d)) => some (.val d)
    | _ => none
def argsOf (ρ : Rho) : List RV → Option (List Arg)
  | [] => some []
  | r :: rs => (argOf ρ r).bind fun a => (argsOf ρ rs).map (a :: ·)
def apart : List Arg → Bool
  | [] => true
  | .lent i _ :: r => (r.all fun | .lent j _ => j != i | _ => true) && apart r
  | _ :: r => apart r
def callF (m : FM) (rs : List RV) : M RV := fun ρ => match argsOf ρ rs with
  | none => .stuck
  | some as => if apart as then (m (as.map Arg.cell)).bind fun p => match back as p.2 ρ with
      | some ρ' => .ok (p.1.rv, ρ')
      | none => .stuck
    else .stuck
def callAs (m : FM) (as : List Arg) : M RV := fun ρ => if apart as then (m (as.map Arg.cell)).bind fun p => match back as p.2 ρ with
      | some ρ' => .ok (p.1.rv, ρ')
      | none => .stuck
    else .stuck
def callLF (m : FM) (a b : Nat) (ds : List D) (z : D) : M RV := fun ρ => match argOf ρ (.own a), argOf ρ (.own b) with
  | some x, some y => if lines ds.length then callAs m [x, y, .temp ds, .val z] ρ else .stuck
  | _, _ => .stuck
def lookAll (ρ : Rho) : List RV → Option (List D)
  | [] => some []
  | r :: rs => (M.look ρ r).bind fun d => (lookAll ρ rs).map (d :: ·)
def useAll (rs : List RV) : M (List D) := fun ρ => match lookAll ρ rs with
  | some ds => .ok (ds, ρ)
  | none => .stuck
def keepAll (ios : List Nat) : List RV → M (List D)
  | [] => M.pure []
  | r :: rs => M.bind (M.keep ios r) fun d => M.bind (keepAll ios rs) fun ds => M.pure (d :: ds)
def asBool (d : D) : M Bool := match d with
  | .bool b => M.pure b
  | _ => M.stuck
def asInt (d : D) : M Int := match d with
  | .int b => M.pure b
  | _ => M.stuck
def rsRV (o : Option Rs) : M RV := M.opt (o.map Rs.rv)
def isOwn (i : Nat) : M Unit := fun ρ => match ρ[i]? with
  | some (some (.own _)) => .ok ((), ρ)
  | _ => .stuck
def lmGo (m : Lm) (i : Nat) (ds : List D) : M RV := fun ρ => match ρ[i]? with
  | some (some (.own xs)) => match lmeth m xs ds with
    | some (y, ys) => .ok (.val y, ρ.set i (some (.own ys)))
    | none => .stuck
  | _ => .stuck
def tr (f : M RV) : M Bool := M.bind f fun r => M.bind (M.use r) fun x => M.opt (truth x)
def pl (f : M RV) : M RV × M Bool := (f, tr f)
def op2 {α : Type} (fa fb : M RV) (g : D → D → M α) : M α := M.bind fa fun ra => M.bind fb fun rb => M.bind (M.use (M.settle ra)) fun x => M.bind (M.use rb) fun y => g x y
def bV (r : Bool) : M RV := M.pure (.val (.bool r))
def chn {α : Type} (o p : Cop) (fa fb fc : M RV) (kf : M α) (kt : Bool → M α) : M α := M.bind fa fun ra => M.bind fb fun rb => M.bind (M.use (M.settle ra)) fun x => M.bind (M.use (M.settle rb)) fun y => M.bind (M.opt (cmp o x y)) fun
      | false => kf
      | true => M.bind fc fun rc => M.bind (M.use (M.settle rb)) fun y => M.bind (M.use rc) fun z => M.bind (M.opt (cmp p y z)) kt
def toldV (exc : Str → Bool) (ρ : Rho) : Out (RV × Rho) → Out (RV × Rho)
  | .ok (.val d, _) => .ok (.val (.tuple [.str "told", d]), ρ)
  | .ok (.fresh ds, _) => .ok (.val (.tuple [.str "told", .list ds]), ρ)
  | .ok (.own _, _) => .stuck
  | .exc e none => if exc e = true then .ok (.val (.tuple [.str (e ++ " +")]), ρ) else .stuck
  | .exc _ (some _) => .stuck
  | .stuck => .stuck
def gval : Option D → Option D
  | some (.dict _) => none
  | o => o
def gdct : Option D → Option (List (D × D))
  | some (.dict kvs) => some kvs
  | _ => none
def ginV (kvs : List (D × D)) : D → Option Bool
  | .str z => (dfind kvs z).map (·.isSome)
  | _ => none
def gixV (kvs : List (D × D)) : D → Option D
  | .str z => (dfind kvs z).bind id
  | _ => none
def hide (ρ : Rho) : Rho := ρ.map fun
  | some (.val d) => some (.val d)
  | _ => none
mutual
def dP : ME → Cfg → M RV × M Bool
  | .slot i, C => pl (M.get i)
  | .cst d, C => pl (M.pure (.val d))
  | .glob x, C => pl (M.bind (M.opt (gval (C.Γ x))) fun d => M.pure (.val d))
  | .gin a x, C => (M.bind (M.opt (gdct (C.Γ x))) fun kvs => M.bind (dP a C).1 fun ra => M.bind (M.use ra) fun d => M.bind (M.opt (ginV kvs d)) bV, M.bind (M.opt (gdct (C.Γ x))) fun kvs => M.bind (dP a C).1 fun ra => M.bind (M.use ra) fun d => M.opt (ginV kvs d))
  | .gix x a, C => pl (M.bind (M.opt (gdct (C.Γ x))) fun kvs => M.bind (dP a C).1 fun ra => M.bind (M.use ra) fun d => M.bind (M.opt (gixV kvs d)) fun r => M.pure (.val r))
  | .fnv x, C => pl (M.pure (.val (fnD x)))
  | .bin op a b, C => pl (op2 (dP a C).1 (dP b C).1 fun x y => rsRV (bin op x y))
  | .neg a, C => pl (M.bind (dP a C).1 fun ra => M.bind (M.use ra) fun x => M.bind (asInt x) fun i => M.pure (.val (.int (-i))))
  | .cmp op a b, C => (op2 (dP a C).1 (dP b C).1 fun x y => M.bind (M.opt (cmp op x y)) bV, op2 (dP a C).1 (dP b C).1 fun x y => M.opt (cmp op x y))
  | .chain o p a b c, C => (chn o p (dP a C).1 (dP b C).1 (dP c C).1 (bV false) bV, chn o p (dP a C).1 (dP b C).1 (dP c C).1 (M.pure false) M.pure)
  | .bool conj a b, C => (M.bind (dP a C).1 fun ra => M.bind (M.use ra) fun x => M.bind (asBool x) fun k => if k = conj then (dP b C).1 else bV k, M.bind (dP a C).2 fun k => if k = conj then (dP b C).2 else M.pure k)
  | .not a, C => (M.bind (dP a C).1 fun ra => M.bind (M.use ra) fun x => M.bind (asBool x) fun k => bV (!k), M.bind (dP a C).2 fun k => M.pure (!k))
  | .ite c a b, C => (M.bind (dP c C).2 fun k => if k = true then (dP a C).1 else (dP b C).1, M.bind (dP c C).2 fun k => if k = true then (dP a C).2 else (dP b C).2)
  | .tup es, C => pl (M.bind (dK es C) fun ds => if lines ds.length then M.pure (.val (.tuple ds)) else M.stuck)
  | .lst es, C => pl (M.bind (dK es C) fun ds => if lines ds.length then M.pure (.fresh ds) else M.stuck)
  | .ix a b, C => pl (op2 (dP a C).1 (dP b C).1 fun x y => M.bind (M.opt (pix x y)) fun r => M.pure (.val r))
  | .sl a lo hi, C => pl (M.bind (dP a C).1 fun ra => M.bind (dO lo C) fun l => M.bind (dO hi C) fun h => M.bind (M.use (M.settle ra)) fun x => rsRV (psl x l h))
  | .rev a, C => pl (M.bind (dP a C).1 fun ra => M.bind (M.use ra) fun x => rsRV (prev x))
  | .call f es, C => pl (M.bind (dA es C) fun rs => callF (C.Φ f) rs)
  | .blt b es, C => pl (M.bind (dA es C) fun rs => M.bind (useAll rs) fun ds => rsRV (blt b ds))
  | .isi a t, C => pl (M.bind (dP a C).1 fun ra => M.bind (M.use ra) fun x => M.bind (M.opt (isInst x t)) bV)
  | .isi2 a t u, C => pl (M.bind (dP a C).1 fun ra => M.bind (M.use ra) fun x => M.bind (M.opt (isInst x t)) fun r => M.bind (M.opt (isInst x u)) fun q => bV (r || q))
  | .meth m o es, C => pl (M.bind (dP o C).1 fun ro => M.bind (M.use (M.settle ro)) fun x0 => if mtOk m x0 = true then M.bind (dA es C) fun rs => M.bind (M.use (M.settle ro)) fun x => M.bind (useAll rs) fun ds => rsRV (meth m x ds) else M.stuck)
  | .lmeth m i es, C => pl (M.bind (isOwn i) fun _ => M.bind (dK es C) fun ds => lmGo m i ds)
  | .lc own tg it cond el, C => pl (M.bind (dI it C) fun xs => fun ρ =>
      if lines xs.length then lcEnd own ρ (lcGo own tg (dC cond C) (M.bind (dP el C).1 fun r => M.keep C.ios r) xs ρ) else .stuck)
  | .lc2 own own1 t0 it t1 it1 el, C => pl (M.bind (dI it C) fun xs => fun ρ =>
      (lc2Go own own1 t0 (dI it1 C) (M.bind (dI it1 C) fun ys => lcGo own1 t1 (M.pure true) (M.bind (dP el C).1 fun r => M.keep C.ios r) ys) xs ρ).bind fun p =>
        if lines p.1.length then .ok (.fresh p.1, M.restore own ρ p.2) else .stuck)
  | .told f, C => pl (match C.Φ2 with
    | none => M.stuck
    | some Φ2 => fun ρ => toldV C.exc ρ ((dP f ⟨Φ2, C.Γ, C.ios, C.exc, none⟩).1 (hide ρ)))
  | .dct kvs, C => pl (M.pure (.val (dctD kvs)))
  | .dget a i, C => pl (M.bind (dP a C).1 fun ra => M.bind (M.use ra) fun x => M.bind (M.get i) fun rk => M.bind (M.use rk) fun y => M.bind (M.opt (dgetD x y)) fun r => M.pure (.val r))
  | .callL f a b ds z, C => pl (callLF (C.Φ f) a b ds z)
def dK : MEs → Cfg → M (List D)
  | .nil, C => M.pure []
  | .cons e es, C => M.bind (dP e C).1 fun r => M.bind (M.keep C.ios r) fun d => M.bind (dK es C) fun ds => M.pure (d :: ds)
def dA : MEs → Cfg → M (List RV)
  | .nil, C => M.pure []
  | .cons e es, C => M.bind (dP e C).1 fun r => M.bind (dA es C) fun rs => M.pure (M.settle r :: rs)
def dO : MO → Cfg → M (Option Int)
  | .none, C => M.pure none
  | .some e, C => M.bind (dP e C).1 fun r => M.bind (M.use r) fun x => M.bind (asInt x) fun i => M.pure (some i)
def dC : MO → Cfg → M Bool
  | .none, C => M.pure true
  | .some e, C => (dP e C).2
def dI : MI → Cfg → M (List D)
  | .ex a, C => M.bind (dP a C).1 fun r => M.bind (M.keep C.ios r) fun d => M.opt (walkOf d)
  | .range es, C => M.bind (dK es C) fun ds => M.opt (rangeI ds)
  | .enum es, C => M.bind (dK es C) fun ds => M.opt (enumI ds)
  | .zip es, C => M.bind (dK es C) fun ds => M.opt (zipI ds)
end
abbrev den (C : Cfg) (e : ME) : M RV := (dP e C).1
abbrev denT (C : Cfg) (e : ME) : M Bool := (dP e C).2
abbrev denK (C : Cfg) (es : MEs) : M (List D) := dK es C
abbrev denA (C : Cfg) (es : MEs) : M (List RV) := dA es C
abbrev denO (C : Cfg) (o : MO) : M (Option Int) := dO o C
abbrev denC (C : Cfg) (o : MO) : M Bool := dC o C
abbrev denI (C : Cfg) (i : MI) : M (List D) := dI i C
inductive Fl where
  | nx
  | rt (r : Rs)
  | bk
  | ct
def M.give (ios : List Nat) : RV → M Rs
  | .val d => M.pure (.val d)
  | .fresh ds => M.pure (.fresh ds)
  | .own i => fun ρ => match ρ[i]? with
    | some (some (.own ds)) => if i ∈ ios then .stuck else .ok (.fresh ds, ρ.set i none)
    | some (some (.val d)) => .ok (.val d, ρ)
    | _ => .stuck
def M.store (ios : List Nat) (i : Nat) (hold : Bool) (r : RV) : M Unit := match hold, r with
  | true, .fresh ds => fun ρ => if i ∈ ios then .stuck else .ok ((), ρ.set i (some (.own ds)))
  | _, r => M.bind (M.keep ios r) fun d => fun ρ => .ok ((), ρ.set i (some (.val d)))
def forGo (clear : List Nat) (tg : Tg) (body : M Fl) : List D → M Fl
  | [] => M.pure .nx
  | x :: r => fun ρ => (M.target tg x ρ).bind fun p => (body p.2).bind fun q => match q.1 with
      | .nx => forGo clear tg body r (M.wipe clear q.2)
      | .ct => forGo clear tg body r (M.wipe clear q.2)
      | .bk => .ok (.nx, M.wipe clear q.2)
      | .rt v => .ok (.rt v, q.2)
def whlGo (c : M Bool) (body : M Fl) : Nat → M Fl
  | 0 => M.stuck
  | n + 1 => fun ρ => (c ρ).bind fun k => match k.1 with
      | false => .ok (.nx, k.2)
      | true => (body k.2).bind fun q => match q.1 with
        | .nx => whlGo c body n q.2
        | .ct => whlGo c body n q.2
        | .bk => .ok (.nx, q.2)
        | .rt v => .ok (.rt v, q.2)
def fuel : Nat := 1000000
def spliceL (xs : List D) (lo hi : Int) (ys : List D) : Option (List D) :=
  if 0 ≤ lo ∧ lo ≤ hi ∧ xs.length + ys.length ≤ sizeLine then some (xs.take (min lo.toNat xs.length) ++ ys ++ xs.drop (min hi.toNat xs.length)) else none
def spliceAt (i : Nat) (d : D) (l h : Option Int) : M Fl := fun ρ => match ρ[i]?, d, l, h with
  | some (some (.own xs)), .list ys, some lo, some hi => match spliceL xs lo hi ys with
    | some zs => .ok (.nx, ρ.set i (some (.own zs)))
    | none => .stuck
  | _, _, _, _ => .stuck
section
variable (C : Cfg)
mutual
def denS : MS → M Fl
  | .asg i hold e => M.bind (den C e) fun r => M.bind (M.store C.ios i hold r) fun _ => M.pure .nx
  | .asgT is e => M.bind (den C e) fun r => M.bind (M.keep C.ios r) fun d => M.bind (M.target (.tup is) d) fun _ => M.pure .nx
  | .par is es => M.bind (denK C es) fun ds => if is.length = ds.length then fun ρ => .ok (.nx, M.setAll is ds ρ) else M.stuck
  | .setIx i k e => M.bind (den C e) fun r => M.bind (M.keep C.ios r) fun d => M.bind (isOwn i) fun _ => M.bind (den C k) fun rk => M.bind (M.use rk) fun x => M.bind (asInt x) fun j => fun ρ => match ρ[i]? with
      | some (some (.own xs)) => match L2.ixN xs.length j with
        | some n => .ok (.nx, ρ.set i (some (.own (xs.set n d))))
        | none => .stuck
      | _ => .stuck
  | .setSl i lo hi e => M.bind (den C e) fun r => M.bind (M.keep C.ios r) fun d => M.bind (isOwn i) fun _ => M.bind (denO C (.some lo)) fun l => M.bind (denO C (.some hi)) fun h => spliceAt i d l h
  | .ex e => M.bind (den C e) fun _ => M.pure .nx
  | .ret e => M.bind (den C e) fun r => M.bind (M.give C.ios r) fun v => M.pure (.rt v)
  | .retN => M.pure (.rt (.val .none))
  | .ite c a b => M.bind (denT C c) fun k => if k = true then denB a else denB b
  | .for clear tg it body => M.bind (denI C it) fun xs => forGo clear tg (denB body) xs
  | .whl c body => whlGo (denT C c) (denB body) fuel
  | .raise x => fun _ => .exc x none
  | .pass => M.pure .nx
  | .brk => M.pure .bk
  | .cont => M.pure .ct
def denB : MSs → M Fl
  | .nil => M.pure .nx
  | .cons s r => M.bind (denS s) fun
      | .nx => denB r
      | f => M.pure f
end
end
def outs : List Cell → Nat → Rho → Option (List (List D))
  | [], _, _ => some []
  | .val _ :: r, k, ρ => outs r (k + 1) ρ
  | .own _ :: r, k, ρ => match ρ[k]? with
    | some (some (.own ds)) => (outs r (k + 1) ρ).map (ds :: ·)
    | _ => none
def iosOf : List Cell → Nat → List Nat
  | [], _ => []
  | .val _ :: r, k => iosOf r (k + 1)
  | .own _ :: r, k => k :: iosOf r (k + 1)
def denF (Φ : Str → FM) (Φ2 : Option (Str → FM)) (Γ : Str → Option D) (exc : Str → Bool) (f : MF) : FM := fun cs =>
  if cs.length = f.np then
    match denB ⟨Φ, Γ, iosOf cs 0, exc, Φ2⟩ f.body (cs.map some ++ List.replicate (f.nn - f.np) none) with
    | .ok (fl, ρ) => match outs cs 0 ρ, fl with
      | some os, .rt v => .ok (v, os)
      | some os, .nx => .ok (.val .none, os)
      | _, _ => .stuck
    | .exc e l => .exc e l
    | .stuck => .stuck
  else .stuck
structure Lv where
  a : Str → FM
  b : Option (Str → FM)
  c : Option (Str → FM)
def PhiL (T : Str → Option MF) (Γ : Str → Option D) (exc : Str → Bool) : Nat → Lv
  | 0 => ⟨fun _ _ => .stuck, none, none⟩
  | n + 1 => ⟨fun x => match T x with
    | some f => denF (PhiL T Γ exc n).a (PhiL T Γ exc n).c Γ exc f
    | none => fun _ => .stuck, some (PhiL T Γ exc n).a, (PhiL T Γ exc n).b⟩
def Phi (T : Str → Option MF) (Γ : Str → Option D) (exc : Str → Bool) (n : Nat) : Str → FM := (PhiL T Γ exc n).a
def Phi2 (T : Str → Option MF) (Γ : Str → Option D) (exc : Str → Bool) (n : Nat) : Option (Str → FM) := (PhiL T Γ exc n).c
theorem Phi_succ {T : Str → Option MF} {Γ : Str → Option D} {exc : Str → Bool} {n : Nat} {x : Str} {f : MF} (h : T x = some f) : Phi T Γ exc (n + 1) x = denF (Phi T Γ exc n) (Phi2 T Γ exc n) Γ exc f := by
  show (match T x with | some f => denF (PhiL T Γ exc n).a (PhiL T Γ exc n).c Γ exc f | none => fun _ => .stuck) = _
  rw [h]
  rfl
theorem Phi2_two {T : Str → Option MF} {Γ : Str → Option D} {exc : Str → Bool} {n : Nat} : Phi2 T Γ exc (n + 2) = some (Phi T Γ exc n) := rfl
theorem Phi2_low {T : Str → Option MF} {Γ : Str → Option D} {exc : Str → Bool} : ∀ {n : Nat} {Φ : Str → FM}, Phi2 T Γ exc n = some Φ → ∃ m, n = m + 2 ∧ Φ = Phi T Γ exc m
  | 0, _, h => by cases h
  | 1, _, h => by cases h
  | n + 2, _, h => by cases h; exact ⟨n, rfl, rfl⟩
end G
set_option maxHeartbeats 4000000
namespace G
open PySem PySem.Spec PyProof.Rows L2
abbrev Fz := Addr → Prop
def ScrAt (K : PySem.W.Frag) (H : Hp) (F : Fz) (a : Addr) (ns : List Int) : Prop :=
  (F a ∧ H a = some (.lst (ns.map .int))) ∨ (∃ o, H a = some (.frz o (.lst (ns.map .int)))) ∨
    ∃ (o : Obj) (its : Array Value) (n : Nat), K.lookup a = some o ∧ o.cls = .type "list" ∧ o.dict = none ∧ o.data = .seq its n ∧ its.size ≤ sizeLine ∧ Vals (ns.map .int) its.toList
theorem ScrAt.sq {K : PySem.W.Frag} {H : Hp} {F : Fz} {a : Addr} {ns : List Int} (h : ScrAt K H F a ns) : SqL K H a (ns.map .int) := by
  rcases h with h | h | h
  · exact .inl (.inl h.2)
  · exact .inl (.inr h)
  · exact .inr h
def DctAt (H : Hp) (a : Addr) (kvs : List (D × D)) : Prop := ∃ (ps : List (Str × Str)) (o : Obj), kvs = ps.map (fun p => (.str p.1, .str p.2)) ∧ H a = some (.frz o (.dK (ps.map fun p => (.inr p.1, .str p.2))))
section
variable (K : PySem.W.Frag) (mg : Str → Option Value) (H : Hp) (F : Fz)
mutual
inductive Rp : V → D → Prop
  | non : Rp .non .none
  | bl (b : Bool) : Rp (.bl b) (.bool b)
  | int (i : Int) : Rp (.int i) (.int i)
  | str (x : Str) : Rp (.str x) (.str x)
  | lst {a : Addr} {xs : List V} {ds : List D} : F a → H a = some (.lst xs) → RpAll xs ds → Rp (.ref a) (.list ds)
  | tup {a : Addr} {xs : List V} {ds : List D} : SqT K H a xs → RpAll xs ds → Rp (.ref a) (.tuple ds)
  | fn {f : Addr} {x : Str} : mg x = some (.ref f) → PySem.W.keepIn K (.ref f) = true → Rp (.ref f) (.dict [(.str x, .none)])
  | scr {a : Addr} {ns : List Int} : ScrAt K H F a ns → Rp (.ref a) (.dict [(.none, .list (ns.map .int))])
  | dct {a : Addr} {kvs : List (D × D)} : DctAt H a kvs → Rp (.ref a) (.dict kvs)
inductive RpAll : List V → List D → Prop
  | nil : RpAll [] []
  | cons {v : V} {vs : List V} {d : D} {ds : List D} : Rp v d → RpAll vs ds → RpAll (v :: vs) (d :: ds)
end
end
section
variable {K : PySem.W.Frag} {mg : Str → Option Value} {H H' H1 H2 : Hp} {F F' F1 F2 : Fz}
structure Mon (H : Hp) (F : Fz) (H' : Hp) (F' : Fz) : Prop where
  fz : ∀ a, F a → F' a ∧ H' a = H a
  tup : ∀ a xs, H a = some (.tup xs) → H' a = some (.tup xs)
  frz : ∀ a o u, H a = some (.frz o u) → H' a = some (.frz o u)
theorem Mon.refl : Mon H F H F := ⟨fun _ h => ⟨h, rfl⟩, fun _ _ h => h, fun _ _ _ h => h⟩
theorem Mon.trans (a : Mon H F H1 F1) (b : Mon H1 F1 H2 F2) : Mon H F H2 F2 :=
  ⟨fun x h => ⟨(b.fz x (a.fz x h).1).1, ((b.fz x (a.fz x h).1).2).trans (a.fz x h).2⟩, fun x xs h => b.tup x xs (a.tup x xs h), fun x o u h => b.frz x o u (a.frz x o u h)⟩
theorem Mon.seqT {a : Addr} {xs : List V} (m : Mon H F H' F') (h : SqT K H a xs) : SqT K H' a xs := by
  rcases h with (h | ⟨o, h⟩) | h
  · exact .inl (.inl (m.tup _ _ h))
  · exact .inl (.inr ⟨o, m.frz _ _ _ h⟩)
  · exact .inr h
theorem Mon.scr {a : Addr} {ns : List Int} (m : Mon H F H' F') (h : ScrAt K H F a ns) : ScrAt K H' F' a ns := by
  rcases h with ⟨h1, h2⟩ | ⟨o, h⟩ | h
  · exact .inl ⟨(m.fz a h1).1, (m.fz a h1).2.trans h2⟩
  · exact .inr (.inl ⟨o, m.frz _ _ _ h⟩)
  · exact .inr (.inr h)
mutual
theorem Rp.mono (m : Mon H F H' F') : ∀ (d : D) {v : V}, Rp K mg H F v d → Rp K mg H' F' v d
  | .none, _, h => by cases h; exact .non
  | .bool b, _, h => by cases h; exact .bl b
  | .int i, _, h => by cases h; exact .int i
  | .str x, _, h => by cases h; exact .str x
  | .list ds, _, h => by
    cases h with
    | lst f e a => exact .lst (m.fz _ f).1 ((m.fz _ f).2.trans e) (RpAll.mono m ds a)
  | .tuple ds, _, h => by
    cases h with
    | tup e a => exact .tup (m.seqT e) (RpAll.mono m ds a)
  | .dict kvs, _, h => by
    cases h with
    | fn e k => exact .fn e k
    | scr e => exact .scr (m.scr e)
    | dct e => obtain ⟨ps, o, rfl, e⟩ := e; exact .dct ⟨ps, o, rfl, m.frz _ _ _ e⟩
theorem RpAll.mono (m : Mon H F H' F') : ∀ (ds : List D) {vs : List V}, RpAll K mg H F vs ds → RpAll K mg H' F' vs ds
  | [], _, h => by cases h; exact .nil
  | d :: ds, _, h => by
    cases h with
    | cons a b => exact .cons (Rp.mono m d a) (RpAll.mono m ds b)
end
theorem RpAll.length : ∀ {vs : List V} {ds : List D}, RpAll K mg H F vs ds → vs.length = ds.length
  | _, _, .nil => rfl
  | _, _, .cons _ b => congrArg (· + 1) b.length
theorem RpAll.append : ∀ {vs ws : List V} {ds es : List D}, RpAll K mg H F vs ds → RpAll K mg H F ws es → RpAll K mg H F (vs ++ ws) (ds ++ es)
  | _, _, _, _, .nil, h => h
  | _, _, _, _, .cons a b, h => .cons a (b.append h)
theorem RpAll.get : ∀ {vs : List V} {ds : List D} {i : Nat} {v : V}, RpAll K mg H F vs ds → vs[i]? = some v → ∃ d, ds[i]? = some d ∧ Rp K mg H F v d
  | _, _, _, _, .nil, e => by simp at e
  | _, _, 0, _, .cons a _, e => by simp at e; subst e; exact ⟨_, rfl, a⟩
  | _, _, i + 1, v, .cons _ b, e => by
    obtain ⟨d, h1, h2⟩ := b.get (i := i) (v := v) (by simpa using e)
    exact ⟨d, by simpa using h1, h2⟩
theorem RpAll.get' : ∀ {vs : List V} {ds : List D} {i : Nat} {d : D}, RpAll K mg H F vs ds → ds[i]? = some d → ∃ v, vs[i]? = some v ∧ Rp K mg H F v d
  | _, _, _, _, .nil, e => by simp at e
  | _, _, 0, _, .cons a _, e => by simp at e; subst e; exact ⟨_, rfl, a⟩
  | _, _, i + 1, d, .cons _ b, e => by
    obtain ⟨v, h1, h2⟩ := b.get' (i := i) (d := d) (by simpa using e)
    exact ⟨v, by simpa using h1, h2⟩
theorem RpAll.take : ∀ {vs : List V} {ds : List D} (n : Nat), RpAll K mg H F vs ds → RpAll K mg H F (vs.take n) (ds.take n)
  | _, _, 0, _ => by simp; exact .nil
  | _, _, _ + 1, .nil => .nil
  | _, _, n + 1, .cons a b => .cons a (b.take n)
theorem RpAll.drop : ∀ {vs : List V} {ds : List D} (n : Nat), RpAll K mg H F vs ds → RpAll K mg H F (vs.drop n) (ds.drop n)
  | _, _, 0, h => h
  | _, _, _ + 1, .nil => .nil
  | _, _, n + 1, .cons _ b => b.drop n
theorem RpAll.set {v : V} {d : D} (r : Rp K mg H F v d) : ∀ {vs : List V} {ds : List D} (n : Nat), RpAll K mg H F vs ds → RpAll K mg H F (vs.set n v) (ds.set n d)
  | _, _, _, .nil => .nil
  | _, _, 0, .cons _ b => .cons r b
  | _, _, n + 1, .cons a b => .cons a (b.set r n)
theorem RpAll.eraseIdx : ∀ {vs : List V} {ds : List D} (n : Nat), RpAll K mg H F vs ds → RpAll K mg H F (vs.eraseIdx n) (ds.eraseIdx n)
  | _, _, _, .nil => .nil
  | _, _, 0, .cons _ b => b
  | _, _, n + 1, .cons a b => .cons a (b.eraseIdx n)
theorem RpAll.rev {vs : List V} {ds : List D} (h : RpAll K mg H F vs ds) : RpAll K mg H F vs.reverse ds.reverse := by
  induction h using RpAll.rec (motive_1 := fun _ _ _ => True) with
  | nil => exact .nil
  | cons a b _ ih => rw [List.reverse_cons, List.reverse_cons]; exact ih.append (.cons a .nil)
  | _ => trivial
theorem RpAll.cut {vs : List V} {ds : List D} (h : RpAll K mg H F vs ds) (lo hi : Option Int) : RpAll K mg H F (cutV vs lo hi) (G.cut ds lo hi) := by
  unfold cutV G.cut
  rw [h.length]
  exact (h.drop _).take _
def RB (K : PySem.W.Frag) (mg : Str → Option Value) (H : Hp) (F : Fz) (v : V) (d : D) : Prop :=
  Rp K mg H F v d ∨ ∃ a xs ds, v = .ref a ∧ d = .list ds ∧ H a = some (.lst xs) ∧ RpAll K mg H F xs ds
mutual
theorem Rp.dp : ∀ (d : D) {v : V}, d.canLay0 = true → Rp K mg H F v d → Dp K H v d
  | .none, _, _, h => by cases h; exact .non
  | .bool b, _, _, h => by cases h; exact .bl b
  | .int i, _, _, h => by cases h; exact .int i
  | .str x, _, _, h => by cases h; exact .str x
  | .list ds, _, c, h => by
    cases h with
    | lst f e a => exact .lst (SqL.of e) (RpAll.dp ds (by simpa [PyData.canLay0] using c) a)
  | .tuple ds, _, c, h => by
    cases h with
    | tup e a => exact .tup e (RpAll.dp ds (by simpa [PyData.canLay0] using c) a)
  | .dict kvs, _, c, h => by simp [PyData.canLay0] at c
theorem RpAll.dp : ∀ (ds : List D) {vs : List V}, PyData.canLayAll0 ds = true → RpAll K mg H F vs ds → DpAll K H vs ds
  | [], _, _, h => by cases h; exact .nil
  | d :: ds, _, c, h => by
    have c' : d.canLay0 = true ∧ PyData.canLayAll0 ds = true := by simpa [PyData.canLayAll0] using c
    cases h with
    | cons a b => exact .cons (Rp.dp d c'.1 a) (RpAll.dp ds c'.2 b)
end
theorem RB.dp {v : V} {d : D} (c : d.canLay0 = true) (h : RB K mg H F v d) : Dp K H v d := by
  rcases h with h | ⟨a, xs, ds, rfl, rfl, e, r⟩
  · exact h.dp d c
  · exact .lst (SqL.of e) (RpAll.dp ds (by simpa [PyData.canLay0] using c) r)
theorem RB.list {v : V} {ds : List D} (h : RB K mg H F v (.list ds)) : ∃ a xs, v = .ref a ∧ H a = some (.lst xs) ∧ RpAll K mg H F xs ds := by
  rcases h with h | ⟨a, xs, ds, rfl, e, h, r⟩
  · cases h with
    | lst f e a => exact ⟨_, _, rfl, e, a⟩
  · cases e; exact ⟨a, xs, rfl, h, r⟩
theorem RB.rp {v : V} {d : D} (h : RB K mg H F v d) (n : ∀ ds, d ≠ .list ds) : Rp K mg H F v d := by
  rcases h with h | ⟨a, xs, ds, rfl, rfl, e, r⟩
  · exact h
  · exact absurd rfl (n ds)
abbrev Grow (H H' : Hp) : Prop := Same H H'
theorem Grow.mon (g : Grow H H') (fl : ∀ a, F a → ∃ xs, H a = some (.lst xs)) : Mon H F H' F :=
  ⟨fun a h => ⟨h, by obtain ⟨xs, e⟩ := fl a h; rw [e]; exact g _ _ e⟩, fun a xs h => g _ _ h, fun a o u h => g _ _ h⟩
theorem RB.grow {v : V} {d : D} (h : RB K mg H F v d) (m : Mon H F H' F) (g : Grow H H') : RB K mg H' F v d := by
  rcases h with h | ⟨a, xs, ds, rfl, rfl, e, r⟩
  · exact .inl (Rp.mono m d h)
  · exact .inr ⟨a, xs, ds, rfl, rfl, g _ _ e, RpAll.mono m ds r⟩
theorem grow_new {p : Addr} {o : HO} (h : H p = none) : Grow H (upd H p o) := fun b u q => by rw [upd_ne (ne_of_none q h)]; exact q
def RsR (K : PySem.W.Frag) (mg : Str → Option Value) (H H' : Hp) (F : Fz) (v : V) : Rs → Prop
  | .val d => Rp K mg H' F v d
  | .fresh ds => ∃ a xs, v = .ref a ∧ H a = none ∧ H' a = some (.lst xs) ∧ RpAll K mg H' F xs ds
end
structure Fc where
  H0 : Hp
  F0 : Fz
  io : List (Nat × Addr)
  tm : List (Addr × List V)
  tb : List (Addr × Str)
structure Fr (c : Fc) (H : Hp) (F : Fz) : Prop where
  keep : ∀ a o, c.H0 a = some o → a ∉ c.io.map (·.2) → (∀ ps, o ≠ .tbl ps) → H a = some o
  free : ∀ a, H a = none → c.H0 a = none
  tabs : LamX.Tabs c.tb c.H0 → LamX.Tabs c.tb H
  f0 : ∀ a, c.F0 a → F a
  f1 : ∀ a, F a → c.F0 a ∨ c.H0 a = none
  fl : ∀ a, F a → ∃ xs, H a = some (.lst xs)
def CR (K : PySem.W.Frag) (mg : Str → Option Value) (c : Fc) (H : Hp) (F : Fz) (i : Nat) (v : V) : Cell → Prop
  | .val d => Rp K mg H F v d
  | .own ds => ∃ a xs, v = .ref a ∧ H a = some (.lst xs) ∧ RpAll K mg H F xs ds ∧ ¬ F a ∧ ((i, a) ∈ c.io ∨ (c.H0 a = none ∧ ∀ p ∈ c.io, p.1 ≠ i))
structure Rel (K : PySem.W.Frag) (mg : Str → Option Value) (c : Fc) (σ : L2.St) (H : Hp) (F : Fz) (ρ : Rho) : Prop where
  fr : Fr c H F
  len : σ.length = ρ.length
  cel : ∀ (i : Nat) (x : Cell), ρ[i]? = some (some x) → ∃ v, σ[i]? = some (some v) ∧ CR K mg c H F i v x
  dis : ∀ (i j : Nat) (a : Addr) (xs ys : List D), ρ[i]? = some (some (.own xs)) → ρ[j]? = some (some (.own ys)) → σ[i]? = some (some (.ref a)) → σ[j]? = some (some (.ref a)) → i = j
  tmp : ∀ p ∈ c.tm, H p.1 = some (.lst p.2) ∧ ¬ F p.1 ∧ c.H0 p.1 = none ∧ ∀ (i : Nat) (ys : List D), ρ[i]? = some (some (.own ys)) → σ[i]? ≠ some (some (.ref p.1))
def RVR (K : PySem.W.Frag) (mg : Str → Option Value) (c : Fc) (σ : L2.St) (H : Hp) (F : Fz) (ρ : Rho) (v : V) : RV → Prop
  | .val d => Rp K mg H F v d
  | .fresh ds => ∃ a xs, v = .ref a ∧ H a = some (.lst xs) ∧ RpAll K mg H F xs ds ∧ ¬ F a ∧ c.H0 a = none ∧ (∀ (i : Nat) (ys : List D), ρ[i]? = some (some (.own ys)) → σ[i]? ≠ some (some (.ref a))) ∧ ∀ p ∈ c.tm, p.1 ≠ a
  | .own i => σ[i]? = some (some v)
def ExcR (mg : Str → Option Value) (e : Str) (l : Option Int) (cls : Value) (d : Option Addr) (H : Hp) : Prop :=
  ∃ C, mg e = some (.ref C) ∧ cls = .ref C ∧ match l with
    | none => d = none
    | some l => ∃ dx, d = some dx ∧ H dx = some (.xd [("limit", .int l)])
def Post {α : Type} (K : PySem.W.Frag) (mg : Str → Option Value) (c : Fc) (W : WX) (σ : L2.St) (H : Hp) (F : Fz) (o : Out (α × Rho)) (P : α → Rho → Hp → Fz → Prop) : Prop :=
  match o with
  | .ok (a, ρ') => ∀ H' F', Mon H F H' F' → Rel K mg c σ H' F' ρ' → P a ρ' H' F'
  | .exc e l => ∀ cls d H' F', Mon H F H' F' → Fr c H' F' → ExcR mg e l cls d H' → W cls d σ H'
  | .stuck => False
section
variable {K : PySem.W.Frag} {mg : Str → Option Value} {c : Fc} {W : WX} {σ : L2.St} {H H' H1 : Hp} {F F' F1 : Fz} {ρ ρ' : Rho}
theorem Post.base {α : Type} {o : Out (α × Rho)} {P : α → Rho → Hp → Fz → Prop} (m : Mon H F H1 F1) (h : Post K mg c W σ H F o P) : Post K mg c W σ H1 F1 o P := by
  cases o with
  | ok p => exact fun H' F' m' R => h H' F' (m.trans m') R
  | exc e l => exact fun cls d H' F' m' fr x => h cls d H' F' (m.trans m') fr x
  | stuck => exact h
theorem Post.bind {α β : Type} {o : Out (α × Rho)} {k : α × Rho → Out (β × Rho)} {P : β → Rho → Hp → Fz → Prop} (h : Post K mg c W σ H F (o.bind k) P) :
    Post K mg c W σ H F o (fun a ρ1 H1 F1 => Post K mg c W σ H1 F1 (k (a, ρ1)) P) := by
  cases o with
  | ok p => exact fun H' F' m R => Post.base m h
  | exc e l => exact h
  | stuck => exact h
theorem Post.mono {α : Type} {o : Out (α × Rho)} {P P' : α → Rho → Hp → Fz → Prop} (h : Post K mg c W σ H F o P) (i : ∀ a ρ' H' F', Mon H F H' F' → Rel K mg c σ H' F' ρ' → P a ρ' H' F' → P' a ρ' H' F') : Post K mg c W σ H F o P' := by
  cases o with
  | ok p => exact fun H' F' m R => i _ _ _ _ m R (h H' F' m R)
  | exc e l => exact h
  | stuck => exact h
theorem Post.here {α : Type} {a : α} {P : α → Rho → Hp → Fz → Prop} (h : Post K mg c W σ H F (.ok (a, ρ)) P) (R : Rel K mg c σ H F ρ) : P a ρ H F := h H F Mon.refl R
theorem Fr.grow (f : Fr c H F) (g : Grow H H') : Fr c H' F where
  keep := fun a o h n t => g _ _ (f.keep a o h n t)
  free := fun a h => f.free a (Same.free g h)
  tabs := fun t => (f.tabs t).ext g
  f0 := f.f0
  f1 := f.f1
  fl := fun a h => by obtain ⟨xs, e⟩ := f.fl a h; exact ⟨xs, g _ _ e⟩
theorem Rel.mon (R : Rel K mg c σ H F ρ) (g : Grow H H') : Mon H F H' F := g.mon R.fr.fl
theorem CR.grow {i : Nat} {v : V} {x : Cell} (g : Grow H H') (m : Mon H F H' F) (h : CR K mg c H F i v x) : CR K mg c H' F i v x := by
  cases x with
  | val d => exact Rp.mono m d h
  | own ds =>
    obtain ⟨a, xs, e, h1, h2, h3, h4⟩ := h
    exact ⟨a, xs, e, g _ _ h1, RpAll.mono m ds h2, h3, h4⟩
theorem Rel.grow (R : Rel K mg c σ H F ρ) (g : Grow H H') : Rel K mg c σ H' F ρ where
  fr := R.fr.grow g
  len := R.len
  cel := fun i x e => by obtain ⟨v, h1, h2⟩ := R.cel i x e; exact ⟨v, h1, h2.grow g (R.mon g)⟩
  dis := R.dis
  tmp := fun p hp => by obtain ⟨h1, h2, h3⟩ := R.tmp p hp; exact ⟨g _ _ h1, h2, h3⟩
theorem Rel.rs {v : V} {r : Rs} (R : Rel K mg c σ H F ρ) (g : Grow H H') (h : RsR K mg H H' F v r) : RVR K mg c σ H' F ρ v r.rv := by
  cases r with
  | val d => exact h
  | fresh ds =>
    obtain ⟨a, xs, e, h1, h2, h3⟩ := h
    refine ⟨a, xs, e, h2, h3, fun f => ?_, R.fr.free a h1, fun i ys h4 h5 => ?_, fun p hp z => ?_⟩
    · obtain ⟨_, q⟩ := R.fr.fl a f
      rw [h1] at q; cases q
    · obtain ⟨v', e1, b, zs, e2, e3, _⟩ := R.cel i _ h4
      rw [h5] at e1
      cases e1
      cases e2
      rw [h1] at e3; cases e3
    · obtain ⟨h4, _⟩ := R.tmp p hp
      rw [z, h1] at h4; cases h4
theorem Rel.give {a : Addr} {xs : List V} (R : Rel K mg c σ H F ρ) (h1 : H a = some (.lst xs)) (h2 : c.H0 a = none) (h3 : ∀ (i : Nat) (ys : List D), ρ[i]? = some (some (.own ys)) → σ[i]? ≠ some (some (.ref a))) (h4 : ∀ p ∈ c.tm, p.1 ≠ a) :
    Mon H F H (fun b => F b ∨ b = a) ∧ Rel K mg c σ H (fun b => F b ∨ b = a) ρ := by
  have m : Mon H F H (fun b => F b ∨ b = a) := ⟨fun b h => ⟨.inl h, rfl⟩, fun _ _ h => h, fun _ _ _ h => h⟩
  refine ⟨m, ⟨R.fr.keep, R.fr.free, R.fr.tabs, fun b h => .inl (R.fr.f0 b h), fun b h => ?_, fun b h => ?_⟩, R.len, fun i x e => ?_, R.dis, fun p hp => by obtain ⟨g1, g2, g3⟩ := R.tmp p hp; exact ⟨g1, fun z => z.elim g2 (h4 p hp), g3⟩⟩
  · rcases h with h | rfl
    · exact R.fr.f1 b h
    · exact .inr h2
  · rcases h with h | rfl
    · exact R.fr.fl b h
    · exact ⟨xs, h1⟩
  · obtain ⟨v, e1, e2⟩ := R.cel i x e
    refine ⟨v, e1, ?_⟩
    cases x with
    | val d => exact Rp.mono m d e2
    | own ds =>
      obtain ⟨b, ys, rfl, q1, q2, q3, q4⟩ := e2
      refine ⟨b, ys, rfl, q1, RpAll.mono m ds q2, fun z => ?_, q4⟩
      rcases z with z | z
      · exact q3 z
      · subst z; exact h3 i ds e e1
def OR (K : PySem.W.Frag) (mg : Str → Option Value) (σ : L2.St) (H : Hp) (F : Fz) (v : V) : RV → Prop
  | .val d => Rp K mg H F v d
  | .fresh _ => False
  | .own i => σ[i]? = some (some v)
theorem OR.mono {v : V} {r : RV} (m : Mon H F H' F') (h : OR K mg σ H F v r) : OR K mg σ H' F' v r := by
  cases r with
  | val d => exact Rp.mono m d h
  | fresh _ => exact h
  | own i => exact h
theorem Rel.settle {v : V} {r : RV} (R : Rel K mg c σ H F ρ) (h : RVR K mg c σ H F ρ v r) : ∃ F', Mon H F H F' ∧ Rel K mg c σ H F' ρ ∧ OR K mg σ H F' v (M.settle r) := by
  cases r with
  | val d => exact ⟨F, Mon.refl, R, h⟩
  | own i => exact ⟨F, Mon.refl, R, h⟩
  | fresh ds =>
    obtain ⟨a, xs, rfl, h1, h2, h3, h4, h5, h6⟩ := h
    obtain ⟨m, R'⟩ := R.give h1 h4 h5 h6
    exact ⟨_, m, R', .lst (.inr rfl) h1 (RpAll.mono m ds h2)⟩
theorem Rel.look {v : V} {r : RV} {d : D} (R : Rel K mg c σ H F ρ) (h : OR K mg σ H F v r) (e : M.look ρ r = some d) : RB K mg H F v d := by
  cases r with
  | val d' => cases e; exact .inl h
  | fresh _ => exact h.elim
  | own i =>
    unfold M.look at e
    simp only at e
    split at e
    · rename_i ds hi
      cases e
      obtain ⟨v', e1, a, xs, rfl, h1, h2, _⟩ := R.cel i _ hi
      have h' : σ[i]? = some (some v) := h
      rw [h'] at e1
      cases e1
      exact .inr ⟨a, xs, ds, rfl, rfl, h1, h2⟩
    · rename_i d' hi
      cases e
      obtain ⟨v', e1, h1⟩ := R.cel i _ hi
      have h' : σ[i]? = some (some v) := h
      rw [h'] at e1
      cases e1
      exact .inl h1
    · cases e
theorem Rel.lookR {v : V} {r : RV} {d : D} (R : Rel K mg c σ H F ρ) (h : RVR K mg c σ H F ρ v r) (e : M.look ρ r = some d) : RB K mg H F v d := by
  cases r with
  | val d' => exact R.look (r := .val d') h e
  | own i => exact R.look (r := .own i) h e
  | fresh ds =>
    cases e
    obtain ⟨a, xs, rfl, h1, h2, _⟩ := h
    exact .inr ⟨a, xs, ds, rfl, rfl, h1, h2⟩
theorem Rel.set_none (R : Rel K mg c σ H F ρ) (i : Nat) : Rel K mg c σ H F (ρ.set i none) where
  fr := R.fr
  len := by rw [List.length_set]; exact R.len
  cel := fun j x e => by
    by_cases h : i = j
    · subst h
      rw [List.getElem?_set_self'] at e
      cases q : ρ[i]? with
      | none => rw [q] at e; cases e
      | some y => rw [q] at e; cases e
    · rw [List.getElem?_set_ne h] at e; exact R.cel j x e
  dis := fun j k a xs ys e1 e2 e3 e4 => by
    have g : ∀ {j : Nat} {x : Cell}, (ρ.set i none)[j]? = some (some x) → ρ[j]? = some (some x) := fun {j x} e => by
      by_cases h : i = j
      · subst h
        rw [List.getElem?_set_self'] at e
        cases q : ρ[i]? with
        | none => rw [q] at e; cases e
        | some y => rw [q] at e; cases e
      · rw [List.getElem?_set_ne h] at e; exact e
    exact R.dis j k a xs ys (g e1) (g e2) e3 e4
  tmp := fun p hp => by
    obtain ⟨h1, h2, h3, h4⟩ := R.tmp p hp
    refine ⟨h1, h2, h3, fun j ys e => h4 j ys ?_⟩
    by_cases h : i = j
    · subst h
      rw [List.getElem?_set_self'] at e
      cases q : ρ[i]? with
      | none => rw [q] at e; cases e
      | some y => rw [q] at e; cases e
    · rw [List.getElem?_set_ne h] at e; exact e
theorem Rel.keep_own {ios : List Nat} {i : Nat} {v : V} {ds : List D} (hio : ∀ p ∈ c.io, p.1 ∈ ios) (R : Rel K mg c σ H F ρ) (hi : ρ[i]? = some (some (.own ds))) (hv : σ[i]? = some (some v)) (hn : i ∉ ios) :
    ∃ F', Mon H F H F' ∧ Rel K mg c σ H F' (ρ.set i (some (.val (.list ds)))) ∧ Rp K mg H F' v (.list ds) := by
  obtain ⟨v', e1, a, xs, rfl, h1, h2, h3, h4⟩ := R.cel i _ hi
  rw [hv] at e1
  cases e1
  have h0 : c.H0 a = none := by
    rcases h4 with h4 | h4
    · exact absurd (hio _ h4) hn
    · exact h4.1
  have R1 := R.set_none i
  have hil : i < ρ.length := (List.getElem?_eq_some_iff.mp hi).1
  obtain ⟨m, R2⟩ := R1.give h1 h0 (fun j ys e z => by
    by_cases hj : i = j
    · subst hj
      rw [List.getElem?_set_self hil] at e; cases e
    · rw [List.getElem?_set_ne hj] at e
      exact hj (R.dis i j a ds ys hi e hv z)) (fun p hp z => (R.tmp p hp).2.2.2 i ds hi (by rw [z]; exact hv))
  have hp : Rp K mg H (fun b => F b ∨ b = a) (.ref a) (.list ds) := .lst (.inr rfl) h1 (RpAll.mono m ds h2)
  have g : ∀ {j : Nat} {x : List D}, (ρ.set i (some (.val (.list ds))))[j]? = some (some (.own x)) → (ρ.set i none)[j]? = some (some (.own x)) := fun {j x} e => by
    by_cases h : i = j
    · subst h
      rw [List.getElem?_set_self hil] at e; cases e
    · rw [List.getElem?_set_ne h] at e ⊢; exact e
  refine ⟨_, m, ⟨R2.fr, by rw [List.length_set]; exact R.len, fun j x e => ?_, fun j k b xs ys e1 e2 e3 e4 => R2.dis j k b xs ys (g e1) (g e2) e3 e4, fun p hp => by obtain ⟨h1, h2, h3, h4⟩ := R2.tmp p hp; exact ⟨h1, h2, h3, fun j ys e => h4 j ys (g e)⟩⟩, hp⟩
  · by_cases hj : i = j
    · subst hj
      rw [List.getElem?_set_self hil] at e
      cases e
      exact ⟨_, hv, hp⟩
    · rw [List.getElem?_set_ne hj] at e
      exact R2.cel j x (by rw [List.getElem?_set_ne hj]; exact e)
theorem Rel.keepR {ios : List Nat} {v : V} {r : RV} {P : D → Rho → Hp → Fz → Prop} (hio : ∀ p ∈ c.io, p.1 ∈ ios) (R : Rel K mg c σ H F ρ) (h : RVR K mg c σ H F ρ v r) (p : Post K mg c W σ H F (M.keep ios r ρ) P) :
    ∃ d ρ' F', Mon H F H F' ∧ Rel K mg c σ H F' ρ' ∧ Rp K mg H F' v d ∧ P d ρ' H F' := by
  cases r with
  | val d => exact ⟨d, ρ, F, Mon.refl, R, h, p H F Mon.refl R⟩
  | fresh ds =>
    obtain ⟨F', m, R', o⟩ := R.settle (r := .fresh ds) h
    exact ⟨_, ρ, F', m, R', o, p H F' m R'⟩
  | own i =>
    unfold M.keep at p
    simp only at p
    split at p
    · rename_i ds hi
      split at p
      · exact p.elim
      · rename_i hn
        obtain ⟨F', m, R', q⟩ := R.keep_own hio hi h hn
        exact ⟨_, _, F', m, R', q, p H F' m R'⟩
    · rename_i d hi
      obtain ⟨v', e1, h1⟩ := R.cel i _ hi
      have h' : σ[i]? = some (some v) := h
      rw [h'] at e1
      cases e1
      exact ⟨d, ρ, F, Mon.refl, R, h1, p H F Mon.refl R⟩
    · exact p.elim
end
section
variable (X : Cx) (c : Fc) (W : WX)
def rd (f : M RV) : TE := fun σ H Q => ∃ F ρ, Rel X.K X.mg c σ H F ρ ∧ Post X.K X.mg c W σ H F (f ρ) fun r ρ' H' F' => ∀ v, RVR X.K X.mg c σ H' F' ρ' v r → Q v H'
def rdT (f : M Bool) : TT := fun σ H Q => ∃ F ρ, Rel X.K X.mg c σ H F ρ ∧ Post X.K X.mg c W σ H F (f ρ) fun b ρ' H' F' => Q b H'
abbrev PX (e : Expr) (f : M RV) : Prop := PE X e (rd X c W f)
abbrev PTX (e : Expr) (f : M Bool) : Prop := PT X e (rdT X c W f)
end
end G
set_option maxHeartbeats 4000000
namespace G
open PySem PySem.Spec PyProof.Rows L2
section
variable {K : PySem.W.Frag} {mg : Str → Option Value} {H : Hp} {F : Fz} {v : V}
theorem RB.int {i : Int} (h : RB K mg H F v (.int i)) : v = .int i := by
  cases h.rp (fun _ z => by cases z); rfl
theorem RB.bl {i : Bool} (h : RB K mg H F v (.bool i)) : v = .bl i := by
  cases h.rp (fun _ z => by cases z); rfl
theorem RB.non (h : RB K mg H F v .none) : v = .non := by
  cases h.rp (fun _ z => by cases z); rfl
theorem RB.str {i : Str} (h : RB K mg H F v (.str i)) : v = .str i := by
  cases h.rp (fun _ z => by cases z); rfl
theorem RB.tup {ds : List D} (h : RB K mg H F v (.tuple ds)) : ∃ a xs, v = .ref a ∧ SqT K H a xs ∧ RpAll K mg H F xs ds := by
  cases h.rp (fun _ z => by cases z) with
  | tup e a => exact ⟨_, _, rfl, e, a⟩
theorem RB.scr {ds : List D} (h : RB K mg H F v (.dict [(.none, .list ds)])) : ∃ a xs, v = .ref a ∧ SqL K H a xs ∧ RpAll K mg H F xs ds := by
  cases h.rp (fun _ z => by cases z) with
  | @scr a ns e =>
    refine ⟨a, ns.map .int, rfl, e.sq, ?_⟩
    clear e
    induction ns with
    | nil => exact .nil
    | cons n r ih => exact .cons (.int n) (by
        have : ∀ r : List Int, RpAll K mg H F (r.map V.int) (r.map PyData.int) := fun r => by
          induction r with
          | nil => exact .nil
          | cons n r ih => exact .cons (.int n) ih
        exact this r)
  | dct e =>
    obtain ⟨ps, o, e, _⟩ := e
    cases ps <;> simp at e
def DRes (K : PySem.W.Frag) (mg : Str → Option Value) (H : Hp) (F : Fz) (vs : Option V) : Option D → Prop
  | none => vs = none
  | some d => ∃ w, vs = some w ∧ Rp K mg H F w d
theorem DRes.isSome {vs : Option V} {r : Option D} (h : DRes K mg H F vs r) : vs.isSome = r.isSome := by
  cases r with
  | none => cases (show vs = none from h); rfl
  | some d => obtain ⟨w, rfl, _⟩ := h; rfl
theorem dfind_val {x : Str} : ∀ {ps : List (Str × Str)} {r : Option D}, dfind (ps.map fun p => (.str p.1, .str p.2)) x = some r → DRes K mg H F (valV (ps.map fun p => ((Sum.inr p.1 : Key), V.str p.2)) (Sum.inr x : Key)) r
  | [], r, e => by cases e; rfl
  | p :: ps, r, e => by
    simp only [List.map_cons, dfind, Option.map_eq_some_iff] at e
    obtain ⟨r', e1, rfl⟩ := e
    have := dfind_val e1
    by_cases hk : p.1 = x
    · rw [if_pos hk]
      refine ⟨.str p.2, ?_, .str _⟩
      simp [valV, hk]
    · rw [if_neg hk]
      have q : valV ((p :: ps).map fun p => ((Sum.inr p.1 : Key), V.str p.2)) (Sum.inr x : Key) = valV (ps.map fun p => ((Sum.inr p.1 : Key), V.str p.2)) (Sum.inr x : Key) := by
        simp [valV, hk]
      rw [q]
      exact this
theorem RB.dct {kvs : List (D × D)} {x : Str} {r : Option D} (h : RB K mg H F v (.dict kvs)) (e : dfind kvs x = some r) : ∃ a vs, v = .ref a ∧ DGet H a (.str x) vs ∧ DRes K mg H F vs r := by
  have h := h.rp (fun _ z => by cases z)
  cases h with
  | fn e1 k => simp [dfind] at e
  | scr e1 => simp [dfind] at e
  | @dct a _ e1 =>
    obtain ⟨ps, o, rfl, e1⟩ := e1
    exact ⟨a, _, rfl, .inl ⟨_, Sum.inr x, .inr ⟨o, e1⟩, rfl, rfl⟩, dfind_val e⟩
end
def Op2 (X : Cx) (f : Value → Value → Sem Value) (g : D → D → Option Rs) : Prop :=
  OpR X f (fun x y H Q => ∃ F dx dy r, (∀ a, F a → ∃ xs, H a = some (.lst xs)) ∧ RB X.K X.mg H F x dx ∧ RB X.K X.mg H F y dy ∧ g dx dy = some r ∧ ∀ v H', Grow H H' → RsR X.K X.mg H H' F v r → Q v H')
def Op2b (X : Cx) (f : Value → Value → Sem Value) (g : D → D → Option Bool) : Prop :=
  OpR X f (fun x y H Q => ∃ F dx dy r, RB X.K X.mg H F x dx ∧ RB X.K X.mg H F y dy ∧ g dx dy = some r ∧ Q (.bl r) H)
section
variable {X : Cx}
theorem tup_new {H : Hp} {F : Fz} {p : Addr} {xs : List V} {ds : List D} {mg : Str → Option Value} (fl : ∀ a, F a → ∃ xs, H a = some (.lst xs)) (hp : H p = none) (r : RpAll X.K mg H F xs ds) :
    Grow H (upd H p (.tup xs)) ∧ Rp X.K mg (upd H p (.tup xs)) F (.ref p) (.tuple ds) := by
  have g := grow_new (o := .tup xs) hp
  exact ⟨g, .tup (SqT.of upd_same) (RpAll.mono (g.mon fl) ds r)⟩
theorem lst_new {H : Hp} {F : Fz} {p : Addr} {xs : List V} {ds : List D} {mg : Str → Option Value} (fl : ∀ a, F a → ∃ xs, H a = some (.lst xs)) (hp : H p = none) (r : RpAll X.K mg H F xs ds) :
    Grow H (upd H p (.lst xs)) ∧ RsR X.K mg H (upd H p (.lst xs)) F (.ref p) (.fresh ds) := by
  have g := grow_new (o := .lst xs) hp
  exact ⟨g, p, xs, rfl, hp, upd_same, RpAll.mono (g.mon fl) ds r⟩
theorem tup_same {H : Hp} {F : Fz} {a : Addr} {xs : List V} {ds : List D} {mg : Str → Option Value} (e : SqT X.K H a xs) (r : RpAll X.K mg H F xs ds) : RsR X.K mg H H F (.ref a) (.val (.tuple ds)) := .tup e r
theorem rpAll_nil_iff {K : PySem.W.Frag} {mg : Str → Option Value} {H : Hp} {F : Fz} {xs : List V} {ds : List D} (r : RpAll K mg H F xs ds) : xs = [] ↔ ds = [] := by
  constructor
  · intro e; subst e; cases r; rfl
  · intro e; subst e; cases r; rfl
theorem op2_add : Op2 X (binaryOp .Add) badd := by
  intro pins s σ H x y v u Q I rx ry h
  obtain ⟨F, dx, dy, r, fl, hx, hy, e, q⟩ := h
  unfold badd at e
  split at e
  case h_1 _ _ i j =>
    cases e
    obtain rfl := hx.int
    obtain rfl := hy.int
    exact op_add pins s σ H _ _ v u Q I rx ry ⟨i, j, rfl, rfl, q _ _ (Same.refl H) (.int _)⟩
  case h_2 _ _ i j =>
    split at e
    · rename_i hz
      cases e
      obtain rfl := hx.str
      obtain rfl := hy.str
      exact op_add_str pins s σ H _ _ v u Q I rx ry ⟨i, j, rfl, rfl, hz, q _ _ (Same.refl H) (.str _)⟩
    · cases e
  case h_3 _ _ xs ys =>
    split at e
    · rename_i hz
      cases e
      obtain ⟨a, vs, rfl, e1, r1⟩ := hx.tup
      obtain ⟨b, ws, rfl, e2, r2⟩ := hy.tup
      refine op_catA pins s σ H _ _ v u Q I rx ry ⟨a, b, vs, ws, rfl, rfl, e1, e2, by rw [r1.length, r2.length]; exact hz, fun n => ?_, fun _ n => ?_, fun _ _ p hp => ?_⟩
      · have := (rpAll_nil_iff r1).mp n
        subst this
        exact q _ _ (Same.refl H) (tup_same e2 r2)
      · have := (rpAll_nil_iff r2).mp n
        subst this
        exact q _ _ (Same.refl H) (tup_same e1 (by rw [List.append_nil]; exact r1))
      · obtain ⟨g, t⟩ := tup_new fl hp (r1.append r2)
        exact q _ _ g t
    · cases e
  case h_4 _ _ xs ys =>
    split at e
    · rename_i hz
      cases e
      obtain ⟨a, vs, rfl, e1, r1⟩ := hx.list
      obtain ⟨b, ws, rfl, e2, r2⟩ := hy.list
      refine op_cat pins s σ H _ _ v u Q I rx ry ⟨a, b, vs, ws, rfl, rfl, e1, e2, by rw [r1.length, r2.length]; exact hz, fun p hp => ?_⟩
      obtain ⟨g, t⟩ := lst_new fl hp (r1.append r2)
      exact q _ _ g t
    · cases e
  case h_5 => cases e
theorem op2_sub : Op2 X (binaryOp .Sub) bsub := by
  intro pins s σ H x y v u Q I rx ry h
  obtain ⟨F, dx, dy, r, fl, hx, hy, e, q⟩ := h
  unfold bsub at e
  split at e
  case h_1 _ _ i j =>
    cases e
    obtain rfl := hx.int
    obtain rfl := hy.int
    exact op_sub pins s σ H _ _ v u Q I rx ry ⟨i, j, rfl, rfl, q _ _ (Same.refl H) (.int _)⟩
  case h_2 => cases e
theorem op2_fdiv : Op2 X (binaryOp .FloorDiv) bfdiv := by
  intro pins s σ H x y v u Q I rx ry h
  obtain ⟨F, dx, dy, r, fl, hx, hy, e, q⟩ := h
  unfold bfdiv at e
  split at e
  case h_1 _ _ i j =>
    split at e
    · rename_i hc
      cases e
      obtain rfl := hx.int
      obtain rfl := hy.int
      exact op_fdivW pins s σ H _ _ v u Q I rx ry ⟨i, j, rfl, rfl, hc, q _ _ (Same.refl H) (.int _)⟩
    · cases e
  case h_2 => cases e
theorem op2_mod : Op2 X (binaryOp .Mod) bmod := by
  intro pins s σ H x y v u Q I rx ry h
  obtain ⟨F, dx, dy, r, fl, hx, hy, e, q⟩ := h
  unfold bmod at e
  split at e
  case h_1 _ _ i j =>
    split at e
    · rename_i hc
      cases e
      obtain rfl := hx.int
      obtain rfl := hy.int
      exact op_mod pins s σ H _ _ v u Q I rx ry ⟨i, j, rfl, rfl, hc, q _ _ (Same.refl H) (.int _)⟩
    · cases e
  case h_2 => cases e
theorem op2_pow : Op2 X (binaryOp .Pow) bpow := by
  intro pins s σ H x y v u Q I rx ry h
  obtain ⟨F, dx, dy, r, fl, hx, hy, e, q⟩ := h
  unfold bpow at e
  split at e
  case h_1 _ _ i j =>
    split at e
    · rename_i hc
      cases e
      obtain rfl := hx.int
      obtain rfl := hy.int
      exact op_pow pins s σ H _ _ v u Q I rx ry ⟨i, j, rfl, rfl, ⟨hc.1, by omega, hc.2.2⟩, q _ _ (Same.refl H) (.int _)⟩
    · cases e
  case h_2 => cases e
theorem foldl_cat (xs : Array Nat) : ∀ (n : Nat) (acc : Array Nat), (List.replicate n xs).foldl (· ++ ·) acc = acc ++ (List.replicate n xs.toList).flatten.toArray
  | 0, acc => by simp
  | n + 1, acc => by
    rw [List.replicate_succ, List.foldl_cons, foldl_cat xs n, List.replicate_succ, List.flatten_cons, Array.append_assoc]
    congr 1
    apply Array.ext'
    simp
theorem len_rep {α : Type} (xs : List α) (k : Int) : (rep xs k).length = k.toNat * xs.length := by
  unfold rep
  rw [PyProof.Rows.lm_len_rep_flat]
theorem op_str_mul : OpR X (binaryOp .Mult) (fun x y H Q => ∃ (z : Str) (k : Int), x = .str z ∧ y = .int k ∧ 0 ≤ k ∧ k ≤ 1000 ∧ z.length ≤ 1000 ∧ Q (.str ⟨(rep z.cps.toList k).toArray⟩) H) := by
  intro pins s σ H x y v u Q I rx ry h
  obtain ⟨z, k, rfl, rfl, h0, h1, h2, q⟩ := h
  obtain ⟨t, rfl⟩ := rx
  obtain ⟨t', rfl⟩ := ry
  have big : ∀ {n m : Nat}, n ≤ 1000 → m ≤ 1000 → n * m ≤ 1000000 := fun {n m} a b => Nat.le_trans (Nat.mul_le_mul a b) (by decide)
  refine PySem.P.mul_str (by rw [decide_eq_false (by omega), decide_eq_false (by omega)]; rfl) (fun a _ => ?_) (fun a _ => ?_) ?_
  · have : (1000 : Int) ≤ (2 ^ 63 - 1) / k := by
      rw [Int.le_ediv_iff_mul_le (by omega)]; omega
    omega
  · unfold Builtin.Str.tooLong
    rw [sizeLine_eq]
    have := big h2 (m := k.toNat) (by omega)
    exact decide_eq_false (by omega)
  · by_cases c1 : k < 1
    · rw [if_pos c1]
      have e : k = 0 := by omega
      subst e
      exact ⟨by decide, .str _, H, I.tok _, ⟨_, rfl⟩, q⟩
    · rw [if_neg c1]
      by_cases c2 : (k == 1 || z.length == 0) = true
      · rw [if_pos c2]
        have e : (⟨(rep z.cps.toList k).toArray⟩ : Str) = z := by
          rw [Bool.or_eq_true, beq_iff_eq, beq_iff_eq] at c2
          rcases c2 with rfl | c2
          · unfold rep; simp
          · have : z.cps = #[] := Array.eq_empty_of_size_eq_zero c2
            obtain ⟨cps⟩ := z
            subst this
            unfold rep; simp
        rw [e] at q
        exact ⟨.str z, H, I, ⟨_, rfl⟩, q⟩
      · rw [if_neg c2]
        rw [foldl_cat]
        have e : (#[] ++ (List.replicate k.toNat z.cps.toList).flatten.toArray : Array Nat) = (rep z.cps.toList k).toArray := by
          unfold rep; simp
        rw [e]
        have := big h2 (m := k.toNat) (by omega)
        have l := len_rep z.cps.toList k
        refine ⟨?_, .str _, H, I.tok _, ⟨_, rfl⟩, q⟩
        show (rep z.cps.toList k).toArray.size ≤ sizeLine
        rw [List.size_toArray, l, sizeLine_eq]
        have : k.toNat * z.cps.toList.length ≤ 1000000 := big (by omega) h2
        omega
theorem tuple_mul1 (l : Addr) (items : Array Value) (n : Nat) (dd : Option Addr) (sl : Array (Option Value)) (u : Tok) (hne : items.isEmpty = false) :
    Meets (Builtin.«tuple.__mul__» ⟨[.ref l, .int 1 u], []⟩) (fun _ R s => s.heap.get? l = some { cls := .type "tuple", dict := dd, data := .seq items n, slots := sl } ∧ R (.ok (.ret (Value.ref l))) s) :=
  .of_wp fun prog w A R s h => by
    obtain ⟨hp, g, d, tk, os⟩ := s
    obtain ⟨hl, h⟩ := h
    have f1 := AutoSeq1.idx_int
    wp_walk using wpAny_loadPart' hl
    exact ⟨_, rfl, h⟩
theorem op_tup_mul1 : OpR X (binaryOp .Mult) (fun x y H Q => ∃ l xs, x = .ref l ∧ y = .int 1 ∧ SqT X.K H l xs ∧ xs ≠ [] ∧ Q (.ref l) H) := by
  intro pins s σ H x y v u Q I rx ry h
  obtain ⟨l, xs, rfl, rfl, hT, hne, q⟩ := h
  cases rx
  obtain ⟨t, rfl⟩ := ry
  obtain ⟨its, r, ⟨⟨cls, dd, data, sl⟩, ho, hc, n, hd⟩, hs⟩ := I.tuple hT
  simp only at hc hd
  subst hc hd
  have hi : its.toArray.isEmpty = false := by
    cases its with
    | nil => cases r; exact absurd rfl hne
    | cons a b => rfl
  exact wpAny_binaryOp_repeat_ref (T := "tuple") (U := "int") (by decide) ⟨_, ho, rfl⟩ (fun s' => typeIs_int s' 1 t) noFill_tuple_mul F.fills_int_mul F.slot_int_rmul repeat_tuple F.slot_int_index.lookup
    (call_meets F.slot_int_rmul (typeIs_int s 1 t) F.entry_int_rmul (F.args_int_rmul_2 _ _) (int_rmul_tuple 1 t l its.toArray n dd sl)
      ⟨ho, rfl, ⟨_, ho, rfl⟩, call_meets F.slot_tuple_mul ⟨_, ho, rfl⟩ F.entry_tuple_mul (F.args_tuple_mul_2 _ _) (tuple_mul1 l its.toArray n dd sl t hi) ⟨ho, ⟨.ref l, H, I, rfl, q⟩⟩⟩)
theorem RpAll.rep {K : PySem.W.Frag} {mg : Str → Option Value} {H : Hp} {F : Fz} {xs : List V} {ds : List D} (h : RpAll K mg H F xs ds) : ∀ k : Nat, RpAll K mg H F (List.replicate k xs).flatten (List.replicate k ds).flatten
  | 0 => by simp; exact .nil
  | k + 1 => by rw [List.replicate_succ, List.replicate_succ, List.flatten_cons, List.flatten_cons]; exact h.append (h.rep k)
theorem op2_mul : Op2 X (binaryOp .Mult) bmul := by
  intro pins s σ H x y v u Q I rx ry h
  obtain ⟨F, dx, dy, r, fl, hx, hy, e, q⟩ := h
  unfold bmul at e
  split at e
  case h_1 _ _ i j =>
    split at e
    · rename_i hc
      cases e
      obtain rfl := hx.int
      obtain rfl := hy.int
      exact op_mulW pins s σ H _ _ v u Q I rx ry ⟨i, j, rfl, rfl, hc, q _ _ (Same.refl H) (.int _)⟩
    · cases e
  case h_2 _ _ z k =>
    split at e
    · rename_i hc
      cases e
      obtain rfl := hx.str
      obtain rfl := hy.int
      exact op_str_mul pins s σ H _ _ v u Q I rx ry ⟨z, k, rfl, rfl, hc.1, hc.2.1, hc.2.2, q _ _ (Same.refl H) (.str _)⟩
    · cases e
  case h_3 _ _ xs k =>
    split at e
    · rename_i hc
      cases e
      obtain ⟨a, vs, rfl, e1, r1⟩ := hx.tup
      obtain rfl := hy.int
      have hne : vs ≠ [] := fun z => hc.1 ((rpAll_nil_iff r1).mp z)
      by_cases h1 : k = 1
      · subst h1
        refine op_tup_mul1 pins s σ H _ _ v u Q I rx ry ⟨a, vs, rfl, rfl, e1, hne, q _ _ (Same.refl H) ?_⟩
        have : G.rep xs 1 = xs := by unfold G.rep; simp
        rw [this]
        exact tup_same e1 r1
      · refine op_repT pins s σ H _ _ v u Q I rx ry ⟨a, k, vs, rfl, rfl, e1, hne, by omega, hc.2.2.1, by rw [r1.length]; exact hc.2.2.2, fun p hp => ?_⟩
        obtain ⟨g, t⟩ := tup_new fl hp (r1.rep k.toNat)
        exact q _ _ g t
    · cases e
  case h_4 => cases e
def Bop.py : Bop → Operator
  | .add => .Add
  | .sub => .Sub
  | .mul => .Mult
  | .fdiv => .FloorDiv
  | .mod => .Mod
  | .pow => .Pow
theorem op2_bin (op : Bop) : Op2 X (binaryOp op.py) (bin op) := by
  cases op with
  | add => exact op2_add
  | sub => exact op2_sub
  | mul => exact op2_mul
  | fdiv => exact op2_fdiv
  | mod => exact op2_mod
  | pow => exact op2_pow
variable (hu : X.A.units + 80 < cLine)
include hu
theorem op2_eqG : Op2b X (compareOp .Eq) peq := by
  intro pins s σ H x y v u Q I rx ry h
  obtain ⟨F, dx, dy, r, hx, hy, e, q⟩ := h
  unfold peq at e
  split at e
  · rename_i hs
    cases e
    rw [Bool.and_eq_true] at hs
    exact op_eqD (by omega) pins s σ H _ _ v u Q I rx ry ⟨dx, dy, hx.dp (SeqAt.canLay_of_shaped hs.1), hy.dp (SeqAt.canLay_of_shaped hs.2), hs.1, hs.2, q⟩
  · cases e
theorem op2_ne : Op2b X (compareOp .NotEq) (fun x y => (peq x y).map (!·)) := by
  intro pins s σ H x y v u Q I rx ry h
  obtain ⟨F, dx, dy, r, hx, hy, e, q⟩ := h
  obtain ⟨b, e', rfl⟩ := Option.map_eq_some_iff.mp e
  clear e
  have e := e'
  clear e'
  unfold peq at e
  split at e
  · rename_i hs
    cases e
    rw [Bool.and_eq_true] at hs
    exact op_neD (by omega) pins s σ H _ _ v u Q I rx ry ⟨dx, dy, hx.dp (SeqAt.canLay_of_shaped hs.1), hy.dp (SeqAt.canLay_of_shaped hs.2), hs.1, hs.2, q⟩
  · cases e
omit hu in
theorem RB.reads {pins : List (Addr × Obj)} {s : Shared} {σ : L2.St} {H : Hp} {F : Fz} {x : V} {v : Value} {d : D} (I : Inv X pins σ H s) (h : RB X.K X.mg H F x d) (c : d.canLay0 = true) (r : RelV x v) : ∃ as, Reads s.heap v d as :=
  Dp.reads I d x v (h.dp c) r
theorem op2_ord {op : CmpOp} {g : D → D → Bool} (hop : ∀ (s : Shared) (a b : Value) (da db : D) (as bs : List Addr) (Q : Value → Shared → Prop), Reads s.heap a da as → Reads s.heap b db bs → PySem.W.alike da db = true → da ≠ .none → X.A.units + min da.depth db.depth < cLine → Q (.bool (g da db)) s →
    wpAny (model X.prog X.w) X.A (compareOp op a b) Q X.xe s) : Op2b X (compareOp op) (fun x y => if cmpOk x y then some (g x y) else none) := by
  intro pins s σ H x y v u Q I rx ry h
  obtain ⟨F, dx, dy, r, hx, hy, e, q⟩ := h
  dsimp only at e
  by_cases hc : cmpOk dx dy = true
  · rw [if_pos hc] at e
    cases e
    unfold cmpOk at hc
    simp only [Bool.and_eq_true] at hc
    obtain ⟨⟨⟨h1, h2⟩, h3⟩, h4⟩ := hc
    obtain ⟨as, r1⟩ := hx.reads I (SeqAt.canLay_of_shaped h3) rx
    obtain ⟨bs, r2⟩ := hy.reads I (SeqAt.canLay_of_shaped h4) ry
    have hd := SeqAt.depth_of_shaped h3
    have hm : min dx.depth dy.depth ≤ dx.depth := Nat.min_le_left _ _
    exact hop s v u dx dy as bs _ r1 r2 h2 (fun z => by rw [z] at h1; cases h1) (by omega) ⟨.bl _, H, I, rfl, q⟩
  · rw [if_neg hc] at e; cases e
theorem op2_in : Op2b X (compareOp .In) pin := by
  intro pins s σ H x y v u Q I rx ry h
  obtain ⟨F, dx, dy, r, hx, hy, e, q⟩ := h
  unfold pin at e
  split at e
  · cases e
    obtain rfl := hx.str
    obtain rfl := hy.str
    exact op_in_str pins s σ H _ _ v u Q I rx ry ⟨_, _, rfl, rfl, q⟩
  · obtain ⟨o, e1, rfl⟩ := Option.map_eq_some_iff.mp e
    obtain rfl := hx.str
    obtain ⟨a, vs, rfl, g, d⟩ := hy.dct e1
    cases ry
    refine d_in (by omega) I g rx fun s' I' => ?_
    rw [d.isSome]
    exact ⟨.bl _, H, I', rfl, q⟩
  · split at e
    · rename_i hs
      cases e
      rw [Bool.and_eq_true] at hs
      obtain ⟨as, r1⟩ := hx.reads I (SeqAt.canLay_of_shaped hs.1) rx
      obtain ⟨bs, r2⟩ := hy.reads I (SeqAt.canLay_of_shaped hs.2) ry
      exact SeqAt.in_tuple_reads r2 r1 (SeqAt.canLay_of_shaped hs.2) (SeqAt.canLay_of_shaped hs.1) (room_in_shaped hs.1 (by omega)) ⟨.bl _, H, I, rfl, q⟩
    · cases e
  · split at e
    · rename_i hs
      cases e
      rw [Bool.and_eq_true] at hs
      obtain ⟨as, r1⟩ := hx.reads I (SeqAt.canLay_of_shaped hs.1) rx
      obtain ⟨bs, r2⟩ := hy.reads I (SeqAt.canLay_of_shaped hs.2) ry
      exact SeqAt.in_list_reads r2 r1 (SeqAt.canLay_of_shaped hs.2) (SeqAt.canLay_of_shaped hs.1) (room_in_shaped hs.1 (by omega)) ⟨.bl _, H, I, rfl, q⟩
    · cases e
  · cases e
theorem op2_notIn : Op2b X (compareOp .NotIn) (fun x y => (pin x y).map (!·)) := by
  intro pins s σ H x y v u Q I rx ry h
  obtain ⟨F, dx, dy, r, hx, hy, e, q⟩ := h
  obtain ⟨b, e', rfl⟩ := Option.map_eq_some_iff.mp e
  clear e
  have e := e'
  clear e'
  unfold pin at e
  split at e
  · cases e
    obtain rfl := hx.str
    obtain rfl := hy.str
    exact op_notin_str pins s σ H _ _ v u Q I rx ry ⟨_, _, rfl, rfl, q⟩
  · obtain ⟨o, e1, rfl⟩ := Option.map_eq_some_iff.mp e
    obtain rfl := hx.str
    obtain ⟨a, vs, rfl, g, d⟩ := hy.dct e1
    cases ry
    refine d_notIn (by omega) I g rx fun s' I' => ?_
    rw [d.isSome]
    exact ⟨.bl _, H, I', rfl, q⟩
  · split at e
    · rename_i hs
      cases e
      rw [Bool.and_eq_true] at hs
      obtain ⟨as, r1⟩ := hx.reads I (SeqAt.canLay_of_shaped hs.1) rx
      obtain ⟨bs, r2⟩ := hy.reads I (SeqAt.canLay_of_shaped hs.2) ry
      exact SeqAt.notIn_tuple_reads r2 r1 (SeqAt.canLay_of_shaped hs.2) (SeqAt.canLay_of_shaped hs.1) (room_in_shaped hs.1 (by omega)) ⟨.bl _, H, I, rfl, q⟩
    · cases e
  · split at e
    · rename_i hs
      cases e
      rw [Bool.and_eq_true] at hs
      obtain ⟨as, r1⟩ := hx.reads I (SeqAt.canLay_of_shaped hs.1) rx
      obtain ⟨bs, r2⟩ := hy.reads I (SeqAt.canLay_of_shaped hs.2) ry
      exact SeqAt.notIn_list_reads r2 r1 (SeqAt.canLay_of_shaped hs.2) (SeqAt.canLay_of_shaped hs.1) (room_in_shaped hs.1 (by omega)) ⟨.bl _, H, I, rfl, q⟩
    · cases e
  · cases e
omit hu in
theorem rp_none {K : PySem.W.Frag} {mg : Str → Option Value} {H : Hp} {F : Fz} {v : V} {d : D} (h : RB K mg H F v d) : decide (v = .non) = isNone d := by
  rcases h with h | ⟨a, xs, ds, rfl, rfl, _⟩
  · cases h <;> rfl
  · rfl
omit hu in
theorem op2_isN : Op2b X (compareOp .Is) pisN := by
  intro pins s σ H x y v u Q I rx ry h
  obtain ⟨F, dx, dy, r, hx, hy, e, q⟩ := h
  unfold pisN at e
  split at e
  · cases e
    obtain rfl := hy.non
    exact op_isN pins s σ H _ _ v u Q I rx ry ⟨rfl, by rw [rp_none hx]; exact q⟩
  · cases e
omit hu in
theorem op2_notN : Op2b X (compareOp .IsNot) (fun x y => (pisN x y).map (!·)) := by
  intro pins s σ H x y v u Q I rx ry h
  obtain ⟨F, dx, dy, r, hx, hy, e, q⟩ := h
  obtain ⟨b, e', rfl⟩ := Option.map_eq_some_iff.mp e
  clear e
  have e := e'
  clear e'
  unfold pisN at e
  split at e
  · cases e
    obtain rfl := hy.non
    exact op_notN pins s σ H _ _ v u Q I rx ry ⟨rfl, by rw [rp_none hx]; exact q⟩
  · cases e
def Cop.py : Cop → CmpOp
  | .eq => .Eq
  | .ne => .NotEq
  | .lt => .Lt
  | .le => .LtE
  | .gt => .Gt
  | .ge => .GtE
  | .in_ => .In
  | .notIn => .NotIn
  | .isN => .Is
  | .notN => .IsNot
theorem op2_cmp (op : Cop) : Op2b X (compareOp op.py) (cmp op) := by
  cases op with
  | eq => exact op2_eqG hu
  | ne => exact op2_ne hu
  | lt => exact op2_ord hu fun s a b da db as bs Q r1 r2 h1 h2 h3 q => PySem.W.lt_data r1 r2 h1 h2 h3 q
  | le => exact op2_ord hu fun s a b da db as bs Q r1 r2 h1 h2 h3 q => PySem.W.le_data r1 r2 h1 h2 h3 q
  | gt => exact op2_ord hu fun s a b da db as bs Q r1 r2 h1 h2 h3 q => PySem.W.gt_data r1 r2 h1 h2 h3 q
  | ge => exact op2_ord hu fun s a b da db as bs Q r1 r2 h1 h2 h3 q => PySem.W.ge_data r1 r2 h1 h2 h3 q
  | in_ => exact op2_in hu
  | notIn => exact op2_notIn hu
  | isN => exact op2_isN
  | notN => exact op2_notN
end
end G
set_option maxHeartbeats 4000000
namespace G
open PySem PySem.Spec PyProof.Rows L2
section
variable {K : PySem.W.Frag} {mg : Str → Option Value} {H : Hp} {F : Fz}
abbrev RBs (K : PySem.W.Frag) (mg : Str → Option Value) (H : Hp) (F : Fz) : List V → List D → Prop := Paired (RB K mg H F)
theorem Rp.inv {v : V} {d : D} (h : Rp K mg H F v d) : RB K mg H F v d := .inl h
theorem atI_map {α β : Type} {R : α → β → Prop} {xs : List α} {ys : List β} {i : Int} {y : β} (hl : xs.length = ys.length) (hg : ∀ (j : Nat) (y : β), ys[j]? = some y → ∃ x, xs[j]? = some x ∧ R x y) (e : atI ys i = some y) : ∃ x, atI xs i = some x ∧ R x y := by
  unfold atI at e ⊢
  rw [hl]
  cases q : ixN ys.length i with
  | none => rw [q] at e; cases e
  | some j =>
    rw [q] at e
    obtain ⟨x, h1, h2⟩ := hg j y e
    exact ⟨x, h1, h2⟩
theorem RpAll.ints : ∀ {xs : List V} {ds : List D} {ns : List Int}, RpAll K mg H F xs ds → G.intsD ds = some ns → xs = ns.map .int
  | _, _, _, .nil, e => by cases e; rfl
  | _, _, _, .cons a b, e => by
    unfold intsD at e
    split at e
    · rename_i h; cases h
    · rename_i i r h
      cases h
      obtain ⟨m, e1, rfl⟩ := Option.map_eq_some_iff.mp e
      cases a
      rw [b.ints e1]; rfl
    · cases e
theorem RpAll.boolsV : ∀ {xs : List V} {ds : List D} {ns : List Bool}, RpAll K mg H F xs ds → G.boolsD ds = some ns → xs = ns.map .bl
  | _, _, _, .nil, e => by cases e; rfl
  | _, _, _, .cons a b, e => by
    unfold boolsD at e
    split at e
    · rename_i h; cases h
    · rename_i i r h
      cases h
      obtain ⟨m, e1, rfl⟩ := Option.map_eq_some_iff.mp e
      cases a
      rw [b.boolsV e1]; rfl
    · cases e
theorem RpAll.strsV : ∀ {xs : List V} {ds : List D} {ns : List Str}, RpAll K mg H F xs ds → G.strsD ds = some ns → xs = ns.map .str
  | _, _, _, .nil, e => by cases e; rfl
  | _, _, _, .cons a b, e => by
    unfold strsD at e
    split at e
    · rename_i h; cases h
    · rename_i i r h
      cases h
      obtain ⟨m, e1, rfl⟩ := Option.map_eq_some_iff.mp e
      cases a
      rw [b.strsV e1]; rfl
    · cases e
end
section
variable {X : Cx}
theorem ix_data (hu : X.A.units + 80 < cLine) : IxR X (fun x y H Q => ∃ F dx dy r, RB X.K X.mg H F x dx ∧ RB X.K X.mg H F y dy ∧ pix dx dy = some r ∧ ∀ v, Rp X.K X.mg H F v r → Q v H) := by
  intro value slice pins s σ H x y v u Q I rx ry h hs
  obtain ⟨F, dx, dy, r, hx, hy, e, q⟩ := h
  unfold pix at e
  split at e
  · obtain ⟨a, xs, rfl, e1, r1⟩ := hx.tup
    obtain rfl := hy.int
    obtain ⟨w, h1, h2⟩ := atI_map (R := Rp X.K X.mg H F) r1.length (fun j y e => r1.get' e) e
    exact ix_tup value slice pins s σ H _ _ v u Q I rx ry ⟨a, xs, _, w, rfl, rfl, e1, h1, q w h2⟩ hs
  · obtain ⟨a, xs, rfl, e1, r1⟩ := hx.list
    obtain rfl := hy.int
    obtain ⟨w, h1, h2⟩ := atI_map (R := Rp X.K X.mg H F) r1.length (fun j y e => r1.get' e) e
    exact ix_list value slice pins s σ H _ _ v u Q I rx ry ⟨a, xs, _, w, rfl, rfl, SqL.of e1, h1, q w h2⟩ hs
  · obtain ⟨a, xs, rfl, e1, r1⟩ := hx.scr
    obtain rfl := hy.int
    obtain ⟨w, h1, h2⟩ := atI_map (R := Rp X.K X.mg H F) r1.length (fun j y e => r1.get' e) e
    exact ix_list value slice pins s σ H _ _ v u Q I rx ry ⟨a, xs, _, w, rfl, rfl, e1, h1, q w h2⟩ hs
  · split at e
    · rename_i hz
      obtain ⟨c, e1, rfl⟩ := Option.map_eq_some_iff.mp e
      obtain rfl := hx.str
      obtain rfl := hy.int
      exact ix_str value slice pins s σ H _ _ v u Q I rx ry ⟨_, _, c, rfl, rfl, hz, e1, q _ (.str _)⟩ hs
    · cases e
  · obtain ⟨o, e1, e2⟩ := Option.bind_eq_some_iff.mp e
    cases e2
    obtain rfl := hy.str
    obtain ⟨a, vs, rfl, g, d⟩ := hx.dct e1
    obtain ⟨w, rfl, rw⟩ := d
    cases rx
    exact tail_any (dict_typeIs I g) PySem.F.slot_dict_getitem.lookup (d_getItem (by omega) I g ry fun w' s3 I3 rw' => ⟨w, H, I3, rw', q w rw⟩) hs
  · cases e
theorem sl_data : SlR X (fun x lo hi H Q => ∃ F dx r, (∀ a, F a → ∃ xs, H a = some (.lst xs)) ∧ RB X.K X.mg H F x dx ∧ psl dx lo hi = some r ∧ ∀ v H', Grow H H' → RsR X.K X.mg H H' F v r → Q v H') := by
  intro pins s σ H x v vl vu lo hi sl Q I rx hs pl pu h
  obtain ⟨F, dx, r, fl, hx, e, q⟩ := h
  unfold psl at e
  split at e
  · cases e
    rename_i ds
    obtain ⟨a, xs, rfl, e1, r1⟩ := hx.tup
    refine sl_tupA pins s σ H _ v vl vu lo hi sl Q I rx hs pl pu ⟨a, xs, rfl, e1, fun hw => ?_, fun _ p hp => ?_⟩
    · have : G.cut ds lo hi = ds := by
        unfold G.cut
        rw [← r1.length, hw.1, hw.2, List.drop_zero, r1.length, Nat.sub_zero, List.take_length]
      exact q _ _ (Same.refl H) (by rw [this]; exact tup_same e1 r1)
    · obtain ⟨g, t⟩ := tup_new fl hp (r1.cut lo hi)
      exact q _ _ g t
  · cases e
    obtain ⟨a, xs, rfl, e1, r1⟩ := hx.list
    refine sl_list pins s σ H _ v vl vu lo hi sl Q I rx hs pl pu ⟨a, xs, rfl, SqL.of e1, fun p hp => ?_⟩
    obtain ⟨g, t⟩ := lst_new fl hp (r1.cut lo hi)
    exact q _ _ g t
  · split at e
    · rename_i hz
      cases e
      obtain rfl := hx.str
      rename_i z
      refine sl_str pins s σ H _ v vl vu lo hi sl Q I rx hs pl pu ⟨z, rfl, hz, ?_⟩
      have : cutS z lo hi = ⟨(G.cut z.cps.toList lo hi).toArray⟩ := by
        unfold cutS G.cut
        rw [Array.length_toList]; rfl
      rw [this]
      exact q _ _ (Same.refl H) (.str _)
    · cases e
  · cases e
theorem tru_data : TruR X (fun x H Q => ∃ F d k, RB X.K X.mg H F x d ∧ truth d = some k ∧ Q k H) := by
  intro pins s σ H x v Q I rx h
  obtain ⟨F, d, k, hx, e, q⟩ := h
  refine tru_ok pins s σ H x v Q I rx ⟨k, ?_, q⟩
  unfold truth at e
  split at e
  · cases e; obtain rfl := hx.non; rfl
  · cases e; obtain rfl := hx.bl; rfl
  · cases e; obtain rfl := hx.int; rfl
  · split at e
    · rename_i hz
      cases e; obtain rfl := hx.str
      refine ⟨hz, ?_⟩
      rename_i z
      cases hn : z.length <;> rfl
    · cases e
  · cases e
    obtain ⟨a, xs, rfl, e1, r1⟩ := hx.list
    refine .inl ⟨xs, SqL.of e1, ?_⟩
    cases r1 <;> rfl
  · cases e
    obtain ⟨a, xs, rfl, e1, r1⟩ := hx.tup
    refine .inr (.inl ⟨xs, e1, ?_⟩)
    cases r1 <;> rfl
  · cases e
def tyName : D → String
  | .none => "NoneType"
  | .bool _ => "bool"
  | .int _ => "int"
  | .str _ => "str"
  | .list _ => "list"
  | .tuple _ => "tuple"
  | .dict _ => "dict"
theorem SqT.ty {K : PySem.W.Frag} {H : Hp} {a : Addr} {xs : List V} (h : SqT K H a xs) : TyX K H (.ref a) (.type "tuple") := by
  rcases h with (h | ⟨o, h⟩) | ⟨o, its, n, h1, h2, _⟩
  · exact .base (.tup h)
  · exact .fTuple h
  · exact .kTuple h1 h2
theorem RB.ty {K : PySem.W.Frag} {mg : Str → Option Value} {H : Hp} {F : Fz} {x : V} {d : D} (h : RB K mg H F x d) (hn : ∀ k, d ≠ .dict k) : TyX K H x (.type (tyName d)) := by
  cases d with
  | none => obtain rfl := h.non; exact .base .non
  | bool b => obtain rfl := h.bl; exact .base (.bl b)
  | int b => obtain rfl := h.int; exact .base (.int b)
  | str b => obtain rfl := h.str; exact .base (.str b)
  | list b => obtain ⟨a, xs, rfl, e, r⟩ := h.list; exact .base (.lst e)
  | tuple b => obtain ⟨a, xs, rfl, e, r⟩ := h.tup; exact SqT.ty e
  | dict b => exact absurd rfl (hn b)
def kinds : List String := ["int", "bool", "str", "list", "tuple"]
theorem kitB_of {d : D} {t : String} {b : Bool} (ht : t ∈ kinds) (h : isInst d t = some b) : kitB (tyName d) t = some b ∧ ∀ k, d ≠ .dict k := by
  unfold kinds at ht
  simp only [List.mem_cons, List.not_mem_nil, or_false] at ht
  unfold isInst at h
  split at h <;> first | cases h | skip
  all_goals (refine ⟨?_, fun k z => by cases z⟩; rcases ht with rfl | rfl | rfl | rfl | rfl <;> (simp only [tyName]; decide +kernel))
theorem isi_data : CallR X (.builtin "isinstance") (fun xs H Q => ∃ F x d t b, xs = [x, .ty t] ∧ t ∈ kinds ∧ RB X.K X.mg H F x d ∧ isInst d t = some b ∧ Q (.bl b) H) := by
  intro pins s σ H xs us Q I r h
  obtain ⟨F, x, d, t, b, rfl, ht, hx, e, q⟩ := h
  obtain ⟨e1, e2⟩ := kitB_of ht e
  exact call_isi pins s σ H _ us Q I r ⟨x, .ty t, _, _, b, rfl, .ty t, hx.ty e2, kit_ty e1, q⟩
theorem isi2_data : CallR X (.builtin "isinstance") (fun xs H Q => ∃ F x d tp t t' b b', xs = [x, .ref tp] ∧ H tp = some (.tup [.ty t, .ty t']) ∧ t ∈ kinds ∧ t' ∈ kinds ∧ RB X.K X.mg H F x d ∧ isInst d t = some b ∧ isInst d t' = some b' ∧ Q (.bl (b || b')) H) := by
  intro pins s σ H xs us Q I r h
  obtain ⟨F, x, d, tp, t, t', b, b', rfl, hT, ht, ht', hx, e, e', q⟩ := h
  obtain ⟨e1, e2⟩ := kitB_of ht e
  obtain ⟨e3, _⟩ := kitB_of ht' e'
  refine call_isiT pins s σ H _ us Q I r ⟨x, tp, [.ty t, .ty t'], _, [.type t, .type t'], b || b', rfl, hT, .cons (.ty t) (.cons (.ty t') .nil), hx.ty e2, ?_, q⟩
  refine kitAny_cons (kit_ty e1) (fun z => ?_) (fun z => by rw [z]; rfl)
  rw [z, Bool.false_or]
  exact kitAny_cons (kit_ty e3) (fun z => by rw [z]; exact kitAny_nil) (fun z => z)
def CallN (X : Cx) (f : Value) (g : List D → Option Rs) : Prop :=
  CallR X f (fun xs H Q => ∃ F ds r, (∀ a, F a → ∃ xs, H a = some (.lst xs)) ∧ RBs X.K X.mg H F xs ds ∧ g ds = some r ∧ ∀ v H', Grow H H' → RsR X.K X.mg H H' F v r → Q v H')
theorem RBs.one {K : PySem.W.Frag} {mg : Str → Option Value} {H : Hp} {F : Fz} {xs : List V} {d : D} (h : RBs K mg H F xs [d]) : ∃ x, xs = [x] ∧ RB K mg H F x d := by
  cases h with
  | cons a b => cases b; exact ⟨_, rfl, a⟩
theorem RBs.two {K : PySem.W.Frag} {mg : Str → Option Value} {H : Hp} {F : Fz} {xs : List V} {d e : D} (h : RBs K mg H F xs [d, e]) : ∃ x y, xs = [x, y] ∧ RB K mg H F x d ∧ RB K mg H F y e := by
  cases h with
  | cons a b =>
    cases b with
    | cons b c => cases c; exact ⟨_, _, rfl, a, b⟩
theorem RBs.zero {K : PySem.W.Frag} {mg : Str → Option Value} {H : Hp} {F : Fz} {xs : List V} (h : RBs K mg H F xs []) : xs = [] := by
  cases h; rfl
theorem n_len : CallN X (.builtin "len") bLen := by
  intro pins s σ H xs us Q I r h
  obtain ⟨F, ds, r1, fl, hx, e, q⟩ := h
  unfold bLen at e
  split at e
  · have hh := hx.one
    clear hx
    obtain ⟨x, rfl, hx⟩ := hh
    obtain ⟨d, e, rfl⟩ := Option.map_eq_some_iff.mp e
    unfold plen at e
    split at e
    · split at e
      · rename_i hz
        cases e
        obtain rfl := hx.str
        exact call_len pins s σ H _ us Q I r ⟨_, _, rfl, ⟨hz, rfl⟩, q _ _ (Same.refl H) (.int _)⟩
      · cases e
    · cases e
      obtain ⟨a, xs, rfl, e1, r1⟩ := hx.list
      exact call_len pins s σ H _ us Q I r ⟨_, xs.length, rfl, .inl ⟨xs, SqL.of e1, rfl⟩, by rw [r1.length]; exact q _ _ (Same.refl H) (.int _)⟩
    · cases e
      obtain ⟨a, xs, rfl, e1, r1⟩ := hx.tup
      exact call_len pins s σ H _ us Q I r ⟨_, xs.length, rfl, .inr ⟨xs, e1, rfl⟩, by rw [r1.length]; exact q _ _ (Same.refl H) (.int _)⟩
    · cases e
      obtain ⟨a, xs, rfl, e1, r1⟩ := hx.scr
      exact call_len pins s σ H _ us Q I r ⟨_, xs.length, rfl, .inl ⟨xs, e1, rfl⟩, by rw [r1.length]; exact q _ _ (Same.refl H) (.int _)⟩
    · cases e
  · cases e
theorem n_abs : CallN X (.builtin "abs") bAbs := by
  intro pins s σ H xs us Q I r h
  obtain ⟨F, ds, r1, fl, hx, e, q⟩ := h
  unfold bAbs at e
  split at e
  · cases e
    have hh := hx.one
    clear hx
    obtain ⟨x, rfl, hx⟩ := hh
    obtain rfl := hx.int
    exact call_abs pins s σ H _ us Q I r ⟨_, rfl, q _ _ (Same.refl H) (.int _)⟩
  · cases e
theorem n_int : CallN X (.type "int") bInt := by
  intro pins s σ H xs us Q I r h
  obtain ⟨F, ds, r1, fl, hx, e, q⟩ := h
  unfold bInt at e
  split at e
  · cases e
    have hh := hx.one
    clear hx
    obtain ⟨x, rfl, hx⟩ := hh
    obtain rfl := hx.int
    exact call_int1 pins s σ H _ us Q I r (.inl ⟨_, rfl, q _ _ (Same.refl H) (.int _)⟩)
  · cases e
    have hh := hx.one
    clear hx
    obtain ⟨x, rfl, hx⟩ := hh
    obtain rfl := hx.bl
    exact call_int1 pins s σ H _ us Q I r (.inr ⟨_, rfl, q _ _ (Same.refl H) (.int _)⟩)
  · split at e
    · rename_i hz
      obtain ⟨n, e1, rfl⟩ := Option.map_eq_some_iff.mp e
      have hh := hx.one
      clear hx
      obtain ⟨x, rfl, hx⟩ := hh
      obtain rfl := hx.str
      exact call_int_str pins s σ H _ us Q I r ⟨_, n, rfl, e1, hz, q _ _ (Same.refl H) (.int _)⟩
    · cases e
  · cases e
theorem n_str : CallN X (.type "str") bStr := by
  intro pins s σ H xs us Q I r h
  obtain ⟨F, ds, r1, fl, hx, e, q⟩ := h
  unfold bStr at e
  split at e
  · split at e
    · rename_i hz
      cases e
      have hh := hx.one
      clear hx
      obtain ⟨x, rfl, hx⟩ := hh
      obtain rfl := hx.int
      exact call_str_int pins s σ H _ us Q I r ⟨_, rfl, hz, q _ _ (Same.refl H) (.str _)⟩
    · cases e
  · cases e
    have hh := hx.one
    clear hx
    obtain ⟨x, rfl, hx⟩ := hh
    obtain rfl := hx.str
    exact SkE.call_str_str pins s σ H _ us Q I r ⟨_, rfl, q _ _ (Same.refl H) (.str _)⟩
  · cases e
theorem n_min (hc : X.calm = true) : CallN X (.builtin "min") bMin := by
  intro pins s σ H xs us Q I r h
  obtain ⟨F, ds, r1, fl, hx, e, q⟩ := h
  unfold bMin at e
  split at e
  · cases e
    have hh := hx.two
    clear hx
    obtain ⟨x, y, rfl, hx, hy⟩ := hh
    obtain rfl := hx.int
    obtain rfl := hy.int
    exact call_min2 hc pins s σ H _ us Q I r ⟨_, _, rfl, q _ _ (Same.refl H) (.int _)⟩
  · cases e
theorem n_max (hc : X.calm = true) : CallN X (.builtin "max") bMax := by
  intro pins s σ H xs us Q I r h
  obtain ⟨F, ds, r1, fl, hx, e, q⟩ := h
  unfold bMax at e
  split at e
  · cases e
    have hh := hx.two
    clear hx
    obtain ⟨x, y, rfl, hx, hy⟩ := hh
    obtain rfl := hx.int
    obtain rfl := hy.int
    exact call_max2 hc pins s σ H _ us Q I r ⟨_, _, rfl, q _ _ (Same.refl H) (.int _)⟩
  · cases e
theorem n_list : CallN X (.type "list") bList := by
  intro pins s σ H xs us Q I r h
  obtain ⟨F, ds, r1, fl, hx, e, q⟩ := h
  unfold bList at e
  split at e
  · cases e
    have hh := hx.one
    clear hx
    obtain ⟨x, rfl, hx⟩ := hh
    obtain ⟨a, xs, rfl, e1, r1⟩ := hx.list
    refine call_list_of pins s σ H _ us Q I r ⟨a, xs, rfl, .inl (SqL.of e1), fun l hl => ?_⟩
    obtain ⟨g, t⟩ := lst_new fl hl r1
    exact q _ _ g t
  · cases e
    have hh := hx.one
    clear hx
    obtain ⟨x, rfl, hx⟩ := hh
    obtain ⟨a, xs, rfl, e1, r1⟩ := hx.tup
    refine call_list_of pins s σ H _ us Q I r ⟨a, xs, rfl, .inr e1, fun l hl => ?_⟩
    obtain ⟨g, t⟩ := lst_new fl hl r1
    exact q _ _ g t
  · cases e
theorem n_tuple : CallN X (.type "tuple") bTuple := by
  intro pins s σ H xs us Q I r h
  obtain ⟨F, ds, r1, fl, hx, e, q⟩ := h
  unfold bTuple at e
  split at e
  · cases e
    have hh := hx.one
    clear hx
    obtain ⟨x, rfl, hx⟩ := hh
    obtain ⟨a, xs, rfl, e1, r1⟩ := hx.list
    refine call_tuple_of pins s σ H _ us Q I r ⟨a, xs, rfl, .inl ⟨SqL.of e1, fun l hl => ?_⟩⟩
    obtain ⟨g, t⟩ := tup_new fl hl r1
    exact q _ _ g t
  · cases e
    have hh := hx.one
    clear hx
    obtain ⟨x, rfl, hx⟩ := hh
    obtain ⟨a, xs, rfl, e1, r1⟩ := hx.tup
    exact call_tuple_of pins s σ H _ us Q I r ⟨a, xs, rfl, .inr ⟨e1, q _ _ (Same.refl H) (tup_same e1 r1)⟩⟩
  · cases e
theorem n_all (hc : X.calm = true) : CallN X (.builtin "all") bAll := by
  intro pins s σ H xs us Q I r h
  obtain ⟨F, ds, r1, fl, hx, e, q⟩ := h
  unfold bAll at e
  split at e
  · have hh := hx.one
    clear hx
    obtain ⟨x, rfl, hx⟩ := hh
    obtain ⟨bs, e', rfl⟩ := Option.map_eq_some_iff.mp e
    obtain ⟨a, xs, rfl, e1, r1⟩ := hx.list
    obtain rfl := r1.boolsV e'
    exact cr_all hc pins s σ H _ us Q I r ⟨a, bs, rfl, SqL.of e1, q _ _ (Same.refl H) (.bl _)⟩
  · cases e
theorem n_any (hc : X.calm = true) : CallN X (.builtin "any") bAny := by
  intro pins s σ H xs us Q I r h
  obtain ⟨F, ds, r1, fl, hx, e, q⟩ := h
  unfold bAny at e
  split at e
  · have hh := hx.one
    clear hx
    obtain ⟨x, rfl, hx⟩ := hh
    obtain ⟨bs, e', rfl⟩ := Option.map_eq_some_iff.mp e
    obtain ⟨a, xs, rfl, e1, r1⟩ := hx.list
    obtain rfl := r1.boolsV e'
    exact cr_any hc pins s σ H _ us Q I r ⟨a, bs, rfl, SqL.of e1, q _ _ (Same.refl H) (.bl _)⟩
  · cases e
def pairR (K : PySem.W.Frag) (mg : Str → Option Value) (H : Hp) (F : Fz) (u : Value) (p : D × V) : Prop := RelV p.2 u ∧ Rp K mg H F p.2 p.1
theorem each_pairs {K : PySem.W.Frag} {mg : Str → Option Value} {H : Hp} {F : Fz} : ∀ {xs : List V} {ds : List D} {us : List Value}, RpAll K mg H F xs ds → Vals xs us → PySem.W.EachIs (pairR K mg H F) us (ds.zip xs)
  | _, _, _, .nil, .nil => .nil
  | _, _, _, .cons a b, .cons r t => .cons ⟨r, a⟩ (each_pairs b t)
theorem pairs_back {K : PySem.W.Frag} {mg : Str → Option Value} {H : Hp} {F : Fz} : ∀ {us : List Value} {ps : List (D × V)}, PySem.W.EachIs (pairR K mg H F) us ps → Vals (ps.map (·.2)) us ∧ RpAll K mg H F (ps.map (·.2)) (ps.map (·.1))
  | _, _, .nil => ⟨.nil, .nil⟩
  | _, _, .cons ⟨r, a⟩ t => ⟨.cons r (pairs_back t).1, .cons a (pairs_back t).2⟩
theorem zip_fst {α β : Type} : ∀ {xs : List α} {ys : List β}, xs.length = ys.length → (xs.zip ys).map (·.1) = xs
  | [], _, _ => by simp
  | _ :: _, [], h => by simp at h
  | x :: xs, y :: ys, h => by simp [zip_fst (xs := xs) (ys := ys) (by simpa using h)]
theorem n_sorted (hu : X.A.units + 80 < cLine) : CallN X (.builtin "sorted") bSorted := by
  intro pins s σ H xs us Q I r h
  obtain ⟨F, ds, r1, fl, hx, e, q⟩ := h
  unfold bSorted at e
  split at e
  · split at e
    · rename_i ds hs
      cases e
      have hh := hx.one
      clear hx
      obtain ⟨x, rfl, hx⟩ := hh
      obtain ⟨a, xs, rfl, e1, r1⟩ := hx.list
      rw [Vals.ref1 r]
      unfold sortOk at hs
      simp only [Bool.and_eq_true] at hs
      obtain ⟨⟨⟨h1, h2⟩, h3⟩, h4⟩ := hs
      obtain ⟨its, rv, hl, hz⟩ := I.list (SqL.of e1)
      have ef : (ds.zip xs).map (·.1) = ds := zip_fst r1.length.symm
      have al : PySem.W.AllAlike ((ds.zip xs).map (fun p : D × V => p.1)) := by
        rw [ef]
        exact fun d hd d' hd' => List.all_eq_true.mp (List.all_eq_true.mp h1 d hd) d' hd'
      have sh : ∀ d ∈ ds, SeqAt.shaped d = true := List.all_eq_true.mp h2
      have memf : ∀ p ∈ ds.zip xs, p.1 ∈ ds := fun p hp => by
        have := List.mem_map_of_mem (f := fun p : D × V => p.1) hp
        rwa [ef] at this
      have reads : ∀ {us : List Value} {ps : List (D × V)}, (∀ p ∈ ps, SeqAt.shaped p.1 = true) → PySem.W.EachIs (pairR X.K X.mg H F) us ps → PySem.W.EachIs (fun v (b : D × V) => ∃ as, Reads s.heap v b.1 as) us ps := by
        intro us ps hp e
        induction e with
        | nil => exact .nil
        | cons a t ih => exact .cons (Dp.reads I _ _ _ (a.2.dp _ (SeqAt.canLay_of_shaped (hp _ List.mem_cons_self))) a.1) (ih fun p m => hp p (List.mem_cons_of_mem _ m))
      refine PySem.W.sorted_data (bs := ds.zip xs) (enc := fun p : D × V => p.1) hl.isList (each_pairs r1 rv) (reads (fun p hp => sh _ (memf p hp)) (each_pairs r1 rv)) al ?_ ?_ ?_ ?_
      · rw [ef]
        rw [Bool.or_eq_true] at h4
        rcases h4 with h4 | h4
        · refine .inl fun d hd => ?_
          have := List.all_eq_true.mp h4 d hd
          unfold isTupC at this
          split at this
          · exact ⟨_, _, rfl⟩
          · cases this
        · refine .inr fun d hd => ?_
          have := List.all_eq_true.mp h4 d hd
          cases d <;> simp at this <;> exact ⟨(by intro z; cases z), fun ys z => by cases z⟩
      · rw [List.length_zip, r1.length, Nat.min_self]
        exact of_decide_eq_true h3
      · intro b hb
        have := SeqAt.depth_of_shaped (sh _ (memf b hb))
        show X.A.units + 2 + b.1.depth < cLine
        omega
      · intro out ho eo
        obtain ⟨ep, he'⟩ := PyProof.Rows.sortedAll_at s.heap its out.toArray
        obtain ⟨k1, k2⟩ := pairs_back eo
        have hlen : ((List.mergeSort (ds.zip xs) (PySem.W.dataLe false fun p : D × V => p.1)).map (·.2)).length ≤ sizeLine := by
          rw [List.length_map, List.length_mergeSort, List.length_zip, r1.length, Nat.min_self]
          exact of_decide_eq_true h3
        have em : (List.mergeSort (ds.zip xs) (PySem.W.dataLe false fun p : D × V => p.1)).map (·.1) = sortD ds := by
          have z := List.map_mergeSort (l := ds.zip xs) (r := PySem.W.dataLe false (fun p : D × V => p.1)) (s := PySem.W.dataLe false (fun x : D => x)) (f := fun p : D × V => p.1) (fun a _ b _ => rfl)
          rw [ef] at z
          exact z
        rw [em] at k2
        have nf := I.hok.fresh (a := s.heap.objs.size + 1) (Nat.le_succ _)
        obtain ⟨g, t⟩ := lst_new (X := X) fl nf k2
        exact ⟨.ref _, _, I.laid (o := .lst ((List.mergeSort (ds.zip xs) (PySem.W.dataLe false fun p : D × V => p.1)).map (·.2))) (t' := s.toks) (fun _ _ => PyProof.Rows.sortedAll_old) (Nat.le_succ _) ⟨hlen, out, ep, k1, he'⟩, rfl, q _ _ g t⟩
    · cases e
  · cases e
end
end G
set_option maxHeartbeats 4000000
namespace G
open PySem PySem.Spec PyProof.Rows L2
theorem peImp {X : Cx} {e : Expr} {t t' : TE} (h : PE X e t) (i : ∀ σ H Q, t' σ H Q → t σ H Q) : PE X e t' := ⟨fun pins s σ H Q I q => h.run pins s σ H Q I (i σ H Q q)⟩
theorem ptImp {X : Cx} {e : Expr} {t t' : TT} (h : PT X e t) (i : ∀ σ H Q, t' σ H Q → t σ H Q) : PT X e t' := ⟨fun pins s σ H Q I q => h.run pins s σ H Q I (i σ H Q q)⟩
theorem pwImp {X : Cx} {e : Expr} {t t' : TT} (h : PW X e t) (i : ∀ σ H Q, t' σ H Q → t σ H Q) : PW X e t' := ⟨fun wh pins s σ H Q I q => h.run wh pins s σ H Q I (i σ H Q q)⟩
theorem paImp {X : Cx} {es : List Expr} {t t' : TA} (h : PA X es t) (i : ∀ σ H Q, t' σ H Q → t σ H Q) : PA X es t' := ⟨fun pos pins s σ H Q I q => h.run pos pins s σ H Q I (i σ H Q q)⟩
theorem poImp {X : Cx} {e : Option Expr} {t t' : TO} (h : PO X e t) (i : ∀ σ H Q, t' σ H Q → t σ H Q) : PO X e t' := ⟨fun pins s σ H Q I q => h.run pins s σ H Q I (i σ H Q q)⟩
section
variable {K : PySem.W.Frag} {mg : Str → Option Value} {c : Fc} {W : WX} {σ : L2.St} {H H' H1 : Hp} {F F' F1 : Fz} {ρ ρ' : Rho} {α : Type} {P : α → Rho → Hp → Fz → Prop}
theorem Post.use {r : RV} {k : D × Rho → Out (α × Rho)} (h : Post K mg c W σ H F ((M.use r ρ).bind k) P) : ∃ d, M.look ρ r = some d ∧ Post K mg c W σ H F (k (d, ρ)) P := by
  unfold M.use at h
  cases e : M.look ρ r with
  | none => rw [e] at h; exact h.elim
  | some d => rw [e] at h; exact ⟨d, rfl, h⟩
theorem Post.opt {β : Type} {o : Option β} {k : β × Rho → Out (α × Rho)} (h : Post K mg c W σ H F ((M.opt o ρ).bind k) P) : ∃ d, o = some d ∧ Post K mg c W σ H F (k (d, ρ)) P := by
  cases o with
  | none => exact h.elim
  | some d => exact ⟨d, rfl, h⟩
theorem Post.opt' {o : Option α} (h : Post K mg c W σ H F (M.opt o ρ) P) : ∃ d, o = some d ∧ Post K mg c W σ H F (.ok (d, ρ)) P := by
  cases o with
  | none => exact h.elim
  | some d => exact ⟨d, rfl, h⟩
theorem Post.asInt {d : D} {k : Int × Rho → Out (α × Rho)} (h : Post K mg c W σ H F ((G.asInt d ρ).bind k) P) : ∃ i, d = .int i ∧ Post K mg c W σ H F (k (i, ρ)) P := by
  cases d <;> first | exact h.elim | exact ⟨_, rfl, h⟩
theorem Post.asBool {d : D} {k : Bool × Rho → Out (α × Rho)} (h : Post K mg c W σ H F ((G.asBool d ρ).bind k) P) : ∃ i, d = .bool i ∧ Post K mg c W σ H F (k (i, ρ)) P := by
  cases d <;> first | exact h.elim | exact ⟨_, rfl, h⟩
theorem Post.rs {o : Option Rs} {P : RV → Rho → Hp → Fz → Prop} (R : Rel K mg c σ H F ρ) (h : Post K mg c W σ H F (rsRV o ρ) P) : ∃ r, o = some r ∧ ∀ H', Grow H H' → P r.rv ρ H' F := by
  unfold rsRV at h
  cases o with
  | none => exact h.elim
  | some r => exact ⟨r, rfl, fun H' g => h H' F (R.mon g) (R.grow g)⟩
end
structure Sco where
  N : List Str
  sc : Scope
  pres : Str → Bool
  exc : Str → Bool
  fnB : Str → Bool
  tb : List (Addr × Str)
  told : Bool
def bltNames : List Str := ["len", "abs", "int", "str", "min", "max", "list", "tuple", "sorted", "all", "any", "set", "range", "enumerate", "zip", "isinstance", "dict", "bool"]
def ioOf : List V → List Cell → Nat → List (Nat × Addr)
  | .ref a :: vs, .own _ :: cs, k => (k, a) :: ioOf vs cs (k + 1)
  | _ :: vs, _ :: cs, k => ioOf vs cs (k + 1)
  | _, _, _ => []
section
variable (K : PySem.W.Frag) (mg : Str → Option Value)
def AR (H : Hp) (F : Fz) (v : V) : Cell → Prop
  | .val d => Rp K mg H F v d
  | .own ds => ∃ a xs, v = .ref a ∧ H a = some (.lst xs) ∧ RpAll K mg H F xs ds ∧ ¬ F a
def OutsR (H' : Hp) (F' : Fz) : List V → List Cell → List (List D) → Prop
  | [], [], [] => True
  | _ :: vs, .val _ :: cs, os => OutsR H' F' vs cs os
  | v :: vs, .own _ :: cs, o :: os => (∃ a xs, v = .ref a ∧ H' a = some (.lst xs) ∧ RpAll K mg H' F' xs o) ∧ OutsR H' F' vs cs os
  | _, _, _ => False
def RsF (H H' : Hp) (F' : Fz) (v : V) : Rs → Prop
  | .val d => Rp K mg H' F' v d
  | .fresh ds => ∃ a xs, v = .ref a ∧ H' a = some (.lst xs) ∧ RpAll K mg H' F' xs ds ∧ ¬ F' a ∧ H a = none
def PostF (tb : List (Addr × Str)) (H : Hp) (F : Fz) (vs : List V) (cs : List Cell) (Q : VK) (E : XK) : Out (Rs × List (List D)) → Prop
  | .ok (r, os) => ∀ v H' F', Fr ⟨H, F, ioOf vs cs 0, [], tb⟩ H' F' → OutsR K mg H' F' vs cs os → RsF K mg H H' F' v r → Q v H'
  | .exc e l => ∀ cls d H' F', Fr ⟨H, F, ioOf vs cs 0, [], tb⟩ H' F' → ExcR mg e l cls d H' → E cls d H'
  | .stuck => False
def spOf (tb : List (Addr × Str)) (m : FM) : Sp := fun vs H Q E => ∃ F cs, (∀ a, F a → ∃ xs, H a = some (.lst xs)) ∧ LamX.Tabs tb H ∧ Paired (AR K mg H F) vs cs ∧
  (∀ (i j : Nat) (a : Addr) (xs ys : List D), cs[i]? = some (.own xs) → cs[j]? = some (.own ys) → vs[i]? = some (.ref a) → vs[j]? = some (.ref a) → i = j) ∧ PostF K mg tb H F vs cs Q E (m cs)
end
def FnS (P : Program) (w : World) (K : PySem.W.Frag) (mg : Str → Option Value) (base : Heap) (tb : List (Addr × Str)) (k : Nat) (x : Str) (m : FM) : Prop :=
  ∃ f fd ps, mg x = some (.ref f) ∧ PySem.W.keepIn K (.ref f) = true ∧ Binds K fd ps [] ∧ FnOk P w K mg base (L2N.CX P w) k f fd ps (spOf K mg tb m)
def CstS (K : PySem.W.Frag) (mg : Str → Option Value) (x : Str) (d : D) : Prop := ∃ v u, mg x = some u ∧ RelV v u ∧ ∀ H F, Rp K mg H F v d
def KdS (w : World) (K : PySem.W.Frag) (mg : Str → Option Value) (x : Str) (kvs : List (D × D)) : Prop := ∃ (a : Addr) (es : Array DictEntry) (n : Nat), mg x = some (.ref a) ∧ KDict K w a es n ∧
  ∀ (z : Str) (o : Option D), dfind kvs z = some o → ∃ r, PySem.W.nsIn K a z = some r ∧ r.isSome = o.isSome ∧ ∀ d, o = some d → ∃ y u, d = .str y ∧ r = some u ∧ RelV (.str y) u
def CstW (w : World) (K : PySem.W.Frag) (mg : Str → Option Value) (x : Str) (d : D) : Prop := (∃ kvs, d = .dict kvs ∧ KdS w K mg x kvs) ∨ ((∀ kvs, d ≠ .dict kvs) ∧ CstS K mg x d)
theorem gval_some {o : Option D} {d : D} (h : gval o = some d) : o = some d ∧ ∀ kvs, d ≠ .dict kvs := by
  unfold gval at h
  split at h
  · cases h
  · rename_i q
    exact ⟨h, fun kvs z => q kvs (by rw [h, z])⟩
theorem ginV_some {kvs : List (D × D)} {d : D} {b : Bool} (h : ginV kvs d = some b) : ∃ z o, d = .str z ∧ dfind kvs z = some o ∧ b = o.isSome := by
  cases d <;> first | (cases h; done) | skip
  rename_i z
  obtain ⟨o, e, rfl⟩ := Option.map_eq_some_iff.mp (show (dfind kvs z).map (·.isSome) = some b from h)
  exact ⟨z, o, rfl, e, rfl⟩
theorem gixV_some {kvs : List (D × D)} {d r : D} (h : gixV kvs d = some r) : ∃ z, d = .str z ∧ dfind kvs z = some (some r) := by
  cases d <;> first | (cases h; done) | skip
  rename_i z
  obtain ⟨o, e, e2⟩ := Option.bind_eq_some_iff.mp (show (dfind kvs z).bind id = some r from h)
  cases e2
  exact ⟨z, rfl, e⟩
def ExcS (K : PySem.W.Frag) (mg : Str → Option Value) (x : Str) : Prop := ∃ (C : Addr) (B newId initId : String) (bmB : List Value) (_ : ExcBaseFacts B newId initId bmB), mg x = some (.ref C) ∧ PySem.W.keepIn K (.ref C) = true ∧ PySem.W.excIn K C bmB newId = true ∧
  PySem.W.subIn K (.ref C) (.type "BaseException") = some true ∧ PySem.W.typeIn K (.ref C) = some (.type "type")
def TTn (mg : Str → Option Value) (exc : Str → Bool) (tl : XK → Hp → VK → Prop) (H : Hp) (Q : VK) : Prop :=
  tl (fun cls d H' => ∃ (x : Str) (C : Addr), exc x = true ∧ mg x = some (.ref C) ∧ cls = .ref C ∧ d = none ∧ ∀ H'' p, Same H' H'' → H'' p = none → Q (.ref p) (upd H'' p (.tup [.str (x ++ " +")]))) H
    fun v H1 => ∀ p, H1 p = none → Q (.ref p) (upd H1 p (.tup [.str "told", v]))
def ToldR (P : Program) (w : World) (K : PySem.W.Frag) (mg : Str → Option Value) (base : Heap) (exc : Str → Bool) : Prop :=
  ∃ (g : Addr) (gd : FuncData) (st : Stmt) (Ng : List Str) (a : Str), mg "_law_told" = some (.ref g) ∧ L2.Fun K "_law_told" "_law_told" st g gd ∧ Binds K gd [a] [] ∧ FnScope Ng [a] (defScope st) ∧ Ng[0]? = some a ∧ Vis (defScope st) a ∧ (a == ("__debug__" : Str)) = false ∧ (a == ("__classdict__" : Str)) = false ∧
    ∀ (cd : Value) (A : Around) (outer : List Env) (f c' : Addr) (q : Str) (s : Shared) (H : Hp) (Q : VK) (tl : XK → Hp → VK → Prop) (k : Nat), Room (k + 1) (A.deeper (envOfC "_law_told" (defScope st) s.heap.objs.size g cd)) →
      (∀ (W : WX) (pn : List (Addr × Obj)) (xe : Value → Shared → Prop) (E : XK) (p1 p2 : Pos), L2N.Takes ((cxOf CX0 P w K mg base Ng "_law_told" (defScope st) g cd A outer s H E0).tr pn xe) W → (∀ cls d σ' H', E cls d H' → W cls d σ' H') →
        PE ((cxOf CX0 P w K mg base Ng "_law_told" (defScope st) g cd A outer s H E0).tr pn xe) (.Call (.Name a p1) [] [] p2) (fun σZ HZ Q => σZ[0]? = some (some (.ref f)) ∧ HZ c' = some (LamX.CodeO c' q) ∧ tl E HZ Q)) →
      H c' = some (LamX.CodeO c' q) → TTn mg exc tl H Q →
      ∃ t, PSs (cxOf CX0 P w K mg base Ng "_law_told" (defScope st) g cd A outer s H E0).nox (defBody st) t ∧ t { nx := fun _ H' => Q .non H', rt := Q } (L2.start Ng [.ref f]) H
def LamAt (base : Heap) (mg : Str → Option Value) (code : Value) (qual : Str) (tb : List (Addr × Str)) : Prop := ∃ cA P, LamX.TabB base mg cA P ∧ code = .ref cA ∧ (P, qual ++ "<lambda>") ∈ tb ∧ ∀ p ∈ tb, p.1 = P → p.2 = qual ++ "<lambda>"
structure Env1 (X : Cx) (c : Fc) (W : WX) (C : Cfg) (S : Sco) (k : Nat) : Prop where
  calm : X.calm = true
  nd : X.N.Nodup
  names : X.N = S.N
  scope : X.env.scope = S.sc
  takes : L2N.Takes X W
  po : PassesOwn (model X.prog X.w) X.A X.env X.xe
  room : Room k X.A
  ios : ∀ p ∈ c.io, p.1 ∈ C.ios
  fns : ∀ x, S.pres x = true → FnS X.prog X.w X.K X.mg X.base S.tb k x (C.Φ x)
  cst : ∀ x d, C.Γ x = some d → CstW X.w X.K X.mg x d
  blt : ∀ x ∈ bltNames, X.mg x = none
  exc : ∀ x, S.exc x = true → ExcS X.K X.mg x
  fn : ∀ x, S.fnB x = true → X.fn x = true
  tabs : LamX.Tabs S.tb c.H0
  tbs : c.tb = S.tb
  low : ∀ Φ2, C.Φ2 = some Φ2 → ∃ j, k = j + 2 ∧ ∀ x, S.pres x = true → FnS X.prog X.w X.K X.mg X.base S.tb j x (Φ2 x)
  excE : ∀ x, C.exc x = true → S.exc x = true
  hz : S.told = true → X.H_0 = c.H0 ∧ c.tm = []
  told : S.told = true → ToldR X.prog X.w X.K X.mg X.base S.exc ∧ LamAt X.base X.mg X.env.code X.env.qual S.tb
theorem orsMono {K : PySem.W.Frag} {mg : Str → Option Value} {σ : L2.St} {H H' : Hp} {F F' : Fz} (m : Mon H F H' F') : ∀ {vs : List V} {rs : List RV}, Paired (OR K mg σ H F) vs rs → Paired (OR K mg σ H' F') vs rs
  | _, _, .nil => .nil
  | _, _, .cons a b => .cons (a.mono m) (orsMono m b)
section
variable {X : Cx} {c : Fc} {W : WX} {C : Cfg} {S : Sco} {k : Nat} (V1 : Env1 X c W C S k)
include V1
theorem Env1.hu : X.A.units + 80 < cLine := by have := V1.room.un; omega
omit V1 in
theorem px_pure {e : Expr} {v : V} {d : D} (h : PE X e (tC v)) (r : ∀ H F, Rp X.K X.mg H F v d) : PX X c W e (M.pure (.val d)) :=
  peImp h fun σ H Q ⟨F, ρ, R, p⟩ => Post.here p R v (r _ _)
omit V1 in
theorem px_slot {i : Nat} {e : Expr} (h : PE X e (tVar i)) : PX X c W e (M.get i) := by
  refine peImp h fun σ H Q ⟨F, ρ, R, p⟩ => ?_
  unfold M.get at p
  split at p
  · rename_i d hi
    obtain ⟨v, e1, e2⟩ := R.cel i _ hi
    exact ⟨v, e1, Post.here p R v e2⟩
  · rename_i ds hi
    obtain ⟨v, e1, e2⟩ := R.cel i _ hi
    exact ⟨v, e1, Post.here p R v e1⟩
  · exact p.elim
theorem two {a b : Expr} {fa fb : M RV} {σ : L2.St} {H : Hp} {α : Type} {g : D → D → M α} {P : α → Rho → Hp → Fz → Prop} {R2 : V → V → Hp → Prop}
    (h : ∃ F ρ, Rel X.K X.mg c σ H F ρ ∧ Post X.K X.mg c W σ H F (M.bind fa (fun ra => M.bind fb fun rb => M.bind (M.use (M.settle ra)) fun x => M.bind (M.use rb) fun y => g x y) ρ) P)
    (k : ∀ x y H2 F2 ρ2 dx dy, Rel X.K X.mg c σ H2 F2 ρ2 → RB X.K X.mg H2 F2 x dx → RB X.K X.mg H2 F2 y dy → Post X.K X.mg c W σ H2 F2 (g dx dy ρ2) P → R2 x y H2) :
    rd X c W fa σ H fun x H1 => rd X c W fb σ H1 fun y H2 => R2 x y H2 := by
  obtain ⟨F, ρ, R, p⟩ := h
  refine ⟨F, ρ, R, (Post.bind p).mono fun ra ρ1 H1 F1 m1 R1 p1 v rv => ?_⟩
  obtain ⟨F1', m1', R1', o1⟩ := R1.settle rv
  refine ⟨F1', ρ1, R1', (Post.bind (Post.base m1' p1)).mono fun rb ρ2 H2 F2 m2 R2 p2 u ru => ?_⟩
  obtain ⟨x, ex, p3⟩ := Post.use p2
  obtain ⟨y, ey, p4⟩ := Post.use p3
  exact k v u H2 F2 ρ2 x y R2 (R2.look (o1.mono m2) ex) (R2.lookR ru ey) p4
theorem px_bin {a b : Expr} {fa fb : M RV} {pos : Pos} (op : Bop) (ha : PX X c W a fa) (hb : PX X c W b fb) :
    PX X c W (.BinOp a op.py b pos) (M.bind fa fun ra => M.bind fb fun rb => M.bind (M.use (M.settle ra)) fun x => M.bind (M.use rb) fun y => rsRV (bin op x y)) := by
  refine peImp (pe_op (op2_bin op) ha hb) fun σ H Q h => two V1 (a := a) (b := b) h fun x y H2 F2 ρ2 dx dy R hx hy p => ?_
  obtain ⟨r, e, q⟩ := Post.rs R p
  exact ⟨F2, dx, dy, r, R.fr.fl, hx, hy, e, fun v H' g rs => q H' g v (R.rs g rs)⟩
theorem px_neg {a : Expr} {fa : M RV} {pos : Pos} (ha : PX X c W a fa) : PX X c W (.UnaryOp .USub a pos) (M.bind fa fun ra => M.bind (M.use ra) fun x => M.bind (asInt x) fun i => M.pure (.val (.int (-i)))) := by
  refine peImp (pe_un un_neg ha) fun σ H Q ⟨F, ρ, R, p⟩ => ⟨F, ρ, R, (Post.bind p).mono fun ra ρ1 H1 F1 m1 R1 p1 v rv => ?_⟩
  obtain ⟨x, ex, p2⟩ := Post.use p1
  obtain ⟨i, rfl, p3⟩ := Post.asInt p2
  obtain rfl := (R1.lookR rv ex).int
  exact ⟨i, rfl, Post.here p3 R1 _ (.int _)⟩
theorem px_gin {a : Expr} {x : Str} {kvs : List (D × D)} {fa : M RV} {pos p : Pos} (hk : KdS X.w X.K X.mg x kvs) (hg : Gl X x) (hd : (x == ("__debug__" : Str)) = false) (hm : behindInMarks .In (.Name x p) = false) (ha : PX X c W a fa) :
    PX X c W (.Compare a [.In] [.Name x p] pos) (M.bind fa fun ra => M.bind (M.use ra) fun d => M.bind (M.opt (ginV kvs d)) bV) := by
  obtain ⟨q, es, n, e1, kd, hv⟩ := hk
  refine peImp (pe_cmpR (op_in_kd kd) ha (pe_glob (v := .ref q) hg e1 rfl hd) hm) fun σ H Q ⟨F, ρ, R, p⟩ => ⟨F, ρ, R, (Post.bind p).mono fun ra ρ1 H1 F1 m1 R1 p1 v rv => ?_⟩
  obtain ⟨d, ed, p2⟩ := Post.use p1
  obtain ⟨r, er, p3⟩ := Post.opt p2
  obtain ⟨z, o, rfl, eo, rfl⟩ := ginV_some er
  obtain ⟨r, e3, e4, _⟩ := hv z o eo
  obtain rfl := (R1.lookR rv ed).str
  refine ⟨z, r, rfl, rfl, e3, ?_⟩
  rw [e4]
  exact Post.here p3 R1 _ (.bl _)
theorem pt_gin {a : Expr} {x : Str} {kvs : List (D × D)} {fa : M RV} {pos p : Pos} (hk : KdS X.w X.K X.mg x kvs) (hg : Gl X x) (hd : (x == ("__debug__" : Str)) = false) (hm : behindInMarks .In (.Name x p) = false) (ha : PX X c W a fa) :
    PTX X c W (.Compare a [.In] [.Name x p] pos) (M.bind fa fun ra => M.bind (M.use ra) fun d => M.opt (ginV kvs d)) := by
  obtain ⟨q, es, n, e1, kd, hv⟩ := hk
  refine ptImp (pt_cmpR (op_in_kd kd) ha (pe_glob (v := .ref q) hg e1 rfl hd) hm) fun σ H Q ⟨F, ρ, R, p⟩ => ⟨F, ρ, R, (Post.bind p).mono fun ra ρ1 H1 F1 m1 R1 p1 v rv => ?_⟩
  obtain ⟨d, ed, p2⟩ := Post.use p1
  obtain ⟨r, er, p3⟩ := Post.opt' p2
  obtain ⟨z, o, rfl, eo, rfl⟩ := ginV_some er
  obtain ⟨r, e3, e4, _⟩ := hv z o eo
  obtain rfl := (R1.lookR rv ed).str
  refine ⟨z, r, rfl, rfl, e3, o.isSome, ?_, Post.here p3 R1⟩
  rw [e4]
theorem px_gix {a : Expr} {x : Str} {kvs : List (D × D)} {fa : M RV} {pos p : Pos} (hk : KdS X.w X.K X.mg x kvs) (hg : Gl X x) (hd : (x == ("__debug__" : Str)) = false) (hp : PlainIx a) (ha : PX X c W a fa) :
    PX X c W (.Subscript (.Name x p) a pos) (M.bind fa fun ra => M.bind (M.use ra) fun d => M.bind (M.opt (gixV kvs d)) fun r => M.pure (.val r)) := by
  obtain ⟨q, es, n, e1, kd, hv⟩ := hk
  refine peImp (pe_ix (ix_kdict) (pe_glob (v := .ref q) hg e1 rfl hd) ha hp) fun σ H Q ⟨F, ρ, R, p⟩ => ⟨F, ρ, R, (Post.bind p).mono fun ra ρ1 H1 F1 m1 R1 p1 v rv => ?_⟩
  obtain ⟨d, ed, p2⟩ := Post.use p1
  obtain ⟨r, er, p3⟩ := Post.opt p2
  obtain ⟨z, rfl, eo⟩ := gixV_some er
  obtain ⟨r', e3, e4, e6⟩ := hv z _ eo
  obtain ⟨y, u, rfl, rfl, ru⟩ := e6 r rfl
  obtain rfl := (R1.lookR rv ed).str
  exact ⟨q, z, .str y, rfl, rfl, ⟨es, n, u, kd.at_, kd.lit, e3, ru⟩, Post.here p3 R1 _ (.str _)⟩
theorem px_cmp {a b : Expr} {fa fb : M RV} {pos : Pos} (op : Cop) (hm : behindInMarks op.py b = false) (ha : PX X c W a fa) (hb : PX X c W b fb) :
    PX X c W (.Compare a [op.py] [b] pos) (M.bind fa fun ra => M.bind fb fun rb => M.bind (M.use (M.settle ra)) fun x => M.bind (M.use rb) fun y => M.bind (M.opt (cmp op x y)) fun r => M.pure (.val (.bool r))) := by
  refine peImp (pe_cmpR (op2_cmp V1.hu op) ha hb hm) fun σ H Q h => two V1 (a := a) (b := b) h fun x y H2 F2 ρ2 dx dy R hx hy p => ?_
  obtain ⟨r, e, p2⟩ := Post.opt p
  exact ⟨F2, dx, dy, r, hx, hy, e, Post.here p2 R _ (.bl _)⟩
theorem pt_cmpG {a b : Expr} {fa fb : M RV} {pos : Pos} (op : Cop) (hm : behindInMarks op.py b = false) (ha : PX X c W a fa) (hb : PX X c W b fb) :
    PTX X c W (.Compare a [op.py] [b] pos) (M.bind fa fun ra => M.bind fb fun rb => M.bind (M.use (M.settle ra)) fun x => M.bind (M.use rb) fun y => M.opt (cmp op x y)) := by
  refine ptImp (pt_cmpR (op2_cmp V1.hu op) ha hb hm) fun σ H Q h => two V1 (a := a) (b := b) h fun x y H2 F2 ρ2 dx dy R hx hy p => ?_
  obtain ⟨r, e, p2⟩ := Post.opt' p
  exact ⟨F2, dx, dy, r, hx, hy, e, r, rfl, Post.here p2 R⟩
theorem three {a b d : Expr} {fa fb fc : M RV} {σ : L2.St} {H : Hp} {o p : Cop} {α : Type} {kf : M α} {kt : Bool → M α} {P : α → Rho → Hp → Fz → Prop} {Qk : Bool → Hp → Prop}
    (h : ∃ F ρ, Rel X.K X.mg c σ H F ρ ∧ Post X.K X.mg c W σ H F (M.bind fa (fun ra => M.bind fb fun rb => M.bind (M.use (M.settle ra)) fun x => M.bind (M.use (M.settle rb)) fun y => M.bind (M.opt (cmp o x y)) fun
      | false => kf
      | true => M.bind fc fun rc => M.bind (M.use (M.settle rb)) fun y => M.bind (M.use rc) fun z => M.bind (M.opt (cmp p y z)) kt) ρ) P)
    (hf : ∀ H F ρ, Rel X.K X.mg c σ H F ρ → Post X.K X.mg c W σ H F (kf ρ) P → Qk false H) (ht : ∀ b H F ρ, Rel X.K X.mg c σ H F ρ → Post X.K X.mg c W σ H F (kt b ρ) P → Qk b H) :
    rd X c W fa σ H fun x H1 => rd X c W fb σ H1 fun y H2 => ∃ F dx dy r, RB X.K X.mg H2 F x dx ∧ RB X.K X.mg H2 F y dy ∧ cmp o dx dy = some r ∧ ∃ k, V.bl r = .bl k ∧
      (if k = true then rd X c W fc σ H2 (fun w' H4 => ∃ F dx dy r, RB X.K X.mg H4 F y dx ∧ RB X.K X.mg H4 F w' dy ∧ cmp p dx dy = some r ∧ Qk r H4) else Qk false H2) := by
  obtain ⟨F, ρ, R, p⟩ := h
  refine ⟨F, ρ, R, (Post.bind p).mono fun ra ρ1 H1 F1 m1 R1 p1 v rv => ?_⟩
  obtain ⟨F1', m1', R1', o1⟩ := R1.settle rv
  refine ⟨F1', ρ1, R1', (Post.bind (Post.base m1' p1)).mono fun rb ρ2 H2 F2 m2 R2 p2 u ru => ?_⟩
  obtain ⟨F2', m2', R2', o2⟩ := R2.settle ru
  obtain ⟨x, ex, p3⟩ := Post.use (Post.base m2' p2)
  obtain ⟨y, ey, p4⟩ := Post.use p3
  obtain ⟨r, er, p5⟩ := Post.opt p4
  refine ⟨F2', x, y, r, R2'.look ((o1.mono m2).mono m2') ex, R2'.look o2 ey, er, r, rfl, ?_⟩
  cases r with
  | false => exact iteF (hf _ _ _ R2' p5)
  | true =>
    refine iteT ⟨F2', ρ2, R2', (Post.bind p5).mono fun rc ρ3 H3 F3 m3 R3 p6 w' rw' => ?_⟩
    obtain ⟨y', ey', p7⟩ := Post.use p6
    obtain ⟨z, ez, p8⟩ := Post.use p7
    obtain ⟨r', er', p9⟩ := Post.opt p8
    exact ⟨F3, y', z, r', R3.look (o2.mono m3) ey', R3.lookR rw' ez, er', ht _ _ _ _ R3 p9⟩
theorem px_chain {a b d : Expr} {fa fb fc : M RV} {pos : Pos} (o p : Cop) (hm : lastMarks [o.py, p.py] [b, d] = false) (ha : PX X c W a fa) (hb : PX X c W b fb) (hd : PX X c W d fc) :
    PX X c W (.Compare a [o.py, p.py] [b, d] pos) (M.bind fa fun ra => M.bind fb fun rb => M.bind (M.use (M.settle ra)) fun x => M.bind (M.use (M.settle rb)) fun y => M.bind (M.opt (cmp o x y)) fun
      | false => M.pure (.val (.bool false))
      | true => M.bind fc fun rc => M.bind (M.use (M.settle rb)) fun y => M.bind (M.use rc) fun z => M.bind (M.opt (cmp p y z)) fun r => M.pure (.val (.bool r))) := by
  refine peImp (pe_chain (op2_cmp V1.hu o) (op2_cmp V1.hu p) ha hb hd hm) fun σ H Q h => ?_
  exact three V1 (a := a) (b := b) (d := d) (Qk := fun b H => Q (.bl b) H) h (fun H F ρ R p => Post.here p R _ (.bl _)) fun b H F ρ R p => Post.here p R _ (.bl _)
theorem pt_chainG {a b d : Expr} {fa fb fc : M RV} {pos : Pos} (o p : Cop) (hm : lastMarks [o.py, p.py] [b, d] = false) (ha : PX X c W a fa) (hb : PX X c W b fb) (hd : PX X c W d fc) :
    PTX X c W (.Compare a [o.py, p.py] [b, d] pos) (chn o p fa fb fc (M.pure false) M.pure) := by
  refine ptImp (pt_chain (op2_cmp V1.hu o) (op2_cmp V1.hu p) ha hb hd hm) fun σ H Q ⟨F, ρ, R, q⟩ => ?_
  exact three V1 (a := a) (b := b) (d := d) (Qk := fun b H => ∃ k, V.bl b = .bl k ∧ Q k H) ⟨F, ρ, R, q⟩ (fun H F ρ R p => ⟨_, rfl, Post.here p R⟩) fun b H F ρ R p => ⟨_, rfl, Post.here p R⟩
theorem boolOpd {ra : RV} {ρ1 : Rho} {σ : L2.St} {H1 : Hp} {F1 : Fz} {v : V} {α : Type} {g : Bool → M α} {P : α → Rho → Hp → Fz → Prop} (R1 : Rel X.K X.mg c σ H1 F1 ρ1) (rv : RVR X.K X.mg c σ H1 F1 ρ1 v ra)
    (p : Post X.K X.mg c W σ H1 F1 ((M.bind (M.use ra) fun x => M.bind (asBool x) g) ρ1) P) : ∃ k, v = .bl k ∧ Post X.K X.mg c W σ H1 F1 (g k ρ1) P := by
  obtain ⟨x, ex, p2⟩ := Post.use p
  obtain ⟨k, rfl, p3⟩ := Post.asBool p2
  exact ⟨k, (R1.lookR rv ex).bl, p3⟩
theorem px_and {a b : Expr} {rest : List Expr} {fa fb : M RV} {pos : Pos} (ha : PX X c W a fa) (hb : PX X c W (.BoolOp .And (b :: rest) pos) fb) :
    PX X c W (.BoolOp .And (a :: b :: rest) pos) (M.bind fa fun ra => M.bind (M.use ra) fun x => M.bind (asBool x) fun k => if k = true then fb else M.pure (.val (.bool k))) := by
  refine peImp (pe_and ha hb) fun σ H Q ⟨F, ρ, R, p⟩ => ⟨F, ρ, R, (Post.bind p).mono fun ra ρ1 H1 F1 m1 R1 p1 v rv => ?_⟩
  obtain ⟨k, rfl, p2⟩ := boolOpd V1 R1 rv p1
  refine ⟨k, rfl, ?_⟩
  cases k with
  | true => exact ⟨F1, ρ1, R1, p2⟩
  | false => exact Post.here p2 R1 _ (.bl _)
theorem px_or {a b : Expr} {rest : List Expr} {fa fb : M RV} {pos : Pos} (ha : PX X c W a fa) (hb : PX X c W (.BoolOp .Or (b :: rest) pos) fb) :
    PX X c W (.BoolOp .Or (a :: b :: rest) pos) (M.bind fa fun ra => M.bind (M.use ra) fun x => M.bind (asBool x) fun k => if k = false then fb else M.pure (.val (.bool k))) := by
  refine peImp (pe_or ha hb) fun σ H Q ⟨F, ρ, R, p⟩ => ⟨F, ρ, R, (Post.bind p).mono fun ra ρ1 H1 F1 m1 R1 p1 v rv => ?_⟩
  obtain ⟨k, rfl, p2⟩ := boolOpd V1 R1 rv p1
  refine ⟨k, rfl, ?_⟩
  cases k with
  | false => exact ⟨F1, ρ1, R1, p2⟩
  | true => exact Post.here p2 R1 _ (.bl _)
theorem px_not {a : Expr} {fa : M RV} {pos : Pos} (ha : PX X c W a fa) : PX X c W (.UnaryOp .Not a pos) (M.bind fa fun ra => M.bind (M.use ra) fun x => M.bind (asBool x) fun k => M.pure (.val (.bool (!k)))) := by
  refine peImp (pe_not ha) fun σ H Q ⟨F, ρ, R, p⟩ => ⟨F, ρ, R, (Post.bind p).mono fun ra ρ1 H1 F1 m1 R1 p1 v rv => ?_⟩
  obtain ⟨k, rfl, p2⟩ := boolOpd V1 R1 rv p1
  exact ⟨k, rfl, Post.here p2 R1 _ (.bl _)⟩
omit V1 in
theorem px_ite {t a b : Expr} {ft : M Bool} {fa fb : M RV} {pos : Pos} (ht : PTX X c W t ft) (ha : PX X c W a fa) (hb : PX X c W b fb) : PX X c W (.IfExp t a b pos) (M.bind ft fun k => if k = true then fa else fb) := by
  refine peImp (pe_ifExp ht ha hb) fun σ H Q ⟨F, ρ, R, p⟩ => ⟨F, ρ, R, (Post.bind p).mono fun k ρ1 H1 F1 m1 R1 p1 => ?_⟩
  cases k with
  | true => exact ⟨F1, ρ1, R1, p1⟩
  | false => exact ⟨F1, ρ1, R1, p1⟩
abbrev PWX (X : Cx) (c : Fc) (W : WX) (e : Expr) (f : M Bool) : Prop := PW X e (rdT X c W f)
omit V1 in
theorem pw_andG {a b : Expr} {rest : List Expr} {fa fb : M Bool} {pos : Pos} (ha : PTX X c W a fa) (hb : PWX X c W (.BoolOp .And (b :: rest) pos) fb) :
    PWX X c W (.BoolOp .And (a :: b :: rest) pos) (M.bind fa fun k => if k = true then fb else M.pure k) := by
  refine pwImp (pw_and ha hb) fun σ H Q ⟨F, ρ, R, p⟩ => ⟨F, ρ, R, (Post.bind p).mono fun k ρ1 H1 F1 m1 R1 p1 => ?_⟩
  cases k with
  | true => exact ⟨F1, ρ1, R1, p1⟩
  | false => exact Post.here p1 R1
omit V1 in
theorem pw_orG {a b : Expr} {rest : List Expr} {fa fb : M Bool} {pos : Pos} (ha : PTX X c W a fa) (hb : PWX X c W (.BoolOp .Or (b :: rest) pos) fb) :
    PWX X c W (.BoolOp .Or (a :: b :: rest) pos) (M.bind fa fun k => if k = false then fb else M.pure k) := by
  refine pwImp (pw_or ha hb) fun σ H Q ⟨F, ρ, R, p⟩ => ⟨F, ρ, R, (Post.bind p).mono fun k ρ1 H1 F1 m1 R1 p1 => ?_⟩
  cases k with
  | false => exact ⟨F1, ρ1, R1, p1⟩
  | true => exact Post.here p1 R1
omit V1 in
theorem pt_notG {a : Expr} {fa : M Bool} {pos : Pos} (ha : PTX X c W a fa) : PTX X c W (.UnaryOp .Not a pos) (M.bind fa fun k => M.pure (!k)) :=
  ptImp (pt_not ha) fun σ H Q ⟨F, ρ, R, p⟩ => ⟨F, ρ, R, (Post.bind p).mono fun k ρ1 H1 F1 m1 R1 p1 => Post.here p1 R1⟩
omit V1 in
theorem pt_iteG {t a b : Expr} {ft fa fb : M Bool} {pos : Pos} (ht : PTX X c W t ft) (ha : PTX X c W a fa) (hb : PTX X c W b fb) : PTX X c W (.IfExp t a b pos) (M.bind ft fun k => if k = true then fa else fb) := by
  refine ⟨fun pins s σ H Q I ⟨F, ρ, R, p⟩ => ?_⟩
  show wpAny _ _ (do if ← isTrue t X.env (eval t X.env) then isTrue a X.env (eval a X.env) else isTrue b X.env (eval b X.env)) _ _ _
  refine wpAny_bind (thn (ht.run pins s σ H (fun k H1 => ∃ F1 ρ1, Rel X.K X.mg c σ H1 F1 ρ1 ∧ Post X.K X.mg c W σ H1 F1 ((if k = true then fa else fb) ρ1) fun b ρ' H' F' => Q b H') I
    ⟨F, ρ, R, (Post.bind p).mono fun k ρ1 H1 F1 m1 R1 p1 => ⟨F1, ρ1, R1, p1⟩⟩) fun k s1 ⟨H1, I1, F1, ρ1, R1, p1⟩ => ?_)
  cases k with
  | true => exact ha.run pins s1 σ H1 Q I1 ⟨F1, ρ1, R1, p1⟩
  | false => exact hb.run pins s1 σ H1 Q I1 ⟨F1, ρ1, R1, p1⟩
omit V1 in
theorem pt_truthG {e : Expr} {f : M RV} (h : PX X c W e f) (he : ∀ whole, isTrue e X.env whole = (do let v ← whole; standAt e.pos; holding [v] (truthy v))) : PTX X c W e (M.bind f fun r => M.bind (M.use r) fun x => M.opt (truth x)) := by
  refine ⟨fun pins s σ H Q I ⟨F, ρ, R, p⟩ => ?_⟩
  refine isTrue_plain (thn (h.run pins s σ H (fun v H1 => ∃ F d k, RB X.K X.mg H1 F v d ∧ truth d = some k ∧ Q k H1) I ⟨F, ρ, R, (Post.bind p).mono fun r ρ1 H1 F1 m1 R1 p1 v rv => ?_⟩) fun v s1 ⟨x, H1, I1, r1, q1⟩ => ?_) (he _)
  · obtain ⟨x, ex, p2⟩ := Post.use p1
    obtain ⟨b, eb, p3⟩ := Post.opt' p2
    exact ⟨F1, x, b, R1.lookR rv ex, eb, Post.here p3 R1⟩
  · exact tru_data pins s1 σ H1 x v Q I1 r1 q1
def rdA (X : Cx) (c : Fc) (W : WX) (f : M (List RV)) : TA := fun σ H Q => ∃ F ρ, Rel X.K X.mg c σ H F ρ ∧ Post X.K X.mg c W σ H F (f ρ) fun rs ρ' H' F' => ∀ vs, Paired (OR X.K X.mg σ H' F') vs rs → Q vs H'
def rdK (X : Cx) (c : Fc) (W : WX) (f : M (List D)) : TA := fun σ H Q => ∃ F ρ, Rel X.K X.mg c σ H F ρ ∧ Post X.K X.mg c W σ H F (f ρ) fun ds ρ' H' F' => ∀ vs, RpAll X.K X.mg H' F' vs ds → Q vs H'
abbrev PAX (X : Cx) (c : Fc) (W : WX) (es : List Expr) (f : M (List RV)) : Prop := PA X es (rdA X c W f)
abbrev PKX (X : Cx) (c : Fc) (W : WX) (es : List Expr) (f : M (List D)) : Prop := PA X es (rdK X c W f)
omit V1 in
theorem pax_nil : PAX X c W [] (M.pure []) := paImp pa_nil fun σ H Q ⟨F, ρ, R, p⟩ => Post.here p R _ .nil
omit V1 in
theorem pkx_nil : PKX X c W [] (M.pure []) := paImp pa_nil fun σ H Q ⟨F, ρ, R, p⟩ => Post.here p R _ .nil
omit V1 in
theorem pax_cons {e : Expr} {es : List Expr} {f : M RV} {g : M (List RV)} (hs : starEach (e :: es) X.env = (false, eval e X.env) :: starEach es X.env) (h : PX X c W e f) (hr : PAX X c W es g) :
    PAX X c W (e :: es) (M.bind f fun r => M.bind g fun rs => M.pure (M.settle r :: rs)) := by
  refine paImp (pa_cons h hr hs) fun σ H Q ⟨F, ρ, R, p⟩ => ⟨F, ρ, R, (Post.bind p).mono fun r ρ1 H1 F1 m1 R1 p1 v rv => ?_⟩
  obtain ⟨F1', m1', R1', o1⟩ := R1.settle rv
  exact ⟨F1', ρ1, R1', (Post.bind (Post.base m1' p1)).mono fun rs ρ2 H2 F2 m2 R2 p2 vs hvs => Post.here p2 R2 _ (.cons (o1.mono m2) hvs)⟩
theorem pkx_cons {e : Expr} {es : List Expr} {f : M RV} {g : M (List D)} (hs : starEach (e :: es) X.env = (false, eval e X.env) :: starEach es X.env) (h : PX X c W e f) (hr : PKX X c W es g) :
    PKX X c W (e :: es) (M.bind f fun r => M.bind (M.keep C.ios r) fun d => M.bind g fun ds => M.pure (d :: ds)) := by
  refine paImp (pa_cons h hr hs) fun σ H Q ⟨F, ρ, R, p⟩ => ⟨F, ρ, R, (Post.bind p).mono fun r ρ1 H1 F1 m1 R1 p1 v rv => ?_⟩
  obtain ⟨d, ρ2, F2, m2, R2, o2, p2⟩ := R1.keepR V1.ios rv (Post.bind p1)
  exact ⟨F2, ρ2, R2, (Post.bind p2).mono fun ds ρ3 H3 F3 m3 R3 p3 vs hvs => Post.here p3 R3 _ (.cons (Rp.mono m3 d o2) hvs)⟩
omit V1 in
theorem px_tup {es : List Expr} {g : M (List D)} {n : Nat} {pos : Pos} (h : PKX X c W es g) : PX X c W (.Tuple es n pos) (M.bind g fun ds => if lines ds.length then M.pure (.val (.tuple ds)) else M.stuck) := by
  refine peImp (pe_tup h) fun σ H Q ⟨F, ρ, R, p⟩ => ⟨F, ρ, R, (Post.bind p).mono fun ds ρ1 H1 F1 m1 R1 p1 vs hvs => ?_⟩
  dsimp only at p1
  by_cases hl : lines ds.length = true
  · rw [if_pos hl] at p1
    refine ⟨by rw [hvs.length]; exact of_decide_eq_true hl, fun q hq => ?_⟩
    obtain ⟨g, t⟩ := tup_new (X := X) R1.fr.fl hq hvs
    exact p1 _ _ (R1.mon g) (R1.grow g) _ t
  · rw [if_neg hl] at p1; exact p1.elim
omit V1 in
theorem px_lst {es : List Expr} {g : M (List D)} {pos : Pos} (h : PKX X c W es g) : PX X c W (.List es pos) (M.bind g fun ds => if lines ds.length then M.pure (.fresh ds) else M.stuck) := by
  refine peImp (pe_lst h) fun σ H Q ⟨F, ρ, R, p⟩ => ⟨F, ρ, R, (Post.bind p).mono fun ds ρ1 H1 F1 m1 R1 p1 vs hvs => ?_⟩
  dsimp only at p1
  by_cases hl : lines ds.length = true
  · rw [if_pos hl] at p1
    refine ⟨by rw [hvs.length]; exact of_decide_eq_true hl, fun q hq => ?_⟩
    obtain ⟨g, t⟩ := lst_new (X := X) R1.fr.fl hq hvs
    exact p1 _ _ (R1.mon g) (R1.grow g) _ (R1.rs (r := .fresh ds) g t)
  · rw [if_neg hl] at p1; exact p1.elim
theorem px_ix {a b : Expr} {fa fb : M RV} {pos : Pos} (hp : PlainIx b) (ha : PX X c W a fa) (hb : PX X c W b fb) :
    PX X c W (.Subscript a b pos) (M.bind fa fun ra => M.bind fb fun rb => M.bind (M.use (M.settle ra)) fun x => M.bind (M.use rb) fun y => M.bind (M.opt (pix x y)) fun r => M.pure (.val r)) := by
  refine peImp (pe_ix (ix_data V1.hu) ha hb hp) fun σ H Q h => two V1 (a := a) (b := b) h fun x y H2 F2 ρ2 dx dy R hx hy p => ?_
  obtain ⟨r, e, p2⟩ := Post.opt p
  exact ⟨F2, dx, dy, r, hx, hy, e, fun v hv => Post.here p2 R v hv⟩
def rdO (X : Cx) (c : Fc) (W : WX) (f : M (Option Int)) : TO := fun σ H Q => ∃ F ρ, Rel X.K X.mg c σ H F ρ ∧ Post X.K X.mg c W σ H F (f ρ) fun o ρ' H' F' => Q o H'
abbrev POX (X : Cx) (c : Fc) (W : WX) (e : Option Expr) (f : M (Option Int)) : Prop := PO X e (rdO X c W f)
omit V1 in
theorem pox_none : POX X c W none (M.pure none) := poImp po_none fun σ H Q ⟨F, ρ, R, p⟩ => Post.here p R
omit V1 in
theorem pox_some {e : Expr} {f : M RV} (h : PX X c W e f) : POX X c W (some e) (M.bind f fun r => M.bind (M.use r) fun x => M.bind (asInt x) fun i => M.pure (some i)) := by
  refine poImp (po_some h) fun σ H Q ⟨F, ρ, R, p⟩ => ⟨F, ρ, R, (Post.bind p).mono fun r ρ1 H1 F1 m1 R1 p1 v rv => ?_⟩
  obtain ⟨x, ex, p2⟩ := Post.use p1
  obtain ⟨i, rfl, p3⟩ := Post.asInt p2
  obtain rfl := (R1.lookR rv ex).int
  exact ⟨i, rfl, Post.here p3 R1⟩
omit V1 in
theorem px_sl {a : Expr} {lo hi : Option Expr} {fa : M RV} {fl fh : M (Option Int)} {p2 pos : Pos} (ha : PX X c W a fa) (hl : POX X c W lo fl) (hh : POX X c W hi fh) :
    PX X c W (.Subscript a (.Slice lo hi none p2) pos) (M.bind fa fun ra => M.bind fl fun l => M.bind fh fun h => M.bind (M.use (M.settle ra)) fun x => rsRV (psl x l h)) := by
  refine peImp (pe_slice sl_data ha hl hh) fun σ H Q ⟨F, ρ, R, p⟩ => ⟨F, ρ, R, (Post.bind p).mono fun ra ρ1 H1 F1 m1 R1 p1 v rv => ?_⟩
  obtain ⟨F1', m1', R1', o1⟩ := R1.settle rv
  refine ⟨F1', ρ1, R1', (Post.bind (Post.base m1' p1)).mono fun l ρ2 H2 F2 m2 R2 p2 => ⟨F2, ρ2, R2, (Post.bind p2).mono fun h ρ3 H3 F3 m3 R3 p3 => ?_⟩⟩
  obtain ⟨x, ex, p4⟩ := Post.use p3
  obtain ⟨r, e, q⟩ := Post.rs R3 p4
  exact ⟨F3, x, r, R3.fr.fl, R3.look ((o1.mono m2).mono m3) ex, e, fun v H' g rs => q H' g v (R3.rs g rs)⟩
theorem useAll_ok {rs : List RV} {ρ : Rho} {σ : L2.St} {H : Hp} {F : Fz} {vs : List V} {ds : List D} (R : Rel X.K X.mg c σ H F ρ) (h : Paired (OR X.K X.mg σ H F) vs rs) (e : lookAll ρ rs = some ds) : RBs X.K X.mg H F vs ds := by
  induction h generalizing ds with
  | nil => cases e; exact .nil
  | @cons v r vs rs a b ih =>
    unfold lookAll at e
    cases q : M.look ρ r with
    | none => rw [q] at e; cases e
    | some d =>
      rw [q] at e
      obtain ⟨ds', e1, rfl⟩ := Option.map_eq_some_iff.mp e
      exact .cons (R.look a q) (ih e1)
omit V1 in
theorem Post.useAll {K : PySem.W.Frag} {mg : Str → Option Value} {σ : L2.St} {H : Hp} {F : Fz} {ρ : Rho} {α : Type} {P : α → Rho → Hp → Fz → Prop} {rs : List RV} {k : List D × Rho → Out (α × Rho)}
    (h : Post K mg c W σ H F ((G.useAll rs ρ).bind k) P) : ∃ ds, lookAll ρ rs = some ds ∧ Post K mg c W σ H F (k (ds, ρ)) P := by
  unfold G.useAll at h
  cases e : lookAll ρ rs with
  | none => rw [e] at h; exact h.elim
  | some d => rw [e] at h; exact ⟨d, rfl, h⟩
theorem cb_imp {g : List D → Option Rs} {fs : M (List RV)} (σ : L2.St) (H : Hp) (Q : VK) (h : rd X c W (M.bind fs fun rs => M.bind (useAll rs) fun ds => rsRV (g ds)) σ H Q) :
    tCB (fun xs H Q => ∃ F ds r, (∀ a, F a → ∃ xs, H a = some (.lst xs)) ∧ RBs X.K X.mg H F xs ds ∧ g ds = some r ∧ ∀ v H', Grow H H' → RsR X.K X.mg H H' F v r → Q v H') (rdA X c W fs) σ H Q := by
  obtain ⟨F, ρ, R, p⟩ := h
  refine ⟨F, ρ, R, (Post.bind p).mono fun rs ρ1 H1 F1 m1 R1 p1 vs hvs => ?_⟩
  obtain ⟨ds, e, p2⟩ := Post.useAll p1
  obtain ⟨r, er, q⟩ := Post.rs R1 p2
  exact ⟨F1, ds, r, R1.fr.fl, useAll_ok V1 R1 hvs e, er, fun v H' g rs => q H' g v (R1.rs g rs)⟩
theorem px_callB {id : String} {x : Str} {e : Expr} {es : List Expr} {g : List D → Option Rs} {fs : M (List RV)} {p pos : Pos} (hc : CallN X (.builtin id) g) (hg : Gl X x) (hm : X.mg x = none) (hv : bootBuiltins x = some (.builtin id)) (hn : x ≠ "__name__") (hdb : (x == ("__debug__" : Str)) = false)
    (he : starEach (e :: es) X.env = (false, eval e X.env) :: starEach es X.env) (hpl : (backTo pos (starEach es X.env)).any (·.1) = false) (ha : PAX X c W (e :: es) fs) :
    PX X c W (.Call (.Name x p) (e :: es) [] pos) (M.bind fs fun rs => M.bind (useAll rs) fun ds => rsRV (g ds)) :=
  peImp (pe_callB hc hg hm hv ha hn hdb he hpl) fun σ H Q h => cb_imp V1 σ H Q h
theorem px_callTy {T : String} {x : Str} {e : Expr} {es : List Expr} {g : List D → Option Rs} {fs : M (List RV)} {p pos : Pos} (hc : CallN X (.type T) g) (hg : Gl X x) (hm : X.mg x = none) (hv : bootBuiltins x = some (.type T)) (hn : x ≠ "__name__") (hdb : (x == ("__debug__" : Str)) = false)
    (he : starEach (e :: es) X.env = (false, eval e X.env) :: starEach es X.env) (hpl : (backTo pos (starEach es X.env)).any (·.1) = false) (ha : PAX X c W (e :: es) fs) :
    PX X c W (.Call (.Name x p) (e :: es) [] pos) (M.bind fs fun rs => M.bind (useAll rs) fun ds => rsRV (g ds)) :=
  peImp (pe_callTy hc hg hm hv ha hn hdb he hpl) fun σ H Q h => cb_imp V1 σ H Q h
end
end G
set_option maxHeartbeats 4000000
namespace G
open PySem PySem.Spec PyProof.Rows L2
theorem clip_run {p q n : Nat} (hpq : p ≤ q) : sliceBounds (some (p : Int)) (some (q : Int)) none n = (((min p n : Nat) : Int), ((min q n : Nat) : Int), 1) := by
  simp only [sliceBounds, Option.getD_none]
  have g1 : ¬ ((p : Int) < 0) := by omega
  have g2 : ¬ ((q : Int) < 0) := by omega
  simp only [g1, g2, if_false, show (1 : Int) > 0 by decide, if_true]
  congr 1
  · omega
  · congr 1; omega
section
variable {P0 : Program} {w0 : World} {A0 : Around} {E0 : Value → Shared → Prop} {s : Shared}
theorem put_stretch {l b sl : Addr} {its new : Array Value} {n n2 : Nat} {vl vu : Value} {p q : Nat} {Q : Unit → Shared → Prop} (e : s.heap.get? l = some { cls := .type "list", data := .seq its n }) (e2 : s.heap.get? b = some { cls := .type "list", data := .seq new n2 }) (ne : l ≠ b)
    (iss : s.heap.IsSliceOf sl vl vu .none) (pl : IsPart vl (some (p : Int))) (pu : IsPart vu (some (q : Int))) (hpq : p ≤ q) (hz : its.size + new.size ≤ sizeLine)
    (h : Q () { s with heap := s.heap.update l (Obj.mapSeq fun xs => xs.extract 0 (min p its.size) ++ new ++ xs.extract (min q its.size) xs.size) }) : wpAny (model P0 w0) A0 (setItem (.ref l) (.ref sl) (.ref b)) Q E0 s := by
  have L1 : s.heap.IsList l its := PySem.IsL.isList e
  have L2 : s.heap.IsList b new := PySem.IsL.isList e2
  obtain ⟨os, o1, o2, o3⟩ := id iss
  have Ts : s.TypeIs (.ref sl) "slice" := ⟨os, o1, o2⟩
  have st0 : ¬ ((rawPart none == rawInt 0) = true) := Bool.false_ne_true
  have other : Builtin.List.listSameRef (.ref l) (.ref b) = false := by unfold Builtin.List.listSameRef; exact beq_eq_false_iff_ne.mpr ne
  have mx : (max ((min p its.size : Nat) : Int) ((min q its.size : Nat) : Int)).toNat = min q its.size := by omega
  have hz' : ((fun xs : Array Value => xs.extract 0 (min p its.size) ++ new ++ xs.extract (min q its.size) xs.size) its).size ≤ sizeLine + 1 := by simp only [Array.size_append, Array.size_extract]; omega
  unfold setItem
  try with_reducible refine wpAny_holding ?_
  first | refine wpAny_bind (wpAny_pure ?_) | skip
  refine wpAny_bind (wpAny_sequenceKey L1.typeIs (by decide) ?_)
  refine wpAny_bind (wpAny_callSpecial?_slot (name := Str.ofString "__setitem__") L1.typeIs slot_list_setitem (wpAny_call_entry slot_list_setitem L1.typeIs entry_list_setitem ?_ (args_list_setitem _ _ _)))
  show wpAny _ _ (Builtin.List.listSubscript? (.ref sl) >>= _) _ _ s; refine wpAny_bind ?_
  unfold Builtin.List.listSubscript?; refine wpAny_bind (wpAny_specialOf Ts slice_no_index ?_)
  simp only [Option.isNone_none, if_true]; refine wpAny_pure ?_
  show wpAny _ _ (typeOf (.ref sl) >>= _) _ _ s; refine wpAny_bind (wpAny_typeOf Ts ?_)
  refine PySem.W.KFB.if_not (by decide) ?_
  rw [listSliceParts_eq]; refine wpAny_bind (wpAny_bind (wpAny_field o1 o3 (x := .none) rfl (wpAny_bind (wpAny_listPart .none ?_))))
  rw [if_neg st0]; refine wpAny_bind (wpAny_field o1 o3 (x := vl) rfl (wpAny_bind (wpAny_listPart pl ?_)))
  refine wpAny_bind (wpAny_field o1 o3 (x := vu) rfl (wpAny_bind (wpAny_listPart pu (wpAny_pure ?_))))
  first | simp only [other, Bool.false_eq_true, if_false] | refine PySem.W.KFB.if_not other ?_ | (dsimp only; rw [if_neg (by rw [other]; exact Bool.false_ne_true)])
  refine wpAny_bind (m := Builtin.List.listAllItems (.ref b) "must assign iterable to extended slice") ?_
  unfold Builtin.List.listAllItems; refine wpAny_bind (wpAny_typeOf L2.typeIs ?_)
  first | refine PySem.W.KFB.if_so (by decide) ?_ | rw [if_pos (by decide)] | simp only [beq_self_eq_true, Bool.true_or, if_true]
  unfold Builtin.List.listItems; refine wpAny_bind (wpAny_seqItems e2 rfl (wpAny_pure ?_))
  refine wpAny_bind (wpAny_bind (wpAny_seqItems e rfl (wpAny_pure ?_)))
  refine wpAny_bind (wpAny_of_eq ((sliceIndices_raw (some (p : Int)) (some (q : Int)) none its.size (by simp)).trans (congrArg (pure : Int × Int × Int → Sem (Int × Int × Int)) (clip_run hpq))) ?_)
  show wpAny _ _ (if ((1 : Int) == 1) = true then _ else _) _ _ s; rw [if_pos (by decide)]; refine wpAny_bind (wpAny_rule ?_)
  first | simp only [notLongL hz, Bool.false_eq_true, if_false] | refine PySem.W.KFB.if_not (notLongL hz) ?_
  first | refine wpAny_bind (wpAny_pure ?_) | skip
  show wpAny _ _ (updateSeq l (fun xs => xs.extract 0 (((min p its.size : Nat) : Int)).toNat ++ new ++ xs.extract (max ((min p its.size : Nat) : Int) ((min q its.size : Nat) : Int)).toNat xs.size) >>= _) _ _ s
  rw [mx, Int.toNat_natCast]; refine wpAny_bind (wpAny_updateSeq (hz := Nat.le_trans (Nat.le_add_right _ _) hz) (_hz' := hz') e rfl ?_)
  refine wpAny_bind (wpAny_letGo ?_)
  first | exact wpAny_bind (wpAny_pure (wpAny_pure ⟨.none, rfl, wpAny_pure h⟩)) | exact wpAny_pure ⟨.none, rfl, wpAny_pure h⟩
end
theorem put_slice {X : Cx} {pins : List (Addr × Obj)} {s : Shared} {σ : L2.St} {H : Hp} {l b sl : Addr} {xs ys : List V} {p q : Int} {vl vu : Value} {Q : Unit → Shared → Prop} (I : Inv X pins σ H s) (h1 : H l = some (.lst xs)) (h2 : H b = some (.lst ys)) (ne : l ≠ b)
    (iss : s.heap.IsSliceOf sl vl vu .none) (pl : IsPart vl (some p)) (pu : IsPart vu (some q)) (h0 : 0 ≤ p) (hpq : p ≤ q) (hz : xs.length + ys.length ≤ sizeLine)
    (h : ∀ s', Inv X pins σ (upd H l (.lst (xs.take (min p.toNat xs.length) ++ ys ++ xs.drop (min q.toNat xs.length)))) s' → Q () s') : wpAny (model X.prog X.w) X.A (setItem (.ref l) (.ref sl) (.ref b)) Q X.xe s := by
  obtain ⟨z, its, n, r, hl, e⟩ := I.lstM h1
  obtain ⟨z2, its2, n2, r2, hl2, e2⟩ := I.lstM h2
  obtain ⟨p', rfl⟩ := Int.eq_ofNat_of_zero_le h0
  obtain ⟨q', rfl⟩ := Int.eq_ofNat_of_zero_le (Int.le_trans h0 hpq)
  simp only [Int.toNat_natCast] at h
  refine put_stretch (p := p') (q := q') e e2 ne iss pl pu (by omega) (by rw [List.size_toArray, List.size_toArray]; omega) (h _ ?_)
  rw [show its.toArray.size = xs.length by rw [List.size_toArray]; exact hl.symm]
  refine I.lset (its' := its.take (min p' xs.length) ++ its2 ++ its.drop (min q' xs.length)) (t' := s.toks) h1 e (splice_eq its its2 _ _) (Vals.append (Vals.append (r.take _) r2) (r.drop _)) ?_
  rw [List.length_append, List.length_append, List.length_take, List.length_drop]
  omega
abbrev tSubSl (to : TE) (tl th : TO) : TG := fun v σ H Q => to σ H fun x H1 => tl σ H1 fun l H2 => th σ H2 fun u H3 => ∃ (p q : Int) (la lb : Addr) (xs ys : List V), l = some p ∧ u = some q ∧ x = .ref la ∧ v = .ref lb ∧ H3 la = some (.lst xs) ∧ H3 lb = some (.lst ys) ∧ la ≠ lb ∧
  0 ≤ p ∧ p ≤ q ∧ xs.length + ys.length ≤ sizeLine ∧ Q σ (upd H3 la (.lst (xs.take (min p.toNat xs.length) ++ ys ++ xs.drop (min q.toNat xs.length))))
theorem pg_subSl {X : Cx} {o : Expr} {lo hi : Option Expr} {to : TE} {tl th : TO} {p2 pos : Pos} (ho : PE X o to) (hl : PO X lo tl) (hh : PO X hi th)
    (ha : ∀ v, assign (.Subscript o (.Slice lo hi none p2) pos) X.env v = (do
      let ov ← holding [v] (eval o X.env)
      let iv ← holding [v, ov] (eval (.Slice lo hi none p2) X.env)
      standAt pos
      holding [v, ov, iv] (setItem ov iv v)
      release [iv, v, ov] [])) : PG X (.Subscript o (.Slice lo hi none p2) pos) (tSubSl to tl th) := by
  refine ⟨fun pins s σ H v u Q I r h => ?_⟩
  rw [ha]
  refine wpAny_bind (wpAny_holding (thn (ho.run pins s σ H _ I h) fun ov s1 ⟨x, H1, I1, r1, q1⟩ => ?_))
  refine wpAny_bind (wpAny_holding (wpAny_Slice (thn (hl.run pins s1 σ H1 _ I1 q1) fun vl s2 ⟨l, H2, I2, pl, q2⟩ => thn (hh.run pins s2 σ H2 _ I2 q2) fun vu s3 ⟨u', H3, I3, pu, q3⟩ => ?_)))
  rw [evalPart_none]
  obtain ⟨p, q, la, lb, xs, ys, rfl, rfl, rfl, rfl, e1, e2, ne, h0, hpq, hz, q4⟩ := q3
  cases r
  cases r1
  refine wpAny_pure (wpAny_bind (wpAny_standAt (wpAny_bind (wpAny_holding ?_))))
  have I4 : Inv X pins σ H3 { s3 with heap := s3.heap.push { cls := .type "slice", data := .fields #[vl, vu, .none] } } := I3.kept (t' := s3.toks) fun b ob q => Heap.get?_push_of_some _ q
  exact put_slice I4 e1 e2 ne (Heap.IsSliceOf.new ..) pl pu h0 hpq hz fun s5 I5 => wpAny_release ⟨σ, _, I5, q4⟩
end G
set_option maxHeartbeats 4000000
namespace G
open PySem PySem.Spec PyProof.Rows L2
section
variable {K : PySem.W.Frag} {mg : Str → Option Value} {c : Fc} {W : WX} {σ : L2.St} {H H' H1 : Hp} {F F' F1 : Fz} {ρ ρ' : Rho}
theorem args_ok (R : Rel K mg c σ H F ρ) : ∀ {vs : List V} {rs : List RV} {as : List Arg}, Paired (OR K mg σ H F) vs rs → argsOf ρ rs = some as →
    Paired (AR K mg H F) vs (as.map Arg.cell) ∧ (∀ (j i : Nat) (ds : List D) (v : V), as[j]? = some (.lent i ds) → vs[j]? = some v → σ[i]? = some (some v) ∧ ρ[i]? = some (some (.own ds))) ∧ (∀ (j : Nat) (ds : List D), as[j]? ≠ some (.temp ds))
  | _, _, _, .nil, e => by
    cases e
    exact ⟨.nil, fun j i ds v z => (by simp at z), fun j ds z => (by simp at z)⟩
  | v :: vs, r :: rs, as, .cons a b, e => by
    unfold argsOf at e
    cases q : argOf ρ r with
    | none => rw [q] at e; cases e
    | some x =>
      rw [q] at e
      obtain ⟨as', e1, rfl⟩ := Option.map_eq_some_iff.mp e
      obtain ⟨h1, h2, h3⟩ := args_ok R b e1
      have hx : AR K mg H F v x.cell ∧ (∀ i ds, x = .lent i ds → σ[i]? = some (some v) ∧ ρ[i]? = some (some (.own ds))) ∧ ∀ ds, x ≠ .temp ds := by
        cases r with
        | val d => cases q; exact ⟨a, fun i ds z => (by cases z), fun ds z => (by cases z)⟩
        | fresh ds => exact (show False from a).elim
        | own i =>
          have ha : σ[i]? = some (some v) := a
          unfold argOf at q
          simp only at q
          split at q
          · rename_i ds hi
            cases q
            obtain ⟨v', e2, e3⟩ := R.cel i _ hi
            rw [ha] at e2
            cases e2
            obtain ⟨ad, xs, rfl, q1, q2, q3, _⟩ := e3
            exact ⟨⟨ad, xs, rfl, q1, q2, q3⟩, fun i' ds' z => (by cases z; exact ⟨ha, hi⟩), fun ds z => (by cases z)⟩
          · rename_i d hi
            cases q
            obtain ⟨v', e2, e3⟩ := R.cel i _ hi
            rw [ha] at e2
            cases e2
            exact ⟨e3, fun i' ds' z => (by cases z), fun ds z => (by cases z)⟩
          · cases q
      refine ⟨.cons hx.1 h1, fun j i ds v' z1 z2 => ?_, fun j ds z => ?_⟩
      · cases j with
        | zero =>
          simp only [List.getElem?_cons_zero, Option.some.injEq] at z1 z2
          subst z2
          exact hx.2.1 i ds z1
        | succ j => exact h2 j i ds v' (by simpa using z1) (by simpa using z2)
      · cases j with
        | zero => simp only [List.getElem?_cons_zero, Option.some.injEq] at z; exact hx.2.2 ds z
        | succ j => exact h3 j ds (by simpa using z)
theorem apart_ok : ∀ {as : List Arg}, apart as = true → ∀ (j k i : Nat) (ds es : List D), as[j]? = some (.lent i ds) → as[k]? = some (.lent i es) → j = k
  | [], _, j, k, i, ds, es, e, _ => by simp at e
  | a :: r, h, j, k, i, ds, es, e1, e2 => by
    have tail : apart r = true := by
      cases a <;> simp [apart] at h <;> first | exact h | exact h.2
    have head : ∀ (m : Nat) (xs ys : List D), a = .lent i xs → r[m]? = some (.lent i ys) → False := fun m xs ys ea em => by
      subst ea
      simp only [apart, Bool.and_eq_true] at h
      have := List.all_eq_true.mp h.1 _ (List.mem_of_getElem? em)
      simp at this
    cases j with
    | zero =>
      cases k with
      | zero => rfl
      | succ k => exact (head k _ _ (by simpa using e1) (by simpa using e2)).elim
    | succ j =>
      cases k with
      | zero => exact (head j _ _ (by simpa using e2) (by simpa using e1)).elim
      | succ k => rw [apart_ok tail j k i ds es (by simpa using e1) (by simpa using e2)]
theorem mem_ioOf : ∀ {vs : List V} {cs : List Cell} {k : Nat} {p : Nat × Addr}, p ∈ ioOf vs cs k → ∃ (j : Nat) (ds : List D), p.1 = k + j ∧ vs[j]? = some (.ref p.2) ∧ cs[j]? = some (.own ds)
  | [], _, k, p, h => by simp [ioOf] at h
  | _ :: _, [], k, p, h => by simp [ioOf] at h
  | v :: vs, x :: cs, k, p, h => by
    have go : p ∈ ioOf vs cs (k + 1) → ∃ (j : Nat) (ds : List D), p.1 = k + j ∧ (v :: vs)[j]? = some (.ref p.2) ∧ (x :: cs)[j]? = some (.own ds) := fun h => by
      obtain ⟨j, ds, h1, h2, h3⟩ := mem_ioOf h
      exact ⟨j + 1, ds, by omega, by simpa using h2, by simpa using h3⟩
    unfold ioOf at h
    split at h
    · rename_i e1 e2
      cases e1
      cases e2
      rcases List.mem_cons.mp h with rfl | h
      · exact ⟨0, _, rfl, rfl, rfl⟩
      · exact go h
    · rename_i e1 e2
      cases e1
      cases e2
      exact go h
    · cases h
theorem ioOf_mem : ∀ {vs : List V} {cs : List Cell} {k : Nat} {j : Nat} {a : Addr} {ds : List D}, vs[j]? = some (.ref a) → cs[j]? = some (.own ds) → (k + j, a) ∈ ioOf vs cs k
  | [], _, _, _, _, _, h, _ => by simp at h
  | _ :: _, [], _, _, _, _, _, h => by simp at h
  | v :: vs, x :: cs, k, 0, a, ds, h1, h2 => by
    simp only [List.getElem?_cons_zero, Option.some.injEq] at h1 h2
    subst h1 h2
    unfold ioOf
    exact List.mem_cons_self
  | v :: vs, x :: cs, k, j + 1, a, ds, h1, h2 => by
    have := ioOf_mem (k := k + 1) (by simpa using h1) (by simpa using h2)
    have e : k + (j + 1) = k + 1 + j := by omega
    rw [e]
    unfold ioOf
    split
    · rename_i e1 e2; cases e1; cases e2; exact List.mem_cons_of_mem _ this
    · rename_i e1 e2; cases e1; cases e2; exact this
    · rename_i h; exact (h _ _ _ _ rfl rfl).elim
structure Tmp (c : Fc) (σ : L2.St) (H : Hp) (F : Fz) (ρ : Rho) (a : Addr) : Prop where
  ls : ∃ xs, H a = some (.lst xs)
  nf : ¬ F a
  h0 : c.H0 a = none
  no : ∀ (i : Nat) (ys : List D), ρ[i]? = some (some (.own ys)) → σ[i]? ≠ some (some (.ref a))
  tm : ∀ p ∈ c.tm, p.1 ≠ a
structure ArgsOk (K : PySem.W.Frag) (mg : Str → Option Value) (c : Fc) (σ : L2.St) (H : Hp) (F : Fz) (ρ : Rho) (vs : List V) (as : List Arg) : Prop where
  a1 : Paired (AR K mg H F) vs (as.map Arg.cell)
  a2 : ∀ (j i : Nat) (ds : List D) (v : V), as[j]? = some (.lent i ds) → vs[j]? = some v → σ[i]? = some (some v) ∧ ρ[i]? = some (some (.own ds))
  a3 : ∀ (j : Nat) (ds : List D) (a : Addr), as[j]? = some (.temp ds) → vs[j]? = some (.ref a) → Tmp c σ H F ρ a
  a4 : ∀ (j k : Nat) (ds es : List D), as[j]? = some (.temp ds) → as[k]? = some (.temp es) → j = k
theorem ArgsOk.of (R : Rel K mg c σ H F ρ) {vs : List V} {rs : List RV} {as : List Arg} (hp : Paired (OR K mg σ H F) vs rs) (ea : argsOf ρ rs = some as) : ArgsOk K mg c σ H F ρ vs as := by
  obtain ⟨a1, a2, a3⟩ := args_ok R hp ea
  exact ⟨a1, a2, fun j ds a e _ => absurd e (a3 j ds), fun j k ds es e _ => absurd e (a3 j ds)⟩
theorem ArgsOk.lent {vs : List V} {as : List Arg} (A : ArgsOk K mg c σ H F ρ vs as) {j : Nat} {a : Addr} {ds : List D} (e1 : vs[j]? = some (.ref a)) (e2 : (as.map Arg.cell)[j]? = some (.own ds)) :
    (∃ i, as[j]? = some (.lent i ds) ∧ σ[i]? = some (some (.ref a)) ∧ ρ[i]? = some (some (.own ds))) ∨ (as[j]? = some (.temp ds) ∧ Tmp c σ H F ρ a) := by
  rw [List.getElem?_map] at e2
  cases q : as[j]? with
  | none => rw [q] at e2; cases e2
  | some x =>
    rw [q] at e2
    cases x with
    | val d => cases e2
    | temp es => cases e2; exact .inr ⟨rfl, A.a3 j ds a q e1⟩
    | lent i es =>
      cases e2
      exact .inl ⟨i, rfl, A.a2 j i ds _ q e1⟩
theorem ArgsOk.own {vs : List V} {as : List Arg} (A : ArgsOk K mg c σ H F ρ vs as) (R : Rel K mg c σ H F ρ) (j : Nat) (a : Addr) (ds : List D) (e1 : vs[j]? = some (.ref a)) (e2 : (as.map Arg.cell)[j]? = some (.own ds)) :
    ¬ F a ∧ (∃ xs, H a = some (.lst xs)) ∧ (a ∈ c.io.map (·.2) ∨ c.H0 a = none) := by
  rcases A.lent e1 e2 with ⟨i, q1, q2, q3⟩ | ⟨_, t⟩
  · obtain ⟨v, e3, b, xs, rfl, h1, _, h3, h4⟩ := R.cel i _ q3
    rw [q2] at e3
    cases e3
    exact ⟨h3, ⟨xs, h1⟩, h4.imp (fun z => List.mem_map.mpr ⟨_, z, rfl⟩) (fun z => z.1)⟩
  · exact ⟨t.nf, t.ls, .inr t.h0⟩
theorem back_ok : ∀ {vs : List V} {as : List Arg} {os : List (List D)} {ρ ρ' : Rho}, OutsR K mg H' F' vs (as.map Arg.cell) os → back as os ρ = some ρ' →
    ρ'.length = ρ.length ∧ ∀ (i : Nat) (x : Cell), ρ'[i]? = some (some x) → (ρ[i]? = some (some x) ∧ ∀ (j : Nat) (ds : List D), as[j]? ≠ some (.lent i ds)) ∨
      ∃ (j : Nat) (ds o : List D) (v : V), as[j]? = some (.lent i ds) ∧ vs[j]? = some v ∧ x = .own o ∧ ∃ a xs, v = .ref a ∧ H' a = some (.lst xs) ∧ RpAll K mg H' F' xs o
  | vs, [], os, ρ, ρ', h, e => by
    cases os with
    | nil => cases e; exact ⟨rfl, fun i x z => .inl ⟨z, fun j ds z => by simp at z⟩⟩
    | cons _ _ => cases e
  | [], a :: as, os, ρ, ρ', h, e => by
    cases a <;> exact h.elim
  | v :: vs, .val d :: as, os, ρ, ρ', h, e => by
    obtain ⟨h1, h2⟩ := back_ok (vs := vs) (as := as) (os := os) (ρ := ρ) (ρ' := ρ') (by simpa [OutsR, Arg.cell] using h) (by simpa [back] using e)
    refine ⟨h1, fun i x z => ?_⟩
    rcases h2 i x z with ⟨q1, q2⟩ | ⟨j, ds, o, w, q1, q2, q3⟩
    · exact .inl ⟨q1, fun j ds z => by cases j with
        | zero => simp at z
        | succ j => exact q2 j ds (by simpa using z)⟩
    · exact .inr ⟨j + 1, ds, o, w, by simpa using q1, by simpa using q2, q3⟩
  | v :: vs, .lent k es :: as, [], ρ, ρ', h, e => by cases e
  | v :: vs, .temp es :: as, [], ρ, ρ', h, e => by cases e
  | v :: vs, .lent k es :: as, o :: os, ρ, ρ', h, e => by
    have h' : (∃ a xs, v = .ref a ∧ H' a = some (.lst xs) ∧ RpAll K mg H' F' xs o) ∧ OutsR K mg H' F' vs (as.map Arg.cell) os := h
    have e' : back as os (ρ.set k (some (.own o))) = some ρ' := e
    obtain ⟨h1, h2⟩ := back_ok h'.2 e'
    refine ⟨by rw [h1, List.length_set], fun i x z => ?_⟩
    rcases h2 i x z with ⟨q1, q2⟩ | ⟨j, ds, o', w, q1, q2, q3⟩
    · by_cases hk : k = i
      · subst hk
        refine .inr ⟨0, es, o, v, rfl, rfl, ?_, h'.1⟩
        by_cases hl : k < ρ.length
        · rw [List.getElem?_set_self hl] at q1
          exact (Option.some.inj (Option.some.inj q1)).symm
        · rw [List.getElem?_eq_none (by rw [List.length_set]; omega)] at q1; cases q1
      · rw [List.getElem?_set_ne hk] at q1
        refine .inl ⟨q1, fun j ds z => ?_⟩
        cases j with
        | zero => simp at z; exact hk z.1
        | succ j => exact q2 j ds (by simpa using z)
    · exact .inr ⟨j + 1, ds, o', w, by simpa using q1, by simpa using q2, q3⟩
  | v :: vs, .temp es :: as, o :: os, ρ, ρ', h, e => by
    have h' : (∃ a xs, v = .ref a ∧ H' a = some (.lst xs) ∧ RpAll K mg H' F' xs o) ∧ OutsR K mg H' F' vs (as.map Arg.cell) os := h
    have e' : back as os ρ = some ρ' := e
    obtain ⟨h1, h2⟩ := back_ok h'.2 e'
    refine ⟨h1, fun i x z => ?_⟩
    rcases h2 i x z with ⟨q1, q2⟩ | ⟨j, ds, o', w, q1, q2, q3⟩
    · exact .inl ⟨q1, fun j ds z => by cases j with
        | zero => simp at z
        | succ j => exact q2 j ds (by simpa using z)⟩
    · exact .inr ⟨j + 1, ds, o', w, by simpa using q1, by simpa using q2, q3⟩
theorem call_frame {vs : List V} {cs : List Cell} (R : Rel K mg c σ H F ρ) (ho : ∀ (j : Nat) (a : Addr) (ds : List D), vs[j]? = some (.ref a) → cs[j]? = some (.own ds) → ¬ F a ∧ (∃ xs, H a = some (.lst xs)) ∧ (a ∈ c.io.map (·.2) ∨ c.H0 a = none))
    (f : Fr ⟨H, F, ioOf vs cs 0, [], c.tb⟩ H' F') : Mon H F H' F' ∧ Fr c H' F' ∧ ∀ a, (∀ p ∈ ioOf vs cs 0, p.2 ≠ a) → (∀ xs, H a = some (.lst xs) → H' a = some (.lst xs)) := by
  have io : ∀ a, a ∈ (ioOf vs cs 0).map (·.2) → ¬ F a ∧ (∃ xs, H a = some (.lst xs)) ∧ (a ∈ c.io.map (·.2) ∨ c.H0 a = none) := fun a h => by
    obtain ⟨p, hp, rfl⟩ := List.mem_map.mp h
    obtain ⟨j, ds, _, h2, h3⟩ := mem_ioOf hp
    exact ho j _ ds h2 h3
  refine ⟨⟨fun a h => ⟨f.f0 a h, ?_⟩, fun a xs h => f.keep a _ h (fun z => ?_) (fun ps z => by cases z), fun a o u h => f.keep a _ h (fun z => ?_) (fun ps z => by cases z)⟩, ⟨fun a o h n t => ?_, fun a h => R.fr.free a (f.free a h), fun t => f.tabs (R.fr.tabs t), fun a h => f.f0 a (R.fr.f0 a h), fun a h => ?_, f.fl⟩, fun a n xs h => f.keep a _ h (fun z => ?_) (fun ps z => by cases z)⟩
  · obtain ⟨xs, e⟩ := R.fr.fl a h
    rw [e]
    exact f.keep a _ e (fun z => (io a z).1 h) (fun ps z => by cases z)
  · obtain ⟨_, ⟨ys, e⟩, _⟩ := io a z
    rw [h] at e; cases e
  · obtain ⟨_, ⟨ys, e⟩, _⟩ := io a z
    rw [h] at e; cases e
  · refine f.keep a o (R.fr.keep a o h n t) (fun z => ?_) t
    rcases (io a z).2.2 with z | z
    · exact n z
    · rw [h] at z; cases z
  · rcases f.f1 a h with h | h
    · exact R.fr.f1 a h
    · exact .inr (R.fr.free a h)
  · obtain ⟨p, hp, e⟩ := List.mem_map.mp z
    exact n p hp e
theorem call_back {vs : List V} {as : List Arg} {os : List (List D)} (R : Rel K mg c σ H F ρ) (A : ArgsOk K mg c σ H F ρ vs as)
    (f : Fr ⟨H, F, ioOf vs (as.map Arg.cell) 0, [], c.tb⟩ H' F') (ho : OutsR K mg H' F' vs (as.map Arg.cell) os) (eb : back as os ρ = some ρ') : Mon H F H' F' ∧ Rel K mg c σ H' F' ρ' := by
  have a2 := A.a2
  obtain ⟨m, fr, stay⟩ := call_frame R (A.own R) f
  obtain ⟨bl, bc⟩ := back_ok ho eb
  have g : ∀ {i : Nat} {xs : List D}, ρ'[i]? = some (some (.own xs)) → ∃ ys, ρ[i]? = some (some (.own ys)) := fun {i xs} e => by
    rcases bc i _ e with ⟨q1, q2⟩ | ⟨j, ds, o, v, q1, q2, q3⟩
    · exact ⟨_, q1⟩
    · exact ⟨_, (a2 j i ds v q1 q2).2⟩
  refine ⟨m, fr, R.len.trans bl.symm, fun i x e => ?_, fun i j a xs ys e1 e2 e3 e4 => ?_, fun p hp => ?_⟩
  · rcases bc i x e with ⟨q1, q2⟩ | ⟨j, ds, o, v, q1, q2, rfl, a, xs, rfl, h1, h2⟩
    · obtain ⟨v, e1, e2⟩ := R.cel i x q1
      refine ⟨v, e1, ?_⟩
      cases x with
      | val d => exact Rp.mono m d e2
      | own ds =>
        obtain ⟨a, xs, rfl, h1, h2, h3, h4⟩ := e2
        refine ⟨a, xs, rfl, stay a (fun p hp z => ?_) xs h1, RpAll.mono m ds h2, fun z => ?_, h4⟩
        · obtain ⟨j, es, _, p2, p3⟩ := mem_ioOf hp
          subst z
          rcases A.lent p2 p3 with ⟨i', r1, r2, r3⟩ | ⟨_, t⟩
          · have := R.dis i i' _ ds es q1 r3 e1 r2
            subst this
            exact q2 j es r1
          · exact t.no i ds q1 e1
        · rcases f.f1 a z with z | z
          · exact h3 z
          · have z : H a = none := z
            rw [h1] at z; cases z
    · obtain ⟨s1, s2⟩ := a2 j i ds _ q1 q2
      obtain ⟨v', e3, b, ys, rfl, g1, _, g3, g4⟩ := R.cel i _ s2
      rw [s1] at e3
      cases e3
      refine ⟨_, s1, a, xs, rfl, h1, h2, fun z => ?_, g4⟩
      rcases f.f1 a z with z | z
      · exact g3 z
      · have z : H a = none := z
        rw [g1] at z; cases z
  · obtain ⟨xs', g1⟩ := g e1
    obtain ⟨ys', g2⟩ := g e2
    exact R.dis i j a xs' ys' g1 g2 e3 e4
  · obtain ⟨h1, h2, h3, h4⟩ := R.tmp p hp
    refine ⟨stay p.1 (fun q hq z => ?_) _ h1, fun z => ?_, h3, fun i ys e => ?_⟩
    · obtain ⟨j, es, _, p2, p3⟩ := mem_ioOf hq
      rcases A.lent p2 p3 with ⟨i', r1, r2, r3⟩ | ⟨_, t⟩
      · exact h4 i' es r3 (by rw [← z]; exact r2)
      · exact t.tm p hp z.symm
    · rcases f.f1 _ z with z | z
      · exact h2 z
      · have z : H p.1 = none := z
        rw [h1] at z; cases z
    · obtain ⟨ys', g1⟩ := g e
      exact h4 i ys' g1
end
section
variable {X : Cx} {c : Fc} {W : WX} {C : Cfg} {S : Sco} {k : Nat} (V1 : Env1 X c W C S k)
include V1
theorem sp_ofA {m : FM} {as : List Arg} {σ : L2.St} {H : Hp} {F : Fz} {ρ : Rho} {vs : List V} {Q : VK} (R : Rel X.K X.mg c σ H F ρ) (A : ArgsOk X.K X.mg c σ H F ρ vs as) (hap : apart as = true)
    (p : Post X.K X.mg c W σ H F ((m (as.map Arg.cell)).bind fun p => match back as p.2 ρ with
      | some ρ' => .ok (p.1.rv, ρ')
      | none => .stuck) fun r ρ' H' F' => ∀ v, RVR X.K X.mg c σ H' F' ρ' v r → Q v H') : spOf X.K X.mg S.tb m vs H Q (fun cls d H' => W cls d σ H') := by
  refine ⟨F, as.map Arg.cell, R.fr.fl, V1.tbs ▸ R.fr.tabs (V1.tbs ▸ V1.tabs), A.a1, fun i j a xs ys e1 e2 e3 e4 => ?_, ?_⟩
  · rcases A.lent e3 e1 with ⟨i', r1, r2, r3⟩ | ⟨r1, t⟩
    · rcases A.lent e4 e2 with ⟨j', s1, s2, s3⟩ | ⟨s1, t⟩
      · have := R.dis i' j' a xs ys r3 s3 r2 s2
        subst this
        exact apart_ok hap i j i' xs ys r1 s1
      · exact absurd r2 (t.no i' xs r3)
    · rcases A.lent e4 e2 with ⟨j', s1, s2, s3⟩ | ⟨s1, _⟩
      · exact absurd s2 (t.no j' ys s3)
      · exact A.a4 i j xs ys r1 s1
  · cases hm : m (as.map Arg.cell) with
    | stuck => rw [hm] at p; exact p.elim
    | exc e l =>
      rw [hm] at p
      intro cls d H' F' f x
      obtain ⟨mo, fr, _⟩ := call_frame R (A.own R) (V1.tbs ▸ f)
      exact p cls d H' F' mo fr x
    | ok y =>
      obtain ⟨r, os⟩ := y
      rw [hm] at p
      intro v H' F' f ho hr
      simp only [Out.bind] at p
      cases eb : back as os ρ with
      | none => rw [eb] at p; exact p.elim
      | some ρ' =>
        rw [eb] at p
        obtain ⟨mo, R'⟩ := call_back R A (V1.tbs ▸ f) ho eb
        refine p H' F' mo R' v ?_
        cases r with
        | val d => exact hr
        | fresh ds =>
          obtain ⟨a, xs, rfl, h1, h2, h3, h4⟩ := hr
          refine ⟨a, xs, rfl, h1, h2, h3, R.fr.free a h4, fun i ys e z => ?_, fun p hp z => (by
            have g1 := (R.tmp p hp).1
            rw [z, h4] at g1; cases g1)⟩
          obtain ⟨bl, bc⟩ := back_ok ho eb
          have g : ∃ ys, ρ[i]? = some (some (.own ys)) := by
            rcases bc i _ e with ⟨q1, q2⟩ | ⟨j, ds, o, v, q1, q2, q3⟩
            · exact ⟨_, q1⟩
            · exact ⟨_, (A.a2 j i ds v q1 q2).2⟩
          obtain ⟨zs, g⟩ := g
          obtain ⟨v', e5, b, ws, rfl, g1, _⟩ := R.cel i _ g
          rw [z] at e5
          cases e5
          rw [h4] at g1; cases g1
theorem sp_of {m : FM} {rs : List RV} {σ : L2.St} {H : Hp} {F : Fz} {ρ : Rho} {vs : List V} {Q : VK} (R : Rel X.K X.mg c σ H F ρ) (hp : Paired (OR X.K X.mg σ H F) vs rs)
    (p : Post X.K X.mg c W σ H F (callF m rs ρ) fun r ρ' H' F' => ∀ v, RVR X.K X.mg c σ H' F' ρ' v r → Q v H') : spOf X.K X.mg S.tb m vs H Q (fun cls d H' => W cls d σ H') := by
  unfold callF at p
  split at p
  · exact p.elim
  · rename_i as ea
    split at p
    · rename_i hap
      exact sp_ofA V1 R (ArgsOk.of R hp ea) hap p
    · exact p.elim
theorem px_call {x : Str} {e : Expr} {es : List Expr} {fs : M (List RV)} {p pos : Pos} (hpr : S.pres x = true) (hg : Gl X x) (hdb : (x == ("__debug__" : Str)) = false)
    (he : starEach (e :: es) X.env = (false, eval e X.env) :: starEach es X.env) (hpl : (backTo pos (starEach es X.env)).any (·.1) = false) (ha : PAX X c W (e :: es) fs) :
    PX X c W (.Call (.Name x p) (e :: es) [] pos) (M.bind fs fun rs => callF (C.Φ x) rs) := by
  obtain ⟨f, fd, ps, h1, h2, h3, h4⟩ := V1.fns x hpr
  refine peImp (pe_callSD (E := fun σ cls d H' => W cls d σ H') (ds := []) (dvs := []) h4 V1.room hg h1 h2 h3 .nil (fun σ => L2N.passAt V1.takes σ) ha hdb he hpl) fun σ H Q ⟨F, ρ, R, q⟩ => ⟨F, ρ, R, (Post.bind q).mono fun rs ρ1 H1 F1 m1 R1 p1 vs hvs => ?_⟩
  show spOf X.K X.mg S.tb (C.Φ x) (vs ++ []) H1 Q _
  rw [List.append_nil]
  exact sp_of V1 R1 hvs p1
end
end G
set_option maxHeartbeats 4000000
namespace G
open PySem PySem.Spec PyProof.Rows L2
section
variable {K : PySem.W.Frag} {mg : Str → Option Value} {c : Fc} {W : WX} {σ : L2.St} {H H' H1 : Hp} {F F' F1 : Fz} {ρ ρ' : Rho}
theorem tabs_write {a : Addr} {xs ys : List V} {P : Addr} {q : Str} (h : H a = some (.lst xs)) (t : LamX.TabS H P q) : LamX.TabS (upd H a (.lst ys)) P q := by
  obtain ⟨ps, h1, h2, h3⟩ := t
  have n1 : P ≠ a := fun z => by rw [z, h] at h1; cases h1
  refine ⟨ps, by rw [upd_ne n1]; exact h1, h2, fun pos cv hc => ?_⟩
  obtain ⟨b, e1, e2⟩ := h3 pos cv hc
  refine ⟨b, e1, ?_⟩
  have n2 : b ≠ a := fun z => by rw [z, h] at e2; unfold LamX.CodeO at e2; cases e2
  rw [upd_ne n2]; exact e2
theorem Rel.write {i : Nat} {a : Addr} {xs ys : List V} {ds es : List D} (R : Rel K mg c σ H F ρ) (hi : ρ[i]? = some (some (.own ds))) (hv : σ[i]? = some (some (.ref a))) (h : H a = some (.lst xs)) (r : RpAll K mg H F ys es) :
    Mon H F (upd H a (.lst ys)) F ∧ Rel K mg c σ (upd H a (.lst ys)) F (ρ.set i (some (.own es))) := by
  obtain ⟨v, e1, b, zs, rfl, h1, h2, h3, h4⟩ := R.cel i _ hi
  rw [hv] at e1
  cases e1
  rw [h] at h1
  cases h1
  have hil : i < ρ.length := (List.getElem?_eq_some_iff.mp hi).1
  have g : ∀ {j : Nat} {x : List D}, (ρ.set i (some (.own es)))[j]? = some (some (.own x)) → ∃ y, ρ[j]? = some (some (.own y)) := fun {j x} e => by
    by_cases hj : i = j
    · subst hj; exact ⟨ds, hi⟩
    · rw [List.getElem?_set_ne hj] at e; exact ⟨x, e⟩
  have ne : ∀ b u, H b = some u → (∀ q, u ≠ .lst q) → b ≠ a := fun b u e n z => by rw [z, h] at e; cases e; exact n _ rfl
  have m : Mon H F (upd H a (.lst ys)) F := ⟨fun b hb => ⟨hb, upd_ne (fun z => h3 (z ▸ hb))⟩, fun b q e => by rw [upd_ne (ne b _ e (fun _ z => by cases z))]; exact e, fun b o u e => by rw [upd_ne (ne b _ e (fun _ z => by cases z))]; exact e⟩
  refine ⟨m, ⟨fun b o e n t => ?_, fun b e => R.fr.free b ?_, fun t p hp => tabs_write h (R.fr.tabs t p hp), R.fr.f0, R.fr.f1, fun b hb => ?_⟩, by rw [List.length_set]; exact R.len, fun j x e => ?_, fun j k b us ws e1 e2 e3 e4 => ?_, fun p hp => ?_⟩
  · have hb : b ≠ a := fun z => by
      subst z
      rcases h4 with h4 | h4
      · exact n (List.mem_map.mpr ⟨_, h4, rfl⟩)
      · rw [h4.1] at e; cases e
    rw [upd_ne hb]; exact R.fr.keep b o e n t
  · by_cases hb : b = a
    · subst hb; rw [upd_same] at e; cases e
    · rw [upd_ne hb] at e; exact e
  · obtain ⟨us, e⟩ := R.fr.fl b hb
    have nb : b ≠ a := fun z => h3 (by rw [z] at hb; exact hb)
    exact ⟨us, by rw [upd_ne nb]; exact e⟩
  · by_cases hj : i = j
    · subst hj
      rw [List.getElem?_set_self hil] at e
      cases e
      exact ⟨_, hv, a, ys, rfl, upd_same, RpAll.mono m es r, h3, h4⟩
    · rw [List.getElem?_set_ne hj] at e
      obtain ⟨v, e1, e2⟩ := R.cel j x e
      refine ⟨v, e1, ?_⟩
      cases x with
      | val d => exact Rp.mono m d e2
      | own us =>
        obtain ⟨b, ws, rfl, q1, q2, q3, q4⟩ := e2
        have nb : b ≠ a := fun z => hj (R.dis i j a ds us hi e hv (by rw [z] at e1; exact e1))
        exact ⟨b, ws, rfl, by rw [upd_ne nb]; exact q1, RpAll.mono m us q2, q3, q4⟩
  · obtain ⟨u1, g1⟩ := g e1
    obtain ⟨u2, g2⟩ := g e2
    exact R.dis j k b u1 u2 g1 g2 e3 e4
  · obtain ⟨h1, h2, h3, h4⟩ := R.tmp p hp
    have np : p.1 ≠ a := fun z => h4 i ds hi (by rw [z]; exact hv)
    exact ⟨by rw [upd_ne np]; exact h1, h2, h3, fun j ys e => by obtain ⟨y, e'⟩ := g e; exact h4 j y e'⟩
end
section
variable {X : Cx}
def MtN (X : Cx) (id : String) (g : D → List D → Option Rs) : Prop :=
  MtR X id (fun x xs H Q => ∃ F d ds r, (∀ a, F a → ∃ xs, H a = some (.lst xs)) ∧ RB X.K X.mg H F x d ∧ RBs X.K X.mg H F xs ds ∧ g d ds = some r ∧ ∀ v H', Grow H H' → RsR X.K X.mg H H' F v r → Q v H')
theorem m_join : MtN X "str.join" mJoin := by
  intro pins s σ H x xs v us Q I rx rs h
  obtain ⟨F, d, ds, r, fl, hx, hxs, e, q⟩ := h
  unfold mJoin at e
  split at e
  · obtain ⟨ys, e1, e2⟩ := Option.bind_eq_some_iff.mp e
    split at e2
    · rename_i hz
      cases e2
      obtain rfl := hx.str
      have hh := hxs.one
      clear hxs
      obtain ⟨y, rfl, hy⟩ := hh
      obtain ⟨a, zs, rfl, e3, r3⟩ := hy.list
      obtain rfl := r3.strsV e1
      exact mt_join pins s σ H _ _ v us Q I rx rs ⟨_, a, ys, rfl, rfl, .inl (SqL.of e3), hz, q _ _ (Same.refl H) (.str _)⟩
    · cases e2
  · obtain ⟨ys, e1, e2⟩ := Option.bind_eq_some_iff.mp e
    split at e2
    · rename_i hz
      cases e2
      obtain rfl := hx.str
      have hh := hxs.one
      clear hxs
      obtain ⟨y, rfl, hy⟩ := hh
      obtain ⟨a, zs, rfl, e3, r3⟩ := hy.tup
      obtain rfl := r3.strsV e1
      exact mt_join pins s σ H _ _ v us Q I rx rs ⟨_, a, ys, rfl, rfl, .inr e3, hz, q _ _ (Same.refl H) (.str _)⟩
    · cases e2
  · cases e
theorem strsD_mapG : ∀ (ys : List Str), strsD (ys.map .str) = some ys
  | [] => rfl
  | y :: r => by simp [strsD, strsD_mapG r]
theorem rpAll_strs {K : PySem.W.Frag} {mg : Str → Option Value} {H : Hp} {F : Fz} : ∀ (ys : List Str), RpAll K mg H F (ys.map V.str) (ys.map PyData.str)
  | [] => .nil
  | y :: r => .cons (.str y) (rpAll_strs r)
theorem m_split : MtN X "str.split" mSplit := by
  intro pins s σ H x xs v us Q I rx rs h
  obtain ⟨F, d, ds, r, fl, hx, hxs, e, q⟩ := h
  unfold mSplit at e
  split at e
  · split at e
    · rename_i hz
      cases e
      obtain rfl := hx.str
      have hh := hxs.one
      clear hxs
      obtain ⟨y, rfl, hy⟩ := hh
      obtain rfl := hy.str
      refine mt_split pins s σ H _ _ v us Q I rx rs ⟨_, _, rfl, rfl, hz.1, hz.2, fun p hp => ?_⟩
      obtain ⟨g, t⟩ := lst_new (X := X) (F := F) (mg := X.mg) fl hp (rpAll_strs _)
      exact q _ _ g t
    · cases e
  · cases e
theorem m_startswith : MtN X "str.startswith" mStartswith := by
  intro pins s σ H x xs v us Q I rx rs h
  obtain ⟨F, d, ds, r, fl, hx, hxs, e, q⟩ := h
  unfold mStartswith at e
  split at e
  · cases e
    obtain rfl := hx.str
    have hh := hxs.one
    clear hxs
    obtain ⟨y, rfl, hy⟩ := hh
    obtain rfl := hy.str
    exact mt_startswith pins s σ H _ _ v us Q I rx rs ⟨_, _, rfl, rfl, q _ _ (Same.refl H) (.bl _)⟩
  · cases e
theorem m_upper : MtN X "str.upper" mUpper := by
  intro pins s σ H x xs v us Q I rx rs h
  obtain ⟨F, d, ds, r, fl, hx, hxs, e, q⟩ := h
  unfold mUpper at e
  split at e
  · split at e
    · rename_i hz
      cases e
      obtain rfl := hx.str
      have hh := hxs.zero
      clear hxs
      subst hh
      exact mt_upper pins s σ H _ _ v us Q I rx rs ⟨_, rfl, rfl, hz, q _ _ (Same.refl H) (.str _)⟩
    · cases e
  · cases e
def eqs (y : Str) (v : Value) : Bool := match v with
  | .str n _ => decide (n = y)
  | _ => false
theorem eqs_at {A : Around} {s : Shared} {y : Str} {t : Tok} : ∀ {us : List Value} {zs : List Str}, Vals (zs.map V.str) us → ∀ v ∈ us, SeqAt.EqAt A s v (.str y t) (eqs y v)
  | _, [], h => fun v hv => by cases h; cases hv
  | _, z :: zs, h => fun v hv => by
    cases h with
    | cons r rr =>
      rcases List.mem_cons.mp hv with e | e
      · subst e
        obtain ⟨t', rfl⟩ := r
        have : eqs y (.str z t') = (z.cps.toList == y.cps.toList) := by
          show decide (z = y) = _
          have e : (z.cps.toList == y.cps.toList) = decide (z.cps.toList = y.cps.toList) := by
            rw [Bool.eq_iff_iff]; simp
          rw [e]
          apply decide_eq_decide.mpr
          cases z; cases y
          simp
        rw [this]
        exact (SeqRoads2.EqGives.str z y t' t).at A s
      · exact eqs_at rr v e
theorem eqs_countP {y : Str} : ∀ {us : List Value} {zs : List Str}, Vals (zs.map V.str) us → us.countP (eqs y) = zs.countP fun z => decide (z = y)
  | _, [], h => by cases h; rfl
  | _, z :: zs, h => by
    cases h with
    | cons r rr =>
      obtain ⟨t', rfl⟩ := r
      rw [List.countP_cons, List.countP_cons, eqs_countP rr]
      rfl
theorem m_count : MtN X "list.count" mCount := by
  intro pins s σ H x xs v us Q I rx rs h
  obtain ⟨F, d, ds, r, fl, hx, hxs, e, q⟩ := h
  unfold mCount at e
  split at e
  · obtain ⟨zs, e1, e2⟩ := Option.map_eq_some_iff.mp e
    cases e2
    have hh := hxs.one
    clear hxs
    obtain ⟨w, rfl, hw⟩ := hh
    obtain rfl := hw.str
    obtain ⟨a, vs, rfl, e3, r3⟩ := hx.list
    obtain rfl := r3.strsV e1
    cases rx
    obtain ⟨u, rfl, ru⟩ := rs.one
    obtain ⟨t, rfl⟩ := ru
    obtain ⟨its, rv, ⟨⟨cls, dd, data, sl⟩, n, ho, hc, hdn, hd⟩, hlen⟩ := I.list (SqL.of e3)
    simp only at hc hd
    subst hc hd
    refine call_meets PySem.F.slot_list_count ⟨_, ho, rfl⟩ PySem.F.entry_list_count (PySem.F.args_list_count_2 _ _)
      (SeqAt.list_countAt a its.toArray n dd sl (.str _ t) (eqs _)) ⟨ho, fun y hy => eqs_at rv y (by simpa using hy), ?_⟩
    refine ⟨.int _, H, I.tok _, ⟨s.toks, ?_⟩, q _ _ (Same.refl H) (.int _)⟩
    rw [show its.toArray.toList = its from rfl, eqs_countP rv]
  · cases e
def LmN (X : Cx) (id : String) (g : List D → List D → Option (D × List D)) : Prop :=
  MtR X id (fun x xs H Q => ∃ F a vs ds es y zs, (∀ a, F a → ∃ xs, H a = some (.lst xs)) ∧ x = .ref a ∧ H a = some (.lst vs) ∧ RpAll X.K X.mg H F vs ds ∧ RpAll X.K X.mg H F xs es ∧ g ds es = some (y, zs) ∧
    ∀ v ws, Rp X.K X.mg H F v y → RpAll X.K X.mg H F ws zs → Q v (upd H a (.lst ws)))
theorem lm_appendG : LmN X "list.append" lAppend := by
  intro pins s σ H x xs v us Q I rx rs h
  obtain ⟨F, a, vs, ds, es, y, zs, fl, rfl, h1, h2, h3, e, q⟩ := h
  unfold lAppend at e
  split at e
  · split at e
    · rename_i hz
      cases e
      cases h3 with
      | cons b bs =>
        cases bs
        exact mt_append pins s σ H _ _ v us Q I rx rs ⟨a, vs, _, rfl, rfl, h1, by rw [h2.length]; exact hz, q _ _ .non (h2.append (.cons b .nil))⟩
    · cases e
  · cases e
theorem lm_extendG : LmN X "list.extend" lExtend := by
  intro pins s σ H x xs v us Q I rx rs h
  obtain ⟨F, a, vs, ds, es, y, zs, fl, rfl, h1, h2, h3, e, q⟩ := h
  unfold lExtend at e
  split at e
  · split at e
    · rename_i hz
      cases e
      cases h3 with
      | cons b bs =>
        cases bs
        cases b with
        | lst f e1 r1 =>
          exact mt_extend pins s σ H _ _ v us Q I rx rs ⟨a, _, vs, _, rfl, rfl, h1, e1, by rw [h2.length, r1.length]; exact hz, q _ _ .non (h2.append r1)⟩
    · cases e
  · cases e
theorem dropLast_eq {α : Type} (l : List α) : l.dropLast = l.take (l.length - 1) := List.dropLast_eq_take
theorem lm_pop : LmN X "list.pop" lPop := by
  intro pins s σ H x xs v us Q I rx rs h
  obtain ⟨F, a, vs, ds, es, y, zs, fl, rfl, h1, h2, h3, e, q⟩ := h
  unfold lPop at e
  split at e
  · obtain ⟨d, e1, e2⟩ := Option.map_eq_some_iff.mp e
    cases e2
    cases h3
    rw [← h2.length] at e1
    obtain ⟨w, g1, g2⟩ := h2.get' e1
    refine mt_pop pins s σ H _ _ v us Q I rx rs ⟨a, vs, w, rfl, rfl, h1, g1, q _ _ g2 ?_⟩
    rw [dropLast_eq, dropLast_eq, h2.length]
    exact h2.take _
  · cases e
theorem lm_popAt : LmN X "list.pop" lPopAt := by
  intro pins s σ H x xs v us Q I rx rs h
  obtain ⟨F, a, vs, ds, es, y, zs, fl, rfl, h1, h2, h3, e, q⟩ := h
  unfold lPopAt at e
  split at e
  · split at e
    · rename_i i hz
      obtain ⟨d, e1, e2⟩ := Option.map_eq_some_iff.mp e
      cases e2
      cases h3 with
      | cons b bs =>
        cases bs
        cases b
        obtain ⟨w, g1, g2⟩ := h2.get' e1
        have hl := h2.length
        obtain ⟨hb1, hb2, _, hb4⟩ := I.hok a _ h1
        have hsz := sizeLine_eq
        have hle : ds.length ≤ sizeLine := by rw [← hl]; exact hb1
        refine mt_popAt pins s σ H _ _ v us Q I rx rs ⟨a, vs, i, i.toNat, w, rfl, rfl, h1, by omega, by omega, ?_, g1, q _ _ g2 (h2.eraseIdx _)⟩
        have : ixN vs.length i = some i.toNat := by
          unfold ixN
          rw [if_pos hz.1, if_pos (by rw [hl]; exact hz.2)]
        exact (ixN_seq this).1
    · cases e
  · cases e
theorem lm_insert : LmN X "list.insert" lInsert := by
  intro pins s σ H x xs v us Q I rx rs h
  obtain ⟨F, a, vs, ds, es, y, zs, fl, rfl, h1, h2, h3, e, q⟩ := h
  unfold lInsert at e
  split at e
  · split at e
    · rename_i i y hz
      cases e
      cases h3 with
      | cons b bs =>
        cases bs with
        | cons b' bs =>
          cases bs
          cases b
          exact mt_insert pins s σ H _ _ v us Q I rx rs ⟨a, vs, i, _, rfl, rfl, h1, by rw [h2.length]; exact hz.2.2, hz.1, by omega, q _ _ .non (((h2.take _).append (.cons b' .nil)).append (h2.drop _))⟩
    · cases e
  · cases e
end
end G
set_option maxHeartbeats 4000000
namespace G
open PySem PySem.Spec PyProof.Rows L2
open AutoSeq1 (wpAny_loadPart') in
theorem meets_enumerate_newT (l : Addr) (items : Array Value) (n : Nat) (dct : Option Addr) (sl : Array (Option Value)) :
    Meets (Builtin.«enumerate.__new__» ⟨[.type "enumerate", .ref l], []⟩) (fun _ R s => s.heap.get? l = some { cls := .type "tuple", dict := dct, data := .seq items n, slots := sl } ∧
      R (.ok (.ret (.ref (s.heap.push { cls := .type "tuple_iterator", data := .fields #[.ref l, .int 0 0] }).objs.size)))
        { s with heap := (s.heap.push { cls := .type "tuple_iterator", data := .fields #[.ref l, .int 0 0] }).push { cls := .type "enumerate", data := .fields #[.none, .bool false, .ref s.heap.objs.size, rawInt 0, .none, .none] } }) :=
  .of_wp fun prog w A R s h => by
    obtain ⟨hp, g, d, tk, os⟩ := s; obtain ⟨hl, h⟩ := h
    have hsub := sub_enumerate
    have hL : Heap.IsTuple (Shared.heap ⟨hp, g, d, tk, os⟩) l items := ⟨_, hl, rfl, n, rfl⟩
    wp_walk using wpAny_loadPart' hl
    refine wpAny_stack_any fun st => wpAny_pure ?_
    split
    · rename_i c _ _ _ _ _
      cases (c == Value.type "enumerate")
      · wp_walk using wpAny_loadPart' hl, wpAny_pyIter_tuple hL
        exact ⟨_, rfl, h⟩
      · wp_walk using wpAny_loadPart' hl, wpAny_pyIter_tuple hL
        exact ⟨_, rfl, h⟩
    · wp_walk using wpAny_loadPart' hl, wpAny_pyIter_tuple hL
      exact ⟨_, rfl, h⟩
section
variable {prog : Program} {w : World} {A : Around} {E : Value → Shared → Prop} {s : Shared}
theorem call_enumerate_tuple {l : Addr} {items : Array Value} {Q : Value → Shared → Prop} (hL : s.heap.IsTuple l items)
    (h : ∀ h', IsEnum h' (s.heap.objs.size + 1) s.heap.objs.size 0 .none → h'.IsTupleIter s.heap.objs.size l 0 → h'.objs.size = s.heap.objs.size + 2 →
      (∀ b o, s.heap.get? b = some o → h'.get? b = some o) → Q (.ref (s.heap.objs.size + 1)) { s with heap := h' }) :
    wpAny (model prog w) A (call (.type "enumerate") [.ref l]) Q E s := by
  obtain ⟨⟨c, dct, dt, sl⟩, hl, hc, n, hd⟩ := hL
  replace hc : c = .type "tuple" := hc
  replace hd : dt = .seq items n := hd
  subst hc hd
  refine callType_new F.called_enumerate (by decide) (F.typeCall_enumerate_1 _) (F.newCall_enumerate_1 _) (fun obj => F.args_object_init_2 obj _) F.entry_enumerate_new
    (meets_enumerate_newT l items n dct sl) ⟨hl, ?_⟩
  have hz : (s.heap.push { cls := .type "tuple_iterator", data := .fields #[.ref l, .int 0 0] }).objs.size = s.heap.objs.size + 1 := Heap.size_push ..
  show _ ∧ _
  rw [hz]
  have he : IsEnum ((s.heap.push { cls := .type "tuple_iterator", data := .fields #[.ref l, .int 0 0] }).push
      { cls := .type "enumerate", data := .fields #[.none, .bool false, .ref s.heap.objs.size, rawInt 0, .none, .none] }) (s.heap.objs.size + 1) s.heap.objs.size 0 .none := by
    have := Heap.get?_push_size (s.heap.push { cls := .type "tuple_iterator", data := .fields #[.ref l, .int 0 0] })
      (o := { cls := .type "enumerate", data := .fields #[.none, .bool false, .ref s.heap.objs.size, rawInt 0, .none, .none] }) rfl
    rw [hz] at this; exact this
  refine ⟨⟨_, he, rfl⟩, h _ he ⟨_, Heap.get?_push_of_some _ (Heap.get?_push_size _ rfl), rfl, rfl⟩ (by rw [Heap.size_push, hz]) fun b o x => Heap.get?_push_of_some _ (Heap.get?_push_of_some _ x)⟩
end
def IteT (K : PySem.W.Frag) (a : Addr) : It :=
  ⟨fun i H => ∃ (xs : List V) (x : V), SqT K H a xs ∧ xs[i]? = some x, fun i H v H' => ∃ T x, v = .ref T ∧ H T = none ∧ H' = upd H T (.tup [.int (i : Nat), x]) ∧ ∀ xs, SqT K H a xs → xs[i]? = some x, fun i H => ∃ xs : List V, SqT K H a xs ∧ xs.length ≤ i⟩
theorem turn_enumT {P : Program} {w : World} {K : PySem.W.Frag} {elts : List Expr} {kk : Nat} {tpos : Pos} (a e it : Addr) :
    Turn P w K (.Tuple elts kk tpos) (IteT K a) [e, it] e (fun i h => (∃ old, IsEnum h e it ((i : Nat) : Int) old) ∧ h.IsTupleIter it a i ∧ e ≠ it ∧ e ≠ a ∧ a ≠ it) where
  mem := by simp
  obj := fun i h st b hb => by
    obtain ⟨⟨old, he⟩, ⟨o, ho, hc, hd⟩, _⟩ := st
    have e' : b = e ∨ b = it := by simpa using hb
    rcases e' with z | z
    · rw [z]; exact ⟨_, he, fun v q => nomatch q⟩
    · rw [z]; exact ⟨o, ho, fun v q => by rw [hd] at q; cases q⟩
  keep := fun i h h' st k => let ⟨⟨old, he⟩, hi, hne⟩ := st; ⟨⟨old, k e (by simp) _ he⟩, hi.at fun o q => k it (by simp) o q, hne⟩
  item := by
    intro X hP hw hK hc i pins s σ H E I hf st hg
    subst hP hw hK
    obtain ⟨⟨old, he⟩, hit, hne, hea, hai⟩ := st
    obtain ⟨xs, x, hq, hx⟩ := hg
    obtain ⟨its, rv, p, hz⟩ := I.tuple hq
    obtain ⟨u, hu, ru⟩ := rv.get hx
    have hel : e < s.heap.objs.size := Heap.lt_size he
    have hil : it < s.heap.objs.size := by obtain ⟨_, q, _⟩ := hit; exact Heap.lt_size q
    have hp : s.heap.IsTuple a its.toArray := p
    have hlt : i < its.toArray.size := by
      have := (List.getElem?_eq_some_iff.mp hu).1
      simpa using this
    refine wpAny_pyNext_enum_itemD (Draws.tuple (A := X.A.in1) (I.ok.hd hc) it a hai its.toArray) he ⟨hit, hp⟩ hlt hne (by simp [hne, hea]) fun x' h' tk hPx ho hit' hT hsz hk => ?_
    have hx' : x' = u := by
      have h1 : its.toArray[i]? = some x' := hPx
      have h2 : its.toArray[i]? = some u := by simpa using hu
      rw [h1] at h2; exact Option.some.inj h2
    subst hx'
    refine ⟨_, rfl, wpAny_letOwnedTupleGo_enum (s := { s with heap := h', toks := tk + 1 }) ho fun h'' he' sb => ?_⟩
    have hT2 : h''.get? s.heap.objs.size = some { cls := .type "tuple", data := .seq #[.int i tk, x'] } := (sb.2 _ (Nat.ne_of_gt hel)).trans hT
    have new : ObjOk X.prog X.w (upd H s.heap.objs.size (.tup [.int (i : Nat), x])) h'' s.heap.objs.size (.tup [.int (i : Nat), x]) :=
      ⟨by show 2 ≤ sizeLine; decide, [.int i tk, x'], .cons ⟨_, rfl⟩ (.cons ru .nil), ⟨_, hT2, rfl, _, rfl⟩⟩
    have I1 : Inv X pins σ (upd H s.heap.objs.size (.tup [.int (i : Nat), x])) { s with heap := h'', toks := tk + 1 } :=
      I.turnedNew (ch := [e, it]) (fun b ob hb q => (sb.2 b (fun z => hb (by simp [z]))).trans (hk b ob (fun z => hb (by simp [z])) (fun z => hb (by simp [z])) q)) hf (Nat.le_refl _) new
    refine ⟨.ref s.heap.objs.size, _, I1, rfl, ⟨_, x, rfl, I.hok.fresh (Nat.le_refl _), rfl, fun ys hy => by rw [I.tuple_inj hy hq]; exact hx⟩, ⟨⟨x', ?_⟩, hit'.1.at fun o q => (sb.2 it (Ne.symm hne)).trans q, hne, hea, hai⟩, fun b hb => ?_⟩
    · have e1 : ((i + 1 : Nat) : Int) = (i : Int) + 1 := by omega
      rw [e1]; exact he'
    · have hb' : b < s.heap.objs.size := by
        have e' : b = e ∨ b = it := by simpa using hb
        rcases e' with z | z
        · rw [z]; exact hel
        · rw [z]; exact hil
      rw [upd_ne (Nat.ne_of_lt hb')]
      exact (hf b hb).1
  done := by
    intro X hP hw hK hc i pins s σ H E I hf st hg
    subst hP hw hK
    obtain ⟨⟨old, he⟩, hit, hne, hea, hai⟩ := st
    obtain ⟨xs, hq, hx⟩ := hg
    obtain ⟨its, rv, p, hz⟩ := I.tuple hq
    obtain ⟨f0, f1, f2, f3, f4, f5⟩ := hf it (by simp)
    have hl := rv.length
    have hT : s.TypeIs (.ref e) "enumerate" := ⟨_, he, rfl⟩
    unfold pyNext
    refine wpAny_bind (wpAny_attempt (wpAny_callSpecial?_slot (name := Str.ofString "__next__") hT F.slot_enumerate_next
      (wpAny_call_entry F.slot_enumerate_next hT F.entry_enumerate_next ?_ (F.args_enumerate_next_1 _))))
    show wpAny _ _ (field (.ref e) 2 >>= _) _ _ _
    refine wpAny_bind (wpAny_field he rfl (x := .ref it) rfl ?_)
    refine wpAny_bind (wpAny_nextOf_tuple_end (A := X.A.in1) (I.ok.hd hc) hit (show s.heap.IsTuple a its.toArray from p) (by simp; omega) fun h' x eb hx' => ?_)
    obtain ⟨o, ho, hc'⟩ := hx'
    refine wpAny_bind (wpAny_isInstance (T := "StopIteration") (b := true) ⟨o, ho, hc'⟩ isSubtype_stop ?_)
    exact wpAny_pure ⟨rfl, I.turned (t' := s.toks) (fun b o hb q => eb b o hb q) f0 f1 f3 f4 f5⟩
  self := fun A i s Q E st h => let ⟨⟨_, he⟩, _⟩ := st; wpAny_pyIter_enum he h
section
variable {X : Cx}
def iEnumA (K : PySem.W.Frag) (ta : TA) : TI := fun σ H R => ta σ H fun vs H1 => ∃ a xs, vs = [.ref a] ∧ ((SqL K H1 a xs ∧ R (Ite K a) H1) ∨ (SqT K H1 a xs ∧ R (IteT K a) H1))
theorem pi_enumA {e : Expr} {ta : TA} {p pos tpos : Pos} {elts : List Expr} {kk : Nat} (hg : Gl X "enumerate") (hm : X.mg "enumerate" = none) (ha : PA X [e] ta) (hs : starEach [e] X.env = [(false, eval e X.env)]) :
    PI X (.Tuple elts kk tpos) (.Call (.Name "enumerate" p) [e] [] pos) (iEnumA X.K ta) := by
  refine ⟨fun pins s σ H R I h => ?_⟩
  refine Call_ (ld_blt I hg hm boot_enumerate (PyProof.Rows.callWith_type1 (thn (ha.run pos pins s σ H _ I h) fun us s1 ⟨vs, H1, I1, r1, q1⟩ => ?_) hs rfl))
  obtain ⟨a, xs, ex, hq⟩ := q1
  subst ex
  cases r1 with
  | cons r rr =>
    cases rr
    cases r
    have fp : ∀ b ∈ [s1.heap.objs.size + 1, s1.heap.objs.size], FpOk X pins H1 b := fun b hb => by
      have e' : b = s1.heap.objs.size + 1 ∨ b = s1.heap.objs.size := by simpa using hb
      have hle : s1.heap.objs.size ≤ b := by
        rcases e' with z | z
        · rw [z]; exact Nat.le_add_right _ _
        · rw [z]; exact Nat.le_refl _
      exact I1.fpOk hle (I1.hok.fresh hle)
    rcases hq with ⟨hq, q⟩ | ⟨hq, q⟩
    · obtain ⟨its, rv, p', hz⟩ := I1.list hq
      refine call_enumerate_list p'.isList fun h' he hit hsz hk => wpAny_pyIter_enum he ?_
      have I2 : Inv X pins σ H1 { s1 with heap := h' } := I1.kept (t' := s1.toks) hk
      exact ⟨s1.heap.objs.size + 1, [s1.heap.objs.size + 1, s1.heap.objs.size], _, _, H1, rfl, I2, turn_enum a (s1.heap.objs.size + 1) s1.heap.objs.size, ⟨⟨.none, he⟩, hit, Nat.succ_ne_self _⟩, fp, q⟩
    · obtain ⟨its, rv, p', hz⟩ := I1.tuple hq
      have hal : a < s1.heap.objs.size := p'.lt
      refine call_enumerate_tuple (show s1.heap.IsTuple a its.toArray from p') fun h' he hit hsz hk => wpAny_pyIter_enum he ?_
      have I2 : Inv X pins σ H1 { s1 with heap := h' } := I1.kept (t' := s1.toks) hk
      exact ⟨s1.heap.objs.size + 1, [s1.heap.objs.size + 1, s1.heap.objs.size], _, _, H1, rfl, I2, turn_enumT a (s1.heap.objs.size + 1) s1.heap.objs.size, ⟨⟨.none, he⟩, hit, Nat.succ_ne_self _, Nat.ne_of_gt (Nat.lt_succ_of_lt hal), Nat.ne_of_lt hal⟩, fp, q⟩
def iAny (K : PySem.W.Frag) (tl : TE) : TI := fun σ H R => tl σ H fun x H1 => (∃ a xs, x = .ref a ∧ SqL K H1 a xs ∧ R (Itl K a) H1) ∨ (∃ a xs, x = .ref a ∧ SqT K H1 a xs ∧ R (Itt K a) H1) ∨ ∃ z, x = .str z ∧ R (Its z) H1
theorem pi_any {tg l : Expr} {tl : TE} (hl : PE X l tl) : PI X tg l (iAny X.K tl) := by
  refine ⟨fun pins s σ H R I h => ?_⟩
  refine thn (hl.run pins s σ H _ I h) fun v s1 ⟨x, H1, I1, r1, q1⟩ => ?_
  rcases q1 with ⟨a, xs, e, hq, q⟩ | ⟨a, xs, e, hq, q⟩ | ⟨z, e, q⟩
  · subst e
    cases r1
    obtain ⟨its, rv, p, hz⟩ := I1.list hq
    exact wpAny_pyIter_list p.isList (pi_one (tk := s1.toks) I1 _ (turn_list a _) ⟨_, Heap.get?_push_size _ rfl, rfl, rfl⟩ q)
  · subst e
    cases r1
    obtain ⟨its, rv, p, hz⟩ := I1.tuple hq
    exact wpAny_pyIter_tuple (show s1.heap.IsTuple a its.toArray from p) (pi_one (tk := s1.toks) I1 _ (turn_tuple a _) ⟨_, Heap.get?_push_size _ rfl, rfl, rfl⟩ q)
  · subst e
    obtain ⟨t, rfl⟩ := r1
    cases ha : z.cps.all (· < 128)
    · exact wpAny_pyIter_wide ha (pi_one (tk := s1.toks) I1 _ (turn_str _ z t "str_iterator" (.inr rfl)) ⟨_, Heap.get?_push_size _ rfl, rfl, rfl⟩ q)
    · exact wpAny_pyIter_ascii ha (pi_one (tk := s1.toks) I1 _ (turn_str _ z t "str_ascii_iterator" (.inl rfl)) ⟨_, Heap.get?_push_size _ rfl, rfl, rfl⟩ q)
def ItOk (X : Cx) (J : It) (H1 : Hp) (F1 : Fz) (xs : List D) : Prop :=
  ∀ H F, Mon H1 F1 H F → (∀ a, F a → ∃ xs, H a = some (.lst xs)) → ∀ i, (xs.length ≤ i → J.stop i H) ∧ (i < xs.length → J.go i H) ∧ ∀ x H', J.yld i H x H' → Grow H H' ∧ ∀ d, xs[i]? = some d → Rp X.K X.mg H' F x d
def iX (X : Cx) (c : Fc) (W : WX) (f : M (List D)) : TI := fun σ H R => ∃ F ρ, Rel X.K X.mg c σ H F ρ ∧ Post X.K X.mg c W σ H F (f ρ) fun xs ρ' H' F' => ∀ J, ItOk X J H' F' xs → R J H'
abbrev PIX (X : Cx) (c : Fc) (W : WX) (tg iter : Expr) (f : M (List D)) : Prop := PI X tg iter (iX X c W f)
theorem piImp {tg iter : Expr} {t t' : TI} (h : PI X tg iter t) (i : ∀ σ H R, t' σ H R → t σ H R) : PI X tg iter t' := ⟨fun pins s σ H R I q => h.run pins s σ H R I (i σ H R q)⟩
theorem itl_ok {a : Addr} {vs : List V} {H1 : Hp} {F1 : Fz} {xs : List D} (f : F1 a) (e : H1 a = some (.lst vs)) (r : RpAll X.K X.mg H1 F1 vs xs) : ItOk X (Itl X.K a) H1 F1 xs := by
  intro H F m fl i
  have e' : SqL X.K H a vs := SqL.of ((m.fz a f).2.trans e)
  have r' := RpAll.mono m xs r
  refine ⟨fun h => ⟨vs, e', by rw [r.length]; exact h⟩, fun h => ?_, fun x H' y => ?_⟩
  · obtain ⟨v, h1, _⟩ := r'.get' (List.getElem?_eq_getElem h)
    exact ⟨vs, v, e', h1⟩
  · obtain ⟨rfl, y⟩ := y
    refine ⟨Same.refl _, fun d hd => ?_⟩
    obtain ⟨v, h1, h2⟩ := r'.get' hd
    have := y vs e'
    rw [h1] at this; cases this
    exact h2
theorem itt_ok {a : Addr} {vs : List V} {H1 : Hp} {F1 : Fz} {xs : List D} (e : SqT X.K H1 a vs) (r : RpAll X.K X.mg H1 F1 vs xs) : ItOk X (Itt X.K a) H1 F1 xs := by
  intro H F m fl i
  have e' := m.seqT e
  have r' := RpAll.mono m xs r
  refine ⟨fun h => ⟨vs, e', by rw [r.length]; exact h⟩, fun h => ?_, fun x H' y => ?_⟩
  · obtain ⟨v, h1, _⟩ := r'.get' (List.getElem?_eq_getElem h)
    exact ⟨vs, v, e', h1⟩
  · obtain ⟨rfl, y⟩ := y
    refine ⟨Same.refl _, fun d hd => ?_⟩
    obtain ⟨v, h1, h2⟩ := r'.get' hd
    have := y vs e'
    rw [h1] at this; cases this
    exact h2
theorem its_ok {z : Str} {H1 : Hp} {F1 : Fz} : ItOk X (Its z) H1 F1 (z.cps.toList.map fun c => .str ⟨#[c]⟩) := by
  intro H F m fl i
  have l : (z.cps.toList.map fun c => (PyData.str ⟨#[c]⟩ : D)).length = z.cps.size := by simp
  rw [l]
  refine ⟨fun h => h, fun h => h, fun x H' y => ?_⟩
  obtain ⟨rfl, c, hc, rfl⟩ := y
  refine ⟨Same.refl _, fun d hd => ?_⟩
  rw [List.getElem?_map, Array.getElem?_toList, hc] at hd
  cases hd
  exact .str _
theorem itr_ok {n : Int} {H1 : Hp} {F1 : Fz} : ItOk X (Itr 0 n.toNat) H1 F1 ((List.range n.toNat).map fun (k : Nat) => .int (k : Int)) := by
  intro H F m fl i
  have l : ((List.range n.toNat).map fun (k : Nat) => (PyData.int (k : Int) : D)).length = n.toNat := by simp
  rw [l]
  refine ⟨fun h => h, fun h => h, fun x H' y => ?_⟩
  obtain ⟨rfl, rfl⟩ := y
  refine ⟨Same.refl _, fun d hd => ?_⟩
  rw [List.getElem?_map] at hd
  cases q : (List.range n.toNat)[i]? with
  | none => rw [q] at hd; cases hd
  | some j =>
    rw [q] at hd
    have := List.getElem?_range (n := n.toNat) (i := i) (by
      have := (List.getElem?_eq_some_iff.mp q).1
      simpa using this)
    rw [this] at q
    cases q
    cases hd
    rw [Int.zero_add]
    exact .int _
theorem pairs_get : ∀ (xs : List D) (k i : Nat), (pairs k xs)[i]? = (xs[i]?).map fun x => .tuple [.int ((k + i : Nat) : Int), x]
  | [], k, i => by simp [pairs]
  | x :: r, k, 0 => by simp [pairs]
  | x :: r, k, i + 1 => by
    rw [pairs, List.getElem?_cons_succ, pairs_get r (k + 1) i, List.getElem?_cons_succ]
    have : k + 1 + i = k + (i + 1) := by omega
    rw [this]
theorem pairs_length : ∀ (xs : List D) (k : Nat), (pairs k xs).length = xs.length
  | [], k => rfl
  | x :: r, k => by rw [pairs, List.length_cons, pairs_length r (k + 1), List.length_cons]
theorem new_pair {H : Hp} {F : Fz} {T : Addr} {x y : V} {d e : D} {mg : Str → Option Value} (fl : ∀ a, F a → ∃ xs, H a = some (.lst xs)) (hT : H T = none) (h1 : Rp X.K mg H F x d) (h2 : Rp X.K mg H F y e) :
    Grow H (upd H T (.tup [x, y])) ∧ Rp X.K mg (upd H T (.tup [x, y])) F (.ref T) (.tuple [d, e]) := tup_new fl hT (.cons h1 (.cons h2 .nil))
theorem ite_ok {a : Addr} {vs : List V} {H1 : Hp} {F1 : Fz} {xs : List D} (f : F1 a) (e : H1 a = some (.lst vs)) (r : RpAll X.K X.mg H1 F1 vs xs) : ItOk X (Ite X.K a) H1 F1 (pairs 0 xs) := by
  intro H F m fl i
  have e' : SqL X.K H a vs := SqL.of ((m.fz a f).2.trans e)
  have r' := RpAll.mono m xs r
  rw [pairs_length]
  refine ⟨fun h => ⟨vs, e', by rw [r.length]; exact h⟩, fun h => ?_, fun x H' y => ?_⟩
  · obtain ⟨v, h1, _⟩ := r'.get' (List.getElem?_eq_getElem h)
    exact ⟨vs, v, e', h1⟩
  · obtain ⟨T, w, rfl, hT, rfl, y⟩ := y
    refine ⟨grow_new hT, fun d hd => ?_⟩
    rw [pairs_get] at hd
    obtain ⟨d', h0, rfl⟩ := Option.map_eq_some_iff.mp hd
    obtain ⟨v, h1, h2⟩ := r'.get' h0
    have := y vs e'
    rw [h1] at this; cases this
    rw [Nat.zero_add]
    exact (new_pair fl hT (.int _) h2).2
theorem iteT_ok {a : Addr} {vs : List V} {H1 : Hp} {F1 : Fz} {xs : List D} (e : SqT X.K H1 a vs) (r : RpAll X.K X.mg H1 F1 vs xs) : ItOk X (IteT X.K a) H1 F1 (pairs 0 xs) := by
  intro H F m fl i
  have e' := m.seqT e
  have r' := RpAll.mono m xs r
  rw [pairs_length]
  refine ⟨fun h => ⟨vs, e', by rw [r.length]; exact h⟩, fun h => ?_, fun x H' y => ?_⟩
  · obtain ⟨v, h1, _⟩ := r'.get' (List.getElem?_eq_getElem h)
    exact ⟨vs, v, e', h1⟩
  · obtain ⟨T, w, rfl, hT, rfl, y⟩ := y
    refine ⟨grow_new hT, fun d hd => ?_⟩
    rw [pairs_get] at hd
    obtain ⟨d', h0, rfl⟩ := Option.map_eq_some_iff.mp hd
    obtain ⟨v, h1, h2⟩ := r'.get' h0
    have := y vs e'
    rw [h1] at this; cases this
    rw [Nat.zero_add]
    exact (new_pair fl hT (.int _) h2).2
theorem zw_get (xs ys : List D) (i : Nat) : (List.zipWith (fun p q => (PyData.tuple [p, q] : D)) xs ys)[i]? = (xs[i]?).bind fun p => (ys[i]?).map fun q => .tuple [p, q] := by
  rw [List.getElem?_zipWith]
  cases xs[i]? <;> cases ys[i]? <;> rfl
theorem itz_ok {a b : Addr} {vs ws : List V} {H1 : Hp} {F1 : Fz} {xs ys : List D} (f : F1 a) (e : H1 a = some (.lst vs)) (r : RpAll X.K X.mg H1 F1 vs xs) (f2 : F1 b) (e2 : H1 b = some (.lst ws)) (r2 : RpAll X.K X.mg H1 F1 ws ys) :
    ItOk X (Itz X.K a b) H1 F1 (List.zipWith (fun p q => .tuple [p, q]) xs ys) := by
  intro H F m fl i
  have e' : SqL X.K H a vs := SqL.of ((m.fz a f).2.trans e)
  have e2' : SqL X.K H b ws := SqL.of ((m.fz b f2).2.trans e2)
  have r' := RpAll.mono m xs r
  have r2' := RpAll.mono m ys r2
  rw [List.length_zipWith]
  refine ⟨fun h => ⟨vs, ws, e', e2', by rw [r.length, r2.length]; omega⟩, fun h => ?_, fun x H' y => ?_⟩
  · obtain ⟨v, h1, _⟩ := r'.get' (List.getElem?_eq_getElem (show i < xs.length by omega))
    obtain ⟨u, h2, _⟩ := r2'.get' (List.getElem?_eq_getElem (show i < ys.length by omega))
    exact ⟨vs, ws, v, u, e', e2', h1, h2⟩
  · obtain ⟨T, v, u, rfl, hT, rfl, y1, y2⟩ := y
    refine ⟨grow_new hT, fun d hd => ?_⟩
    rw [zw_get] at hd
    obtain ⟨p, h0, hd⟩ := Option.bind_eq_some_iff.mp hd
    obtain ⟨q, h3, rfl⟩ := Option.map_eq_some_iff.mp hd
    obtain ⟨v', h1, h2⟩ := r'.get' h0
    obtain ⟨u', h4, h5⟩ := r2'.get' h3
    have z1 := y1 vs e'
    have z2 := y2 ws e2'
    rw [h1] at z1; cases z1
    rw [h4] at z2; cases z2
    exact (new_pair fl hT h2 h5).2
theorem itzT_ok {a b : Addr} {vs ws : List V} {H1 : Hp} {F1 : Fz} {xs ys : List D} (e : SqT X.K H1 a vs) (r : RpAll X.K X.mg H1 F1 vs xs) (e2 : SqT X.K H1 b ws) (r2 : RpAll X.K X.mg H1 F1 ws ys) :
    ItOk X (RZ.ItzT X.K a b) H1 F1 (List.zipWith (fun p q => .tuple [p, q]) xs ys) := by
  intro H F m fl i
  have e' := m.seqT e
  have e2' := m.seqT e2
  have r' := RpAll.mono m xs r
  have r2' := RpAll.mono m ys r2
  rw [List.length_zipWith]
  refine ⟨fun h => ⟨vs, ws, e', e2', by rw [r.length, r2.length]; omega⟩, fun h => ?_, fun x H' y => ?_⟩
  · obtain ⟨v, h1, _⟩ := r'.get' (List.getElem?_eq_getElem (show i < xs.length by omega))
    obtain ⟨u, h2, _⟩ := r2'.get' (List.getElem?_eq_getElem (show i < ys.length by omega))
    exact ⟨vs, ws, v, u, e', e2', h1, h2⟩
  · obtain ⟨T, v, u, rfl, hT, rfl, y1, y2⟩ := y
    refine ⟨grow_new hT, fun d hd => ?_⟩
    rw [zw_get] at hd
    obtain ⟨p, h0, hd⟩ := Option.bind_eq_some_iff.mp hd
    obtain ⟨q, h3, rfl⟩ := Option.map_eq_some_iff.mp hd
    obtain ⟨v', h1, h2⟩ := r'.get' h0
    obtain ⟨u', h4, h5⟩ := r2'.get' h3
    have z1 := y1 vs e'
    have z2 := y2 ws e2'
    rw [h1] at z1; cases z1
    rw [h4] at z2; cases z2
    exact (new_pair fl hT h2 h5).2
end
end G
set_option maxHeartbeats 4000000
namespace G
open PySem PySem.Spec PyProof.Rows L2
theorem set_get {α : Type} (l : List (Option α)) (i j : Nat) (x : α) (c : Option α) (h : (l.set i c)[j]? = some (some x)) : (i = j ∧ c = some x ∧ i < l.length) ∨ (i ≠ j ∧ l[j]? = some (some x)) := by
  by_cases e : i = j
  · subst e
    by_cases hl : i < l.length
    · rw [List.getElem?_set_self hl] at h
      exact .inl ⟨rfl, Option.some.inj h, hl⟩
    · rw [List.getElem?_eq_none (by rw [List.length_set]; omega)] at h; cases h
  · rw [List.getElem?_set_ne e] at h
    exact .inr ⟨e, h⟩
theorem mwipe_len : ∀ (vs : List Nat) (ρ : Rho), (M.wipe vs ρ).length = ρ.length
  | [], ρ => rfl
  | v :: vs, ρ => by
    show (M.wipe vs (ρ.set v none)).length = _
    rw [mwipe_len vs, List.length_set]
theorem mwipe_get : ∀ (vs : List Nat) (ρ : Rho) (j : Nat) (x : Cell), (M.wipe vs ρ)[j]? = some (some x) → ρ[j]? = some (some x) ∧ j ∉ vs
  | [], ρ, j, x, h => ⟨h, by simp⟩
  | v :: vs, ρ, j, x, h => by
    have h' : (M.wipe vs (ρ.set v none))[j]? = some (some x) := h
    obtain ⟨h1, h2⟩ := mwipe_get vs _ j x h'
    rcases set_get ρ v j x none h1 with ⟨_, e, _⟩ | ⟨e, h3⟩
    · cases e
    · exact ⟨h3, by simp only [List.mem_cons, not_or]; exact ⟨fun z => e z.symm, h2⟩⟩
theorem mwipe_out : ∀ (vs : List Nat) (ρ : Rho) (j : Nat), j ∉ vs → (M.wipe vs ρ)[j]? = ρ[j]?
  | [], ρ, j, h => rfl
  | v :: vs, ρ, j, h => by
    simp only [List.mem_cons, not_or] at h
    show (M.wipe vs (ρ.set v none))[j]? = _
    rw [mwipe_out vs _ j h.2, List.getElem?_set_ne (Ne.symm h.1)]
theorem wipe_out' {σ : L2.St} {j : Nat} {vs : List Nat} (h : j ∉ vs) : (L2.wipe σ vs)[j]? = σ[j]? := L2.wipe_out h
theorem wipe_in {σ : L2.St} : ∀ {vs : List Nat} {j : Nat}, j ∈ vs → j < σ.length → (L2.wipe σ vs)[j]? = some none
  | [], j, h, _ => by simp at h
  | v :: vs, j, h, hl => by
    show ((L2.wipe σ vs).set v none)[j]? = _
    by_cases e : v = j
    · subst e
      exact List.getElem?_set_self (by rw [L2.wipe_length]; exact hl)
    · rw [List.getElem?_set_ne e]
      exact wipe_in (by rcases List.mem_cons.mp h with z | z; exact absurd z.symm e; exact z) hl
theorem wipe_eq {σ σ' : L2.St} {vs : List Nat} (hl : σ'.length = σ.length) (h : ∀ j, j ∉ vs → σ'[j]? = σ[j]?) : L2.wipe σ' vs = L2.wipe σ vs := by
  apply List.ext_getElem?
  intro j
  by_cases hj : j ∈ vs
  · by_cases hlt : j < σ.length
    · rw [wipe_in hj (by omega), wipe_in hj hlt]
    · rw [List.getElem?_eq_none (by rw [L2.wipe_length]; omega), List.getElem?_eq_none (by rw [L2.wipe_length]; omega)]
  · rw [wipe_out' hj, wipe_out' hj, h j hj]
theorem restore_lenG (ρ₀ : Rho) : ∀ (vs : List Nat) (ρ : Rho), (M.restore vs ρ₀ ρ).length = ρ.length
  | [], ρ => rfl
  | v :: vs, ρ => by
    show (M.restore vs ρ₀ (ρ.set v _)).length = _
    rw [restore_lenG ρ₀ vs, List.length_set]
theorem restore_getG (ρ₀ : Rho) : ∀ (vs : List Nat) (ρ : Rho) (j : Nat) (x : Cell), (M.restore vs ρ₀ ρ)[j]? = some (some x) → (j ∈ vs ∧ ρ₀[j]? = some (some x) ∧ ∃ d, x = .val d) ∨ (j ∉ vs ∧ ρ[j]? = some (some x))
  | [], ρ, j, x, h => .inr ⟨by simp, h⟩
  | v :: vs, ρ, j, x, h => by
    have h' : (M.restore vs ρ₀ (ρ.set v (match ρ₀[v]? with | some (some (.val d)) => some (.val d) | _ => none)))[j]? = some (some x) := h
    rcases restore_getG ρ₀ vs _ j x h' with ⟨h1, h2⟩ | ⟨h1, h2⟩
    · exact .inl ⟨List.mem_cons_of_mem _ h1, h2⟩
    · rcases set_get ρ v j x _ h2 with ⟨rfl, e, _⟩ | ⟨e, h3⟩
      · split at e
        · rename_i d hd
          cases e
          exact .inl ⟨List.mem_cons_self, hd, d, rfl⟩
        · cases e
      · exact .inr ⟨by simp only [List.mem_cons, not_or]; exact ⟨fun z => e z.symm, h1⟩, h3⟩
section
variable {K : PySem.W.Frag} {mg : Str → Option Value} {c : Fc} {W : WX} {σ σ' : L2.St} {H H' H1 : Hp} {F F' F1 : Fz} {ρ ρ' : Rho}
theorem Rel.setVal {i : Nat} {v : V} {d : D} (R : Rel K mg c σ H F ρ) (r : Rp K mg H F v d) : Rel K mg c (σ.set i (some v)) H F (ρ.set i (some (.val d))) := by
  have own : ∀ {j : Nat} {xs : List D}, (ρ.set i (some (.val d)))[j]? = some (some (.own xs)) → i ≠ j ∧ ρ[j]? = some (some (.own xs)) := fun {j xs} e => by
    rcases set_get ρ i j _ _ e with ⟨_, z, _⟩ | z
    · cases z
    · exact z
  refine ⟨R.fr, by rw [List.length_set, List.length_set]; exact R.len, fun j x e => ?_, fun j k a xs ys e1 e2 e3 e4 => ?_, fun p hp => ?_⟩
  · rcases set_get ρ i j _ _ e with ⟨rfl, z, hl⟩ | ⟨hij, z⟩
    · cases z
      exact ⟨v, List.getElem?_set_self (by rw [R.len]; exact hl), r⟩
    · obtain ⟨w, h1, h2⟩ := R.cel j x z
      exact ⟨w, by rw [List.getElem?_set_ne hij]; exact h1, h2⟩
  · obtain ⟨n1, g1⟩ := own e1
    obtain ⟨n2, g2⟩ := own e2
    rw [List.getElem?_set_ne n1] at e3
    rw [List.getElem?_set_ne n2] at e4
    exact R.dis j k a xs ys g1 g2 e3 e4
  · obtain ⟨h1, h2, h3, h4⟩ := R.tmp p hp
    refine ⟨h1, h2, h3, fun j ys e => ?_⟩
    obtain ⟨n1, g1⟩ := own e
    rw [List.getElem?_set_ne n1]
    exact h4 j ys g1
theorem Rel.forget (R : Rel K mg c σ H F ρ) (hl : σ'.length = ρ'.length) (h : ∀ (j : Nat) (x : Cell), ρ'[j]? = some (some x) → ρ[j]? = some (some x) ∧ σ'[j]? = σ[j]?) : Rel K mg c σ' H F ρ' :=
  ⟨R.fr, hl, fun j x e => by
    obtain ⟨h1, h2⟩ := h j x e
    obtain ⟨v, h3, h4⟩ := R.cel j x h1
    exact ⟨v, h2.trans h3, h4⟩, fun j k a xs ys e1 e2 e3 e4 => by
    obtain ⟨h1, h2⟩ := h j _ e1
    obtain ⟨h3, h4⟩ := h k _ e2
    exact R.dis j k a xs ys h1 h3 (h2 ▸ e3) (h4 ▸ e4), fun p hp => by
    obtain ⟨h1, h2, h3, h4⟩ := R.tmp p hp
    exact ⟨h1, h2, h3, fun j ys e => by obtain ⟨g1, g2⟩ := h j _ e; rw [g2]; exact h4 j ys g1⟩⟩
theorem Rel.wipe (R : Rel K mg c σ H F ρ) (vs : List Nat) : Rel K mg c (L2.wipe σ vs) H F (M.wipe vs ρ) :=
  R.forget (by rw [L2.wipe_length, mwipe_len]; exact R.len) fun j x e => by
    obtain ⟨h1, h2⟩ := mwipe_get vs ρ j x e
    exact ⟨h1, wipe_out' h2⟩
theorem Rel.wipe' (R : Rel K mg c σ H F ρ) (vs : List Nat) : Rel K mg c σ H F (M.wipe vs ρ) :=
  R.forget (by rw [mwipe_len]; exact R.len) fun j x e => ⟨(mwipe_get vs ρ j x e).1, rfl⟩
theorem Rel.aside {D : Addr} (R : Rel K mg c σ H F ρ) (hD : H D = none) : Rel K mg { c with tm := (D, []) :: c.tm } σ (upd H D (.lst [])) F ρ ∧ Mon H F (upd H D (.lst [])) F := by
  have g := grow_new (o := .lst []) hD
  have R1 := R.grow g
  refine ⟨⟨⟨R1.fr.keep, R1.fr.free, R1.fr.tabs, R1.fr.f0, R1.fr.f1, R1.fr.fl⟩, R1.len, fun i x e => ?_, R1.dis, fun p hp => ?_⟩, R.mon g⟩
  · obtain ⟨v, h1, h2⟩ := R1.cel i x e
    refine ⟨v, h1, ?_⟩
    cases x <;> exact h2
  · rcases List.mem_cons.mp hp with rfl | hp
    · refine ⟨upd_same, fun z => ?_, R.fr.free D hD, fun i ys e z => ?_⟩
      · obtain ⟨_, q⟩ := R.fr.fl D z
        rw [hD] at q; cases q
      · obtain ⟨v, h1, a, xs, rfl, h2, _⟩ := R.cel i _ e
        rw [z] at h1
        cases h1
        rw [hD] at h2; cases h2
    · exact R1.tmp p hp
theorem Rel.asideApp {D : Addr} {tm : List (Addr × List V)} {acc acc' : List V} (R : Rel K mg { c with tm := (D, acc) :: tm } σ H F ρ) (hd : ∀ p ∈ tm, p.1 ≠ D) : Rel K mg { c with tm := (D, acc') :: tm } σ (upd H D (.lst acc')) F ρ ∧ Mon H F (upd H D (.lst acc')) F := by
  obtain ⟨hD, nF, h0, no⟩ := R.tmp (D, acc) List.mem_cons_self
  have hD : H D = some (.lst acc) := hD
  have ne : ∀ b u, H b = some u → (∀ q, u ≠ .lst q) → b ≠ D := fun b u e n z => by rw [z, hD] at e; cases e; exact n _ rfl
  have m : Mon H F (upd H D (.lst acc')) F := ⟨fun b hb => ⟨hb, upd_ne (fun z => nF (by rw [z] at hb; exact hb))⟩, fun b q e => by rw [upd_ne (ne b _ e (fun _ z => by cases z))]; exact e, fun b o u e => by rw [upd_ne (ne b _ e (fun _ z => by cases z))]; exact e⟩
  refine ⟨⟨⟨fun b o e n t => ?_, fun b e => R.fr.free b ?_, fun t p hp => tabs_write hD (R.fr.tabs t p hp), R.fr.f0, R.fr.f1, fun b hb => ?_⟩, R.len, fun i x e => ?_, R.dis, fun p hp => ?_⟩, m⟩
  · have hb : b ≠ D := fun z => by
      subst z
      have h0 : c.H0 b = none := h0
      have e : c.H0 b = some o := e
      rw [h0] at e; cases e
    rw [upd_ne hb]; exact R.fr.keep b o e n t
  · by_cases hb : b = D
    · subst hb; rw [upd_same] at e; cases e
    · rw [upd_ne hb] at e; exact e
  · obtain ⟨us, e⟩ := R.fr.fl b hb
    have nb : b ≠ D := fun z => nF (by rw [z] at hb; exact hb)
    exact ⟨us, by rw [upd_ne nb]; exact e⟩
  · obtain ⟨v, e1, e2⟩ := R.cel i x e
    refine ⟨v, e1, ?_⟩
    cases x with
    | val d => exact Rp.mono m d e2
    | own us =>
      obtain ⟨b, ws, rfl, q1, q2, q3, q4⟩ := e2
      have nb : b ≠ D := fun z => no i us e (by rw [z] at e1; exact e1)
      exact ⟨b, ws, rfl, by rw [upd_ne nb]; exact q1, RpAll.mono m us q2, q3, q4⟩
  · rcases List.mem_cons.mp hp with rfl | hp
    · exact ⟨upd_same, nF, h0, no⟩
    · obtain ⟨h1, h2, h3, h4⟩ := R.tmp p (List.mem_cons_of_mem _ hp)
      exact ⟨by rw [upd_ne (hd p hp)]; exact h1, h2, h3, h4⟩
end
def Tg.slots : Tg → List Nat
  | .one i => [i]
  | .tup is => is
def gX (X : Cx) (tg : Tg) : TG := fun v σ H Q => ∃ c F ρ d ρ', Rel X.K X.mg c σ H F ρ ∧ Rp X.K X.mg H F v d ∧ M.target tg d ρ = .ok ((), ρ') ∧
  ∀ σ', Rel X.K X.mg c σ' H F ρ' → σ'.length = σ.length → (∀ j, j ∉ tg.slots → σ'[j]? = σ[j]?) → Q σ' H
def gsX (X : Cx) (is : List Nat) : TGs := fun vs σ H Q => ∃ c F ρ ds, Rel X.K X.mg c σ H F ρ ∧ RpAll X.K X.mg H F vs ds ∧ is.length = ds.length ∧
  ∀ σ', Rel X.K X.mg c σ' H F (M.setAll is ds ρ) → σ'.length = σ.length → (∀ j, j ∉ is → σ'[j]? = σ[j]?) → Q σ' H
section
variable {X : Cx}
theorem pgImp {e : Expr} {t t' : TG} (h : PG X e t) (i : ∀ v σ H Q, t' v σ H Q → t v σ H Q) : PG X e t' := ⟨fun pins s σ H v u Q I r q => h.run pins s σ H v u Q I r (i v σ H Q q)⟩
theorem pgsImp {e : List Expr} {t t' : TGs} (h : PGs X e t) (i : ∀ v σ H Q, t' v σ H Q → t v σ H Q) : PGs X e t' := ⟨fun pins s σ H v u Q I r q => h.run pins s σ H v u Q I r (i v σ H Q q)⟩
theorem pgx_one {i : Nat} {e : Expr} (h : PG X e (gName i)) : PG X e (gX X (.one i)) := by
  refine pgImp h fun v σ H Q ⟨c, F, ρ, d, ρ', R, r, e, k⟩ => ?_
  cases e
  refine k _ (R.setVal r) (by rw [List.length_set]) fun j hj => ?_
  rw [List.getElem?_set_ne (fun z => hj (by rw [z]; exact List.mem_cons_self))]
theorem pgsx_nil : PGs X [] (gsX X []) := by
  refine pgsImp pgs_nil fun vs σ H Q ⟨c, F, ρ, ds, R, r, hl, k⟩ => ?_
  cases ds with
  | nil => cases r; exact ⟨rfl, k σ R rfl fun _ _ => rfl⟩
  | cons d ds => simp at hl
theorem pgsx_cons {i : Nat} {is : List Nat} {e : Expr} {es : List Expr} (h : PG X e (gName i)) (hr : PGs X es (gsX X is)) (hs : (assignEach (e :: es) X.env).map (·.2) = assign e X.env :: (assignEach es X.env).map (·.2)) :
    PGs X (e :: es) (gsX X (i :: is)) := by
  refine pgsImp (pgs_cons h hr hs) fun vs σ H Q ⟨c, F, ρ, ds, R, r, hl, k⟩ => ?_
  cases r with
  | nil => simp at hl
  | cons a b =>
    refine ⟨_, _, rfl, c, F, _, _, R.setVal a, b, by simpa using hl, fun σ' R' hl' hj => k σ' R' (by rw [hl', List.length_set]) fun j hj' => ?_⟩
    simp only [List.mem_cons, not_or] at hj'
    rw [hj j hj'.2, List.getElem?_set_ne (Ne.symm hj'.1)]
theorem pgx_tup {is : List Nat} {es : List Expr} {n : Nat} {pos : Pos} (hc : X.calm = true) (h : PGs X es (gsX X is)) (hn : (assignEach es X.env).length = is.length) (hst : (assignEach es X.env).findIdx? (·.1) = none) : PG X (.Tuple es n pos) (gX X (.tup is)) := by
  refine pgImp (pg_tup hc h hn hst) fun v σ H Q ⟨c, F, ρ, d, ρ', R, r, e, k⟩ => ?_
  cases d with
  | tuple ds =>
    have e : (if is.length = ds.length then Out.ok ((), M.setAll is ds ρ) else .stuck) = Out.ok ((), ρ') := e
    by_cases hl : is.length = ds.length
    · rw [if_pos hl] at e
      cases e
      cases r with
      | tup e1 r1 => exact ⟨_, _, rfl, e1, by rw [r1.length]; exact hl.symm, c, F, ρ, _, R, r1, hl, k⟩
    · rw [if_neg hl] at e; cases e
  | none => cases e
  | bool _ => cases e
  | int _ => cases e
  | str _ => cases e
  | list _ => cases e
  | dict _ => cases e
end
section
variable {X : Cx} {c : Fc} {W : WX} {C : Cfg} {S : Sco} {k : Nat} (V1 : Env1 X c W C S k)
include V1
theorem pix_ex {tg l : Expr} {f : M RV} (hl : PX X c W l f) : PIX X c W tg l (M.bind f fun r => M.bind (M.keep C.ios r) fun d => M.opt (walkOf d)) := by
  refine piImp (pi_any hl) fun σ H Q ⟨F, ρ, R, p⟩ => ⟨F, ρ, R, (Post.bind p).mono fun r ρ1 H1 F1 m1 R1 p1 v rv => ?_⟩
  obtain ⟨d, ρ2, F2, m2, R2, o2, p2⟩ := R1.keepR V1.ios rv (Post.bind p1)
  obtain ⟨xs, e, p3⟩ := Post.opt' p2
  have q := Post.here p3 R2
  cases d with
  | list ds =>
    cases e
    cases o2 with
    | lst f e1 r1 => exact .inl ⟨_, _, rfl, SqL.of e1, q _ (itl_ok f e1 r1)⟩
  | tuple ds =>
    cases e
    cases o2 with
    | tup e1 r1 => exact .inr (.inl ⟨_, _, rfl, e1, q _ (itt_ok e1 r1)⟩)
  | str z =>
    cases e
    cases o2
    exact .inr (.inr ⟨_, rfl, q _ its_ok⟩)
  | none => cases e
  | bool _ => cases e
  | int _ => cases e
  | dict _ => cases e
theorem pix_range {tg a : Expr} {g : M (List D)} {p pos : Pos} (hg : Gl X "range") (hs : starEach [a] X.env = [(false, eval a X.env)]) (ha : PKX X c W [a] g) : PIX X c W tg (.Call (.Name "range" p) [a] [] pos) (M.bind g fun ds => M.opt (rangeI ds)) := by
  refine piImp (pi_range1 hg (V1.blt _ (by decide)) ha hs) fun σ H Q ⟨F, ρ, R, q⟩ => ⟨F, ρ, R, (Post.bind q).mono fun ds ρ1 H1 F1 m1 R1 p1 vs hvs => ?_⟩
  obtain ⟨xs, e, p3⟩ := Post.opt' p1
  have q := Post.here p3 R1
  replace e : rangeI ds = some xs := e
  unfold rangeI at e
  split at e
  · split at e
    · rename_i n hn
      cases e
      cases hvs with
      | cons a b =>
        cases b
        cases a
        exact ⟨n, rfl, hn.1, hn.2, q _ itr_ok⟩
    · cases e
  · cases e
theorem pix_enum {a : Expr} {g : M (List D)} {elts : List Expr} {kk : Nat} {tpos p pos : Pos} (hg : Gl X "enumerate") (hs : starEach [a] X.env = [(false, eval a X.env)]) (ha : PKX X c W [a] g) :
    PIX X c W (.Tuple elts kk tpos) (.Call (.Name "enumerate" p) [a] [] pos) (M.bind g fun ds => M.opt (enumI ds)) := by
  refine piImp (pi_enumA hg (V1.blt _ (by decide)) ha hs) fun σ H Q ⟨F, ρ, R, q⟩ => ⟨F, ρ, R, (Post.bind q).mono fun ds ρ1 H1 F1 m1 R1 p1 vs hvs => ?_⟩
  obtain ⟨xs, e, p3⟩ := Post.opt' p1
  have q := Post.here p3 R1
  replace e : enumI ds = some xs := e
  unfold enumI at e
  split at e
  · rename_i d
    cases hvs with
    | cons a b =>
      cases b
      cases d with
      | list ds =>
        cases e
        cases a with
        | lst f e1 r1 => exact ⟨_, _, rfl, .inl ⟨SqL.of e1, q _ (ite_ok f e1 r1)⟩⟩
      | tuple ds =>
        cases e
        cases a with
        | tup e1 r1 => exact ⟨_, _, rfl, .inr ⟨e1, q _ (iteT_ok e1 r1)⟩⟩
      | none => cases e
      | bool _ => cases e
      | int _ => cases e
      | str _ => cases e
      | dict _ => cases e
  · cases e
theorem pix_zip {a b : Expr} {g : M (List D)} {elts : List Expr} {kk : Nat} {tpos p pos : Pos} (hg : Gl X "zip") (hs : starEach [a, b] X.env = (false, eval a X.env) :: starEach [b] X.env) (hpl : (backTo pos (starEach [b] X.env)).any (·.1) = false)
    (ha : PKX X c W [a, b] g) : PIX X c W (.Tuple elts kk tpos) (.Call (.Name "zip" p) [a, b] [] pos) (M.bind g fun ds => M.opt (zipI ds)) := by
  refine piImp (RZ.pi_zipA hg (V1.blt _ (by decide)) ha hs hpl) fun σ H Q ⟨F, ρ, R, q⟩ => ⟨F, ρ, R, (Post.bind q).mono fun ds ρ1 H1 F1 m1 R1 p1 vs hvs => ?_⟩
  obtain ⟨xs, e, p3⟩ := Post.opt' p1
  have q := Post.here p3 R1
  replace e : zipI ds = some xs := e
  unfold zipI at e
  split at e
  · cases e
    cases hvs with
    | cons a b =>
      cases b with
      | cons b z =>
        cases z
        cases a with
        | lst f e1 r1 =>
          cases b with
          | lst f2 e2 r2 => exact ⟨_, _, _, _, rfl, .inl ⟨SqL.of e1, SqL.of e2, q _ (itz_ok f e1 r1 f2 e2 r2)⟩⟩
  · cases e
    cases hvs with
    | cons a b =>
      cases b with
      | cons b z =>
        cases z
        cases a with
        | tup e1 r1 =>
          cases b with
          | tup e2 r2 => exact ⟨_, _, _, _, rfl, .inr ⟨e1, e2, q _ (itzT_ok e1 r1 e2 r2)⟩⟩
  · cases e
end
end G
set_option maxHeartbeats 4000000
namespace G
open PySem PySem.Spec PyProof.Rows L2
abbrev WF : WX := fun _ _ _ _ => False
def rdE (X : Cx) (c : Fc) (W : WX) (f : M D) : TE := fun σ H Q => ∃ F ρ, Rel X.K X.mg c σ H F ρ ∧ Post X.K X.mg c W σ H F (f ρ) fun d ρ' H' F' => ∀ v, Rp X.K X.mg H' F' v d → Q v H'
def ttE (X : Cx) (c : Fc) (f : M Bool) : TT := fun σ H Q => ∃ tm, rdT X { c with tm := tm } WF f σ H Q
def teE (X : Cx) (c : Fc) (f : M D) : TE := fun σ H Q => ∃ tm, rdE X { c with tm := tm } WF f σ H Q
theorem wipe_wipe (σ : L2.St) (vs : List Nat) : L2.wipe (L2.wipe σ vs) vs = L2.wipe σ vs :=
  wipe_eq (L2.wipe_length σ vs) fun j hj => wipe_out' hj
section
variable {K : PySem.W.Frag} {mg : Str → Option Value} {c : Fc} {W : WX} {σ σ' : L2.St} {H H' H1 : Hp} {F F' F1 : Fz} {ρ ρ' ρ1 : Rho}
theorem Rel.unwipe {D : Addr} {acc : List V} {vs : List Nat} (R1 : Rel K mg c σ H1 F1 ρ1) (m : Mon H1 F1 H F) (R : Rel K mg { c with tm := (D, acc) :: c.tm } (L2.wipe σ vs) H F (M.wipe vs ρ)) :
    Rel K mg c σ H F (M.restore vs ρ1 ρ) := by
  have back : ∀ {j : Nat} {x : Cell}, (M.restore vs ρ1 ρ)[j]? = some (some x) → (∀ d, x ≠ .val d) → (M.wipe vs ρ)[j]? = some (some x) ∧ (L2.wipe σ vs)[j]? = σ[j]? := fun {j x} e n => by
    rcases restore_getG ρ1 vs ρ j x e with ⟨_, _, d, z⟩ | ⟨h1, h2⟩
    · exact absurd z (n d)
    · exact ⟨by rw [mwipe_out vs ρ j h1]; exact h2, wipe_out' h1⟩
  refine ⟨⟨R.fr.keep, R.fr.free, R.fr.tabs, R.fr.f0, R.fr.f1, R.fr.fl⟩, ?_, fun j x e => ?_, fun j k a xs ys e1 e2 e3 e4 => ?_, fun p hp => ?_⟩
  · rw [restore_lenG]
    have := R.len
    rw [L2.wipe_length, mwipe_len] at this
    exact this
  · rcases restore_getG ρ1 vs ρ j x e with ⟨h1, h2, d, rfl⟩ | ⟨h1, h2⟩
    · obtain ⟨v, g1, g2⟩ := R1.cel j _ h2
      exact ⟨v, g1, Rp.mono m d g2⟩
    · obtain ⟨v, g1, g2⟩ := R.cel j x (by rw [mwipe_out vs ρ j h1]; exact h2)
      rw [wipe_out' h1] at g1
      refine ⟨v, g1, ?_⟩
      cases x <;> exact g2
  · obtain ⟨g1, g2⟩ := back e1 (fun _ z => by cases z)
    obtain ⟨g3, g4⟩ := back e2 (fun _ z => by cases z)
    exact R.dis j k a xs ys g1 g3 (g2.trans e3) (g4.trans e4)
  · obtain ⟨h1, h2, h3, h4⟩ := R.tmp p (List.mem_cons_of_mem _ hp)
    refine ⟨h1, h2, h3, fun j ys e z => ?_⟩
    obtain ⟨g1, g2⟩ := back e (fun _ z => by cases z)
    exact h4 j ys g1 (g2.trans z)
end
section
variable {X : Cx} {c : Fc} {W : WX}
theorem Post.ok {α : Type} {K : PySem.W.Frag} {mg : Str → Option Value} {σ : L2.St} {H : Hp} {F : Fz} {ρ' : Rho} {a : α} {P : α → Rho → Hp → Fz → Prop} {o : Out (α × Rho)} (e : o = .ok (a, ρ')) (h : ∀ H' F', Mon H F H' F' → Rel K mg c σ H' F' ρ' → P a ρ' H' F') : Post K mg c W σ H F o P := by
  rw [e]; exact h
theorem bind_okG {α β : Type} {o : Out α} {f : α → Out β} {b : β} (h : o.bind f = .ok b) : ∃ a, o = .ok a ∧ f a = .ok b := by
  cases o with
  | ok a => exact ⟨a, rfl, h⟩
  | exc e l => cases h
  | stuck => cases h
theorem lc_imp {fi : M (List D)} {tg : Tg} {fc : M Bool} {fe : M D} {own : List Nat} {σ : L2.St} {H : Hp} {Q : VK} (htg : ∀ j ∈ tg.slots, j ∈ own)
    (h : rd X c W (M.bind fi fun xs => fun ρ => if lines xs.length then lcEnd own ρ (lcGo own tg fc fe xs ρ) else .stuck) σ H Q) :
    tLc (iX X c W fi) (gX X tg) (ttE X c fc) (teE X c fe) own σ H Q := by
  obtain ⟨F, ρ, R, p⟩ := h
  refine ⟨F, ρ, R, (Post.bind p).mono fun xs ρ1 H1 F1 m1 R1 p1 J hJ D hD => ?_⟩
  dsimp only at p1
  by_cases hl : lines xs.length = true
  · rw [if_pos hl] at p1
    cases hg : lcGo own tg fc fe xs ρ1 with
    | stuck => rw [hg] at p1; exact p1.elim
    | exc _ _ => rw [hg] at p1; exact p1.elim
    | ok q =>
      obtain ⟨ys, ρe⟩ := q
      rw [hg] at p1
      have hlen : xs.length ≤ sizeLine := of_decide_eq_true hl
      have hd : ∀ p ∈ c.tm, p.1 ≠ D := fun p hp z => by
        have := (R1.tmp p hp).1
        rw [z, hD] at this; cases this
      let Pv : Nat → Hp → Prop := fun i H => i ≤ xs.length ∧ ∃ F ρi acc ds zs, Rel X.K X.mg { c with tm := (D, acc) :: c.tm } (L2.wipe σ own) H F (M.wipe own ρi) ∧ Mon H1 F1 H F ∧ RpAll X.K X.mg H F acc ds ∧ acc.length ≤ i ∧
        lcGo own tg fc fe (xs.drop i) ρi = .ok (zs, ρe) ∧ ds ++ zs = ys
      refine ⟨fun i m H => m = xs.length - i ∧ Pv i H, ⟨xs.length, by simp, Nat.zero_le _, F1, ρ1, [], [], ys, ?_⟩, ?_⟩
      · obtain ⟨R2, m2⟩ := R1.aside hD
        exact ⟨R2.wipe own, m2, .nil, Nat.le_refl _, hg, rfl⟩
      rintro i m H ⟨rfl, hi, F, ρi, acc, ds, zs, R2, m2, ra, hal, hz, hy⟩
      obtain ⟨hDH, nF, h0, no⟩ := R2.tmp (D, acc) List.mem_cons_self
      obtain ⟨j1, j2, j3⟩ := hJ H F m2 R2.fr.fl i
      by_cases hlt : i < xs.length
      · refine .inr ⟨j2 hlt, Pv (i + 1), fun H' p' => ⟨xs.length - (i + 1), by omega, rfl, p'⟩, fun x H' y => ?_⟩
        obtain ⟨gr, hx⟩ := j3 x H' y
        have hdrop : xs.drop i = xs[i] :: xs.drop (i + 1) := List.drop_eq_getElem_cons hlt
        rw [hdrop] at hz
        obtain ⟨⟨_, ρt⟩, ht, hz⟩ := bind_okG hz
        obtain ⟨⟨b, ρc⟩, hc, hz⟩ := bind_okG hz
        have m3 := R2.mon gr
        refine ⟨_, F, M.wipe own ρi, xs[i], ρt, R2.grow gr, hx _ (List.getElem?_eq_getElem hlt), ht, fun σ2 R3 l2 s2 => ?_⟩
        have hw : L2.wipe σ2 own = L2.wipe σ own := by
          rw [← wipe_wipe σ own]
          exact wipe_eq l2 fun j hj => s2 j fun z => hj (htg j z)
        refine ⟨hw, _, F, ρt, R3, Post.ok hc fun H4 F4 m4 R4 => ?_⟩
        cases b with
        | false =>
          refine iteF ⟨hlt, F4, ρc, acc, ds, zs, ?_, (m2.trans m3).trans m4, RpAll.mono m4 ds (RpAll.mono m3 ds ra), by omega, hz, hy⟩
          have := R4.wipe own
          rw [hw] at this
          exact this
        | true =>
          obtain ⟨⟨d, ρd⟩, he, hz⟩ := bind_okG hz
          obtain ⟨⟨z2, ρz⟩, hr, hz⟩ := bind_okG hz
          cases hz
          refine iteT ⟨_, F4, ρc, R4, Post.ok he fun H5 F5 m5 R5 v rv => ?_⟩
          obtain ⟨hD5, _⟩ := R5.tmp (D, acc) List.mem_cons_self
          obtain ⟨R6, m6⟩ := R5.asideApp (acc' := acc ++ [v]) hd
          have m7 := m5.trans m6
          refine ⟨acc, hD5, by omega, hlt, F5, ρd, acc ++ [v], ds ++ [d], z2, ?_, ((m2.trans m3).trans m4).trans m7, (RpAll.mono m7 ds (RpAll.mono m4 ds (RpAll.mono m3 ds ra))).append (.cons (Rp.mono m6 d rv) .nil), ?_, hr, ?_⟩
          · have := R6.wipe own
            rw [hw] at this
            exact this
          · rw [List.length_append]; simp; omega
          · rw [← hy]; simp
      · have e : i = xs.length := by omega
        subst e
        rw [List.drop_length] at hz
        cases hz
        rw [List.append_nil] at hy
        subst hy
        have Rf := R1.unwipe m2 R2
        refine .inl ⟨j1 (Nat.le_refl _), p1 H F m2 Rf _ ⟨D, acc, rfl, hDH, ra, nF, h0, fun j us e z => ?_, fun p hp z => hd p hp z⟩⟩
        rcases restore_getG ρ1 own ρe j _ e with ⟨_, _, d, z⟩ | ⟨q1, q2⟩
        · cases z
        · exact no j us (by rw [mwipe_out own ρe j q1]; exact q2) (by rw [wipe_out' q1]; exact z)
  · rw [if_neg hl] at p1; exact p1.elim
end
end G
set_option maxHeartbeats 4000000
namespace G
open PySem PySem.Spec PyProof.Rows L2
section
variable (K : PySem.W.Frag) (mg : Str → Option Value) (c : Fc) (W : WX) (D : Ends)
def EndR (σ : L2.St) (H : Hp) (F : Fz) (ρ : Rho) : Fl → Prop
  | .nx => D.nx σ H
  | .bk => D.bk σ H
  | .ct => D.ct σ H
  | .rt r => ∀ v, RVR K mg c σ H F ρ v r.rv → D.rt v H
def PostS (H : Hp) (F : Fz) : Out (Fl × Rho) → Prop
  | .ok (fl, ρ') => ∀ σ' H' F', Mon H F H' F' → Rel K mg c σ' H' F' ρ' → EndR K mg c D σ' H' F' ρ' fl
  | .exc e l => ∀ cls d σ' H' F', Mon H F H' F' → Fr c H' F' → ExcR mg e l cls d H' → W cls d σ' H'
  | .stuck => False
end
section
variable {K : PySem.W.Frag} {mg : Str → Option Value} {c : Fc} {W : WX} {D D' : Ends} {σ σ' : L2.St} {H H' H1 : Hp} {F F' F1 : Fz} {ρ ρ' ρ1 : Rho}
theorem PostS.base {o : Out (Fl × Rho)} (m : Mon H F H1 F1) (h : PostS K mg c W D H F o) : PostS K mg c W D H1 F1 o := by
  cases o with
  | ok p => exact fun σ' H' F' m' R => h σ' H' F' (m.trans m') R
  | exc e l => exact fun cls d σ' H' F' m' fr x => h cls d σ' H' F' (m.trans m') fr x
  | stuck => exact h
theorem PostS.bind {α : Type} {o : Out (α × Rho)} {k : α × Rho → Out (Fl × Rho)} (h : PostS K mg c W D H F (o.bind k)) :
    Post K mg c W σ H F o (fun a ρ1 H1 F1 => PostS K mg c W D H1 F1 (k (a, ρ1))) := by
  cases o with
  | ok p => exact fun H' F' m R => PostS.base m h
  | exc e l => exact fun cls d H' F' m fr x => h cls d σ H' F' m fr x
  | stuck => exact h
theorem PostS.here {fl : Fl} (h : PostS K mg c W D H F (.ok (fl, ρ))) (R : Rel K mg c σ H F ρ) : EndR K mg c D σ H F ρ fl := h σ H F Mon.refl R
theorem PostS.use {E : Ends} {r : RV} {k : G.D × Rho → Out (Fl × Rho)} (h : PostS K mg c W E H F ((M.use r ρ).bind k)) : ∃ d, M.look ρ r = some d ∧ PostS K mg c W E H F (k (d, ρ)) := by
  unfold M.use at h
  cases e : M.look ρ r with
  | none => rw [e] at h; exact h.elim
  | some d => rw [e] at h; exact ⟨d, rfl, h⟩
theorem PostS.asInt {E : Ends} {d : G.D} {k : Int × Rho → Out (Fl × Rho)} (h : PostS K mg c W E H F ((G.asInt d ρ).bind k)) : ∃ i, d = .int i ∧ PostS K mg c W E H F (k (i, ρ)) := by
  cases d <;> first | exact h.elim | exact ⟨_, rfl, h⟩
theorem target_exc {tg : Tg} {d : G.D} {e : Str} {l : Option Int} (h : M.target tg d ρ = .exc e l) : False := by
  cases tg with
  | one i => cases h
  | tup is =>
    cases d with
    | tuple ds =>
      have h : (if is.length = ds.length then Out.ok ((), M.setAll is ds ρ) else .stuck) = Out.exc e l := h
      split at h <;> cases h
    | _ => cases h
theorem keep_cases (ios : List Nat) (r : RV) (ρ : Rho) : (∃ d ρ', M.keep ios r ρ = .ok (d, ρ')) ∨ M.keep ios r ρ = .stuck := by
  cases r with
  | val d => exact .inl ⟨_, _, rfl⟩
  | fresh ds => exact .inl ⟨_, _, rfl⟩
  | own i =>
    unfold M.keep
    simp only
    split
    · split
      · exact .inr rfl
      · exact .inl ⟨_, _, rfl⟩
    · exact .inl ⟨_, _, rfl⟩
    · exact .inr rfl
theorem PostS.keepR {ios : List Nat} {v : V} {r : RV} {g : G.D × Rho → Out (Fl × Rho)} (hio : ∀ p ∈ c.io, p.1 ∈ ios) (R : Rel K mg c σ H F ρ) (h : RVR K mg c σ H F ρ v r) {E : Ends} (p : PostS K mg c W E H F ((M.keep ios r ρ).bind g)) :
    ∃ d ρ' F', Mon H F H F' ∧ Rel K mg c σ H F' ρ' ∧ Rp K mg H F' v d ∧ PostS K mg c W E H F' (g (d, ρ')) := by
  rcases keep_cases ios r ρ with ⟨d, ρ', e⟩ | e
  · obtain ⟨d1, ρ1, F1, m1, R1, q1, rfl, rfl⟩ := R.keepR (W := W) (P := fun d1 ρ1 _ _ => d1 = d ∧ ρ1 = ρ') hio h (Post.ok e fun _ _ _ _ => ⟨rfl, rfl⟩)
    rw [e] at p
    exact ⟨_, _, F1, m1, R1, q1, p.base m1⟩
  · rw [e] at p; exact p.elim
theorem Rel.setOwn {i : Nat} {v : V} {ds : List G.D} (hi : ∀ p ∈ c.io, p.1 ≠ i) (R : Rel K mg c σ H F ρ) (h : RVR K mg c σ H F ρ v (.fresh ds)) : Rel K mg c (σ.set i (some v)) H F (ρ.set i (some (.own ds))) := by
  obtain ⟨a, xs, rfl, h1, h2, h3, h4, h5, h6⟩ := h
  have own : ∀ {j : Nat} {xs : List G.D}, (ρ.set i (some (.own ds)))[j]? = some (some (.own xs)) → (i = j ∧ i < ρ.length) ∨ (i ≠ j ∧ ρ[j]? = some (some (.own xs))) := fun {j xs} e => by
    rcases set_get ρ i j _ _ e with ⟨h1, h2, h3⟩ | z
    · exact .inl ⟨h1, h3⟩
    · exact .inr z
  refine ⟨R.fr, by rw [List.length_set, List.length_set]; exact R.len, fun j x e => ?_, fun j k b xs ys e1 e2 e3 e4 => ?_, fun p hp => ?_⟩
  · rcases set_get ρ i j _ _ e with ⟨rfl, z, hl⟩ | ⟨hij, z⟩
    · cases z
      exact ⟨_, List.getElem?_set_self (by rw [R.len]; exact hl), a, xs, rfl, h1, h2, h3, .inr ⟨h4, hi⟩⟩
    · obtain ⟨w, h1, h2⟩ := R.cel j x z
      exact ⟨w, by rw [List.getElem?_set_ne hij]; exact h1, h2⟩
  · rcases own e1 with ⟨n1, g1⟩ | ⟨n1, g1⟩
    · subst n1
      rcases own e2 with ⟨n2, g2⟩ | ⟨n2, g2⟩
      · exact n2
      · rw [List.getElem?_set_self (by rw [R.len]; exact g1)] at e3
        cases e3
        rw [List.getElem?_set_ne n2] at e4
        exact absurd e4 (h5 k ys g2)
    · rw [List.getElem?_set_ne n1] at e3
      rcases own e2 with ⟨n2, g2⟩ | ⟨n2, g2⟩
      · subst n2
        rw [List.getElem?_set_self (by rw [R.len]; exact g2)] at e4
        cases e4
        exact absurd e3 (h5 j xs g1)
      · rw [List.getElem?_set_ne n2] at e4
        exact R.dis j k b xs ys g1 g2 e3 e4
  · obtain ⟨g1, g2, g3, g4⟩ := R.tmp p hp
    refine ⟨g1, g2, g3, fun j ys e => ?_⟩
    rcases own e with ⟨n1, q⟩ | ⟨n1, q⟩
    · subst n1
      rw [List.getElem?_set_self (by rw [R.len]; exact q)]
      intro z
      cases z
      exact h6 p hp rfl
    · rw [List.getElem?_set_ne n1]
      exact g4 j ys q
theorem PostS.storeR {ios : List Nat} {i : Nat} {hold : Bool} {v : V} {r : RV} {g : Unit → M Fl} (hio : ∀ p ∈ c.io, p.1 ∈ ios) (R : Rel K mg c σ H F ρ) (h : RVR K mg c σ H F ρ v r) {E : Ends} (p : PostS K mg c W E H F (M.bind (M.store ios i hold r) g ρ)) :
    ∃ ρ' F', Mon H F H F' ∧ Rel K mg c (σ.set i (some v)) H F' ρ' ∧ PostS K mg c W E H F' (g () ρ') := by
  have kept : M.store ios i hold r = (M.bind (M.keep ios r) fun d => fun ρ => .ok ((), ρ.set i (some (.val d)))) → ∃ ρ' F', Mon H F H F' ∧ Rel K mg c (σ.set i (some v)) H F' ρ' ∧ PostS K mg c W E H F' (g () ρ') := fun e => by
    rw [e] at p
    have p' : PostS K mg c W E H F ((M.keep ios r ρ).bind fun q => g () (q.2.set i (some (.val q.1)))) := by
      rcases keep_cases ios r ρ with ⟨d, ρ', e2⟩ | e2
      · rw [M.bind_ap, M.bind_ap, e2] at p
        rw [e2]
        exact p
      · rw [M.bind_ap, M.bind_ap, e2] at p
        rw [e2]
        exact p
    obtain ⟨d, ρ', F', m, R', q, p2⟩ := PostS.keepR hio R h p'
    exact ⟨_, F', m, R'.setVal q, p2⟩
  cases hold with
  | false => exact kept (by cases r <;> rfl)
  | true =>
    cases r with
    | val d => exact kept rfl
    | own j => exact kept rfl
    | fresh ds =>
      have p' : PostS K mg c W E H F ((if i ∈ ios then Out.stuck else .ok ((), ρ.set i (some (.own ds)))).bind fun q => g () q.2) := p
      by_cases hi : i ∈ ios
      · rw [if_pos hi] at p'; exact p'.elim
      · rw [if_neg hi] at p'
        exact ⟨_, F, Mon.refl, R.setOwn (fun q hq z => hi (z ▸ hio q hq)) h, p'⟩
theorem PostS.giveR {ios : List Nat} {v : V} {r : RV} {g : Rs × Rho → Out (Fl × Rho)} (hio : ∀ p ∈ c.io, p.1 ∈ ios) (R : Rel K mg c σ H F ρ) (h : RVR K mg c σ H F ρ v r) {E : Ends} (p : PostS K mg c W E H F ((M.give ios r ρ).bind g)) :
    ∃ x ρ', Rel K mg c σ H F ρ' ∧ RVR K mg c σ H F ρ' v x.rv ∧ PostS K mg c W E H F (g (x, ρ')) := by
  cases r with
  | val d => exact ⟨.val d, ρ, R, h, p⟩
  | fresh ds => exact ⟨.fresh ds, ρ, R, h, p⟩
  | own i =>
    unfold M.give at p
    simp only at p
    have hv : σ[i]? = some (some v) := h
    split at p
    · rename_i ds hi
      split at p
      · exact p.elim
      · rename_i hn
        obtain ⟨v', e1, a, xs, rfl, h1, h2, h3, h4⟩ := R.cel i _ hi
        rw [hv] at e1
        cases e1
        have h0 : c.H0 a = none := by
          rcases h4 with h4 | h4
          · exact absurd (hio _ h4) hn
          · exact h4.1
        refine ⟨.fresh ds, _, R.set_none i, ⟨a, xs, rfl, h1, h2, h3, h0, fun j ys e z => ?_, fun q hq z => (R.tmp q hq).2.2.2 i ds hi (by rw [z]; exact hv)⟩, p⟩
        rcases set_get ρ i j _ _ e with ⟨_, q, _⟩ | ⟨hij, q⟩
        · cases q
        · exact hij (R.dis i j a ds ys hi q hv z)
    · rename_i d hi
      obtain ⟨v', e1, h1⟩ := R.cel i _ hi
      rw [hv] at e1
      cases e1
      exact ⟨.val d, ρ, R, h1, p⟩
    · exact p.elim
end
def rdS (X : Cx) (c : Fc) (W : WX) (f : M Fl) : TS := fun D σ H => ∃ F ρ, Rel X.K X.mg c σ H F ρ ∧ PostS X.K X.mg c W D H F (f ρ)
abbrev PSX (X : Cx) (c : Fc) (W : WX) (s : Stmt) (f : M Fl) : Prop := PS X s (rdS X c W f)
abbrev PBX (X : Cx) (c : Fc) (W : WX) (s : List Stmt) (f : M Fl) : Prop := PSs X s (rdS X c W f)
theorem psImp {X : Cx} {s : Stmt} {t t' : TS} (h : PS X s t) (i : ∀ D σ H, t' D σ H → t D σ H) : PS X s t' := ⟨fun pins s σ H D I q => h.run pins s σ H D I (i D σ H q)⟩
theorem pssImp {X : Cx} {s : List Stmt} {t t' : TS} (h : PSs X s t) (i : ∀ D σ H, t' D σ H → t D σ H) : PSs X s t' := ⟨fun pins s σ H D I q => h.run pins s σ H D I (i D σ H q)⟩
section
variable {X : Cx} {c : Fc} {W : WX} {C : Cfg} {S : Sco} {k : Nat}
theorem pbx_nil : PBX X c W [] (M.pure .nx) := pssImp pss_nil fun D σ H ⟨F, ρ, R, p⟩ => PostS.here p R
theorem pbx_cons {s : Stmt} {r : List Stmt} {f g : M Fl} {k : Fl → M Fl} (hk : k .nx = g) (hk2 : ∀ fl, fl ≠ .nx → k fl = M.pure fl) (h1 : PSX X c W s f) (h2 : PBX X c W r g) : PBX X c W (s :: r) (M.bind f k) := by
  refine pssImp (pss_cons h1 h2) fun D σ H ⟨F, ρ, R, p⟩ => ⟨F, ρ, R, ?_⟩
  have p : PostS X.K X.mg c W D H F ((f ρ).bind fun q => k q.1 q.2) := p
  cases e : f ρ with
  | stuck => rw [e] at p; exact p.elim
  | exc x l => rw [e] at p; exact p
  | ok q =>
    obtain ⟨fl, ρ'⟩ := q
    rw [e] at p
    have p : PostS X.K X.mg c W D H F (k fl ρ') := p
    intro σ' H' F' m R'
    cases fl with
    | nx =>
      rw [hk] at p
      exact ⟨F', ρ', R', p.base m⟩
    | bk =>
      rw [hk2 _ (by intro z; cases z)] at p
      exact p σ' H' F' m R'
    | ct =>
      rw [hk2 _ (by intro z; cases z)] at p
      exact p σ' H' F' m R'
    | rt r =>
      rw [hk2 _ (by intro z; cases z)] at p
      exact p σ' H' F' m R'
theorem psx_pass {pos : Pos} : PSX X c W (.Pass pos) (M.pure .nx) := psImp ps_pass fun D σ H ⟨F, ρ, R, p⟩ => PostS.here p R
theorem psx_brk {pos : Pos} : PSX X c W (.Break pos) (M.pure .bk) := psImp ps_break fun D σ H ⟨F, ρ, R, p⟩ => PostS.here p R
theorem psx_cont {pos : Pos} : PSX X c W (.Continue pos) (M.pure .ct) := psImp ps_continue fun D σ H ⟨F, ρ, R, p⟩ => PostS.here p R
theorem psx_retN {pos : Pos} : PSX X c W (.Return none pos) (M.pure (.rt (.val .none))) := psImp ps_retN fun D σ H ⟨F, ρ, R, p⟩ => PostS.here p R _ .non
theorem psx_ex {e : Expr} {f : M RV} {pos : Pos} (h : PX X c W e f) (hs : swapsWith e none pos.line X.env = pure false) : PSX X c W (.Expr e pos) (M.bind f fun _ => M.pure .nx) :=
  psImp (ps_expr h hs) fun D σ H ⟨F, ρ, R, p⟩ => ⟨F, ρ, R, (PostS.bind p).mono fun r ρ1 H1 F1 m1 R1 p1 v rv => PostS.here p1 R1⟩
theorem psx_ite {e : Expr} {f : M Bool} {a b : List Stmt} {fa fb : M Fl} {pos : Pos} (h : PTX X c W e f) (ha : PBX X c W a fa) (hb : PBX X c W b fb) : PSX X c W (.If e a b pos) (M.bind f fun k => if k = true then fa else fb) := by
  refine psImp (ps_if h ha hb) fun D σ H ⟨F, ρ, R, p⟩ => ⟨F, ρ, R, (PostS.bind p).mono fun k ρ1 H1 F1 m1 R1 p1 => ?_⟩
  cases k with
  | true => exact iteT ⟨F1, ρ1, R1, p1⟩
  | false => exact iteF ⟨F1, ρ1, R1, p1⟩
theorem psx_for {tgE iter : Expr} {body : List Stmt} {tg : Tg} {clear : List Nat} {fi : M (List D)} {fb : M Fl} {pos : Pos} (V1 : Env1 X c W C S k) (hi : PIX X c W tgE iter fi) (hg : PG X tgE (gX X tg)) (hb : PBX X c W body fb)
    (hs : ∀ x, foldedSetIterable iter X.env x = pure x) : PSX X c W (.For tgE iter body [] pos) (M.bind fi fun xs => forGo clear tg fb xs) := by
  refine psImp (ps_for V1.po V1.calm hi hg hb hs) fun D σ H ⟨F, ρ, R, p⟩ => ⟨F, ρ, R, (PostS.bind p).mono fun xs ρ1 H1 F1 m1 R1 p1 J hJ => ?_⟩
  have p1 : PostS X.K X.mg c W D H1 F1 (forGo clear tg fb xs ρ1) := p1
  let Pv : Nat → L2.St → Hp → Prop := fun i σ H => i ≤ xs.length ∧ ∃ F ρi, Rel X.K X.mg c σ H F ρi ∧ Mon H1 F1 H F ∧ PostS X.K X.mg c W D H F (forGo clear tg fb (xs.drop i) ρi)
  refine ⟨fun i m σ H => m = xs.length - i ∧ Pv i σ H, ⟨xs.length, by simp, Nat.zero_le _, F1, ρ1, R1, Mon.refl, p1⟩, ?_⟩
  rintro i m σ H ⟨rfl, hi, F, ρi, R2, m2, p2⟩
  obtain ⟨j1, j2, j3⟩ := hJ H F m2 R2.fr.fl i
  by_cases hlt : i < xs.length
  · refine .inr ⟨j2 hlt, Pv (i + 1), fun σ' H' p' => ⟨xs.length - (i + 1), by omega, rfl, p'⟩, fun x H' y => ?_⟩
    obtain ⟨gr, hx⟩ := j3 x H' y
    have m3 := R2.mon gr
    have R3 := R2.grow gr
    rw [List.drop_eq_getElem_cons hlt] at p2
    have p2 : PostS X.K X.mg c W D H F ((M.target tg xs[i] ρi).bind fun p => (fb p.2).bind fun q => match q.1 with
      | .nx => forGo clear tg fb (xs.drop (i + 1)) (M.wipe clear q.2)
      | .ct => forGo clear tg fb (xs.drop (i + 1)) (M.wipe clear q.2)
      | .bk => .ok (.nx, M.wipe clear q.2)
      | .rt v => .ok (.rt v, q.2)) := p2
    cases ht : M.target tg xs[i] ρi with
    | stuck => rw [ht] at p2; exact p2.elim
    | exc e l =>
      exact (target_exc ht).elim
    | ok q =>
      obtain ⟨_, ρt⟩ := q
      rw [ht] at p2
      have p2 : PostS X.K X.mg c W D H F ((fb ρt).bind fun q => match q.1 with
        | .nx => forGo clear tg fb (xs.drop (i + 1)) (M.wipe clear q.2)
        | .ct => forGo clear tg fb (xs.drop (i + 1)) (M.wipe clear q.2)
        | .bk => .ok (.nx, M.wipe clear q.2)
        | .rt v => .ok (.rt v, q.2)) := p2
      refine ⟨c, F, ρi, xs[i], ρt, R3, hx _ (List.getElem?_eq_getElem hlt), ht, fun σ' R4 _ _ => ⟨F, ρt, R4, ?_⟩⟩
      cases hb : fb ρt with
      | stuck => rw [hb] at p2; exact p2.elim
      | exc e l =>
        rw [hb] at p2
        exact PostS.base m3 (o := .exc e l) (D := D) p2
      | ok q =>
        obtain ⟨fl, ρb⟩ := q
        rw [hb] at p2
        intro σ2 H2 F2 m4 R5
        have m5 := m3.trans m4
        have next : PostS X.K X.mg c W D H F (forGo clear tg fb (xs.drop (i + 1)) (M.wipe clear ρb)) → Pv (i + 1) σ2 H2 := fun p => ⟨hlt, F2, _, R5.wipe' clear, m2.trans m5, p.base m5⟩
        cases fl with
        | nx => exact next p2
        | ct => exact next p2
        | bk => exact p2 σ2 H2 F2 m5 (R5.wipe' clear)
        | rt v => exact p2 σ2 H2 F2 m5 R5
  · have e : i = xs.length := by omega
    subst e
    rw [List.drop_length] at p2
    exact .inl ⟨j1 (Nat.le_refl _), PostS.here p2 R2⟩
theorem psx_whl {e : Expr} {body : List Stmt} {f : M Bool} {fb : M Fl} {pos : Pos} {n : Nat} (V1 : Env1 X c W C S k) (h : PTX X c W e f) (hb : PBX X c W body fb) : PSX X c W (.While e body [] pos) (whlGo f fb n) := by
  refine psImp (ps_while V1.po h hb) fun D σ H ⟨F, ρ, R, p⟩ => ?_
  refine ⟨fun m σ H => ∃ F ρ, Rel X.K X.mg c σ H F ρ ∧ PostS X.K X.mg c W D H F (whlGo f fb m ρ), ⟨n, F, ρ, R, p⟩, ?_⟩
  rintro m σ H ⟨F, ρ, R, p⟩
  cases m with
  | zero => exact p.elim
  | succ m =>
    have p : PostS X.K X.mg c W D H F ((f ρ).bind fun k => match k.1 with
      | false => .ok (.nx, k.2)
      | true => (fb k.2).bind fun q => match q.1 with
        | .nx => whlGo f fb m q.2
        | .ct => whlGo f fb m q.2
        | .bk => .ok (.nx, q.2)
        | .rt v => .ok (.rt v, q.2)) := p
    refine ⟨F, ρ, R, (PostS.bind p).mono fun k ρ1 H1 F1 m1 R1 p1 => ?_⟩
    cases k with
    | false => exact iteF (PostS.here p1 R1)
    | true =>
      refine iteT ⟨fun σ' H' => ∃ F ρ, Rel X.K X.mg c σ' H' F ρ ∧ PostS X.K X.mg c W D H' F (whlGo f fb m ρ), fun σ' H' q => ⟨m, Nat.lt_succ_self _, q⟩, F1, ρ1, R1, ?_⟩
      have p1 : PostS X.K X.mg c W D H1 F1 ((fb ρ1).bind fun q => match q.1 with
        | .nx => whlGo f fb m q.2
        | .ct => whlGo f fb m q.2
        | .bk => .ok (.nx, q.2)
        | .rt v => .ok (.rt v, q.2)) := p1
      cases hb : fb ρ1 with
      | stuck => rw [hb] at p1; exact p1.elim
      | exc e l =>
        rw [hb] at p1
        exact p1
      | ok q =>
        obtain ⟨fl, ρb⟩ := q
        rw [hb] at p1
        intro σ2 H2 F2 m4 R5
        cases fl with
        | nx => exact ⟨F2, ρb, R5, PostS.base m4 p1⟩
        | ct => exact ⟨F2, ρb, R5, PostS.base m4 p1⟩
        | bk => exact p1 σ2 H2 F2 m4 R5
        | rt v => exact p1 σ2 H2 F2 m4 R5
section
variable (V1 : Env1 X c W C S k)
include V1
theorem psx_ret {e : Expr} {f : M RV} {pos : Pos} (h : PX X c W e f) : PSX X c W (.Return (some e) pos) (M.bind f fun r => M.bind (M.give C.ios r) fun v => M.pure (.rt v)) := by
  refine psImp (ps_ret h) fun D σ H ⟨F, ρ, R, p⟩ => ⟨F, ρ, R, (PostS.bind p).mono fun r ρ1 H1 F1 m1 R1 p1 v rv => ?_⟩
  obtain ⟨x, ρ2, R2, q, p2⟩ := PostS.giveR V1.ios R1 rv p1
  exact PostS.here p2 R2 v q
theorem psx_asg {st : Stmt} {i : Nat} {hold : Bool} {te : TE} {f : M RV} (h : PS X st (tAsg te (gName i))) (ht : ∀ σ H Q, rd X c W f σ H Q → te σ H Q) : PSX X c W st (M.bind f fun r => M.bind (M.store C.ios i hold r) fun _ => M.pure .nx) := by
  refine psImp h fun D σ H ⟨F, ρ, R, p⟩ => ht σ H _ ⟨F, ρ, R, (PostS.bind p).mono fun r ρ1 H1 F1 m1 R1 p1 v rv => ?_⟩
  obtain ⟨ρ2, F2, m2, R2, p2⟩ := PostS.storeR V1.ios R1 rv p1
  exact PostS.here p2 R2
theorem psx_asgT {tgE e : Expr} {is : List Nat} {f : M RV} {pos : Pos} (he : PX X c W e f) (hg : PG X tgE (gX X (.tup is))) (hs : swapsWithSole [tgE] e pos.line X.env = pure false) (hw : swappedStores [tgE] e X.env = pure none) (h1 : (assignEach [tgE] X.env).map (·.2) = [assign tgE X.env]) :
    PSX X c W (.Assign [tgE] e pos) (M.bind f fun r => M.bind (M.keep C.ios r) fun d => M.bind (M.target (.tup is) d) fun _ => M.pure .nx) := by
  refine psImp (ps_asg he hg hs hw h1) fun D σ H ⟨F, ρ, R, p⟩ => ⟨F, ρ, R, (PostS.bind p).mono fun r ρ1 H1 F1 m1 R1 p1 v rv => ?_⟩
  obtain ⟨d, ρ2, F2, m2, R2, q, p2⟩ := PostS.keepR V1.ios R1 rv p1
  have p2 : PostS X.K X.mg c W D H1 F2 ((M.target (.tup is) d ρ2).bind fun q => .ok (.nx, q.2)) := p2
  cases ht : M.target (.tup is) d ρ2 with
  | stuck => rw [ht] at p2; exact p2.elim
  | exc e l =>
    exact (target_exc ht).elim
  | ok q' =>
    obtain ⟨_, ρt⟩ := q'
    rw [ht] at p2
    exact ⟨c, F2, ρ2, d, ρt, R2, q, ht, fun σ' R3 _ _ => PostS.here p2 R3⟩
theorem psx_par {i j : Nat} {x y : Str} {a b : Expr} {g : M (List D)} {px py pt pos : Pos} {kt k2 pt2} (hi : X.N[i]? = some x) (hj : X.N[j]? = some y) (hij : i ≠ j)
    (hx : X.env.scope.names.lookup x = some .local) (hy : X.env.scope.names.lookup y = some .local) (ha : PKX X c W [a, b] g)
    (hw : swappedStores [.Tuple [.Name x px, .Name y py] kt pt] (.Tuple [a, b] k2 pt2) X.env = pure (some [x, y]))
    (hs : swapsWithSole [.Tuple [.Name x px, .Name y py] kt pt] (.Tuple [a, b] k2 pt2) pos.line X.env = pure false) :
    PSX X c W (.Assign [.Tuple [.Name x px, .Name y py] kt pt] (.Tuple [a, b] k2 pt2) pos) (M.bind g fun ds => if [i, j].length = ds.length then fun ρ => .ok (.nx, M.setAll [i, j] ds ρ) else M.stuck) := by
  refine psImp (ps_par V1.calm V1.nd hi hj hij hx hy ha hw hs) fun D σ H ⟨F, ρ, R, p⟩ => ⟨F, ρ, R, (PostS.bind p).mono fun ds ρ1 H1 F1 m1 R1 p1 vs hvs => ?_⟩
  dsimp only at p1
  by_cases hl : [i, j].length = ds.length
  · rw [if_pos hl] at p1
    cases hvs with
    | nil => simp at hl
    | cons r1 t =>
      cases t with
      | nil => simp at hl
      | cons r2 t =>
        cases t with
        | cons _ _ => simp at hl
        | nil => exact ⟨_, _, rfl, PostS.here p1 ((R1.setVal r1).setVal r2)⟩
  · rw [if_neg hl] at p1; exact p1.elim
theorem psx_par3 {i j l : Nat} {x y z : Str} {a b d : Expr} {g : M (List D)} {px py pz pt pos : Pos} {kt k2 pt2} (hi : X.N[i]? = some x) (hj : X.N[j]? = some y) (hk : X.N[l]? = some z) (hij : i ≠ j) (hil : i ≠ l) (hjl : j ≠ l)
    (hx : X.env.scope.names.lookup x = some .local) (hy : X.env.scope.names.lookup y = some .local) (hz : X.env.scope.names.lookup z = some .local) (ha : PKX X c W [a, b, d] g)
    (hw : swappedStores [.Tuple [.Name x px, .Name y py, .Name z pz] kt pt] (.Tuple [a, b, d] k2 pt2) X.env = pure (some [x, y, z]))
    (hs : swapsWithSole [.Tuple [.Name x px, .Name y py, .Name z pz] kt pt] (.Tuple [a, b, d] k2 pt2) pos.line X.env = pure false) :
    PSX X c W (.Assign [.Tuple [.Name x px, .Name y py, .Name z pz] kt pt] (.Tuple [a, b, d] k2 pt2) pos) (M.bind g fun ds => if [i, j, l].length = ds.length then fun ρ => .ok (.nx, M.setAll [i, j, l] ds ρ) else M.stuck) := by
  refine psImp (ps_par3 V1.calm V1.nd hi hj hk hij hil hjl hx hy hz ha hw hs) fun D σ H ⟨F, ρ, R, p⟩ => ⟨F, ρ, R, (PostS.bind p).mono fun ds ρ1 H1 F1 m1 R1 p1 vs hvs => ?_⟩
  dsimp only at p1
  by_cases hl : [i, j, l].length = ds.length
  · rw [if_pos hl] at p1
    cases hvs with
    | nil => simp at hl
    | cons r1 t =>
      cases t with
      | nil => simp at hl
      | cons r2 t =>
        cases t with
        | nil => simp at hl
        | cons r3 t =>
          cases t with
          | cons _ _ => simp at hl
          | nil => exact ⟨_, _, _, rfl, PostS.here p1 (((R1.setVal r1).setVal r2).setVal r3)⟩
  · rw [if_neg hl] at p1; exact p1.elim
theorem psx_setIx {i : Nat} {o ke e : Expr} {fk f : M RV} {tpos pos : Pos} (ho : PE X o (tVar i)) (hk : PX X c W ke fk) (he : PX X c W e f)
    (ha : ∀ v, assign (.Subscript o ke tpos) X.env v = (do
      let ov ← holding [v] (eval o X.env)
      let iv ← holding [v, ov] (eval ke X.env)
      standAt tpos
      holding [v, ov, iv] (setItem ov iv v)
      release [v, ov, iv] [])) (hs : swapsWithSole [.Subscript o ke tpos] e pos.line X.env = pure false) (hw : swappedStores [.Subscript o ke tpos] e X.env = pure none) (h1 : (assignEach [.Subscript o ke tpos] X.env).map (·.2) = [assign (.Subscript o ke tpos) X.env]) :
    PSX X c W (.Assign [.Subscript o ke tpos] e pos) (M.bind f fun r => M.bind (M.keep C.ios r) fun d => M.bind (isOwn i) fun _ => M.bind fk fun rk => M.bind (M.use rk) fun x => M.bind (asInt x) fun j => fun ρ => match ρ[i]? with
      | some (some (.own xs)) => match L2.ixN xs.length j with
        | some n => .ok (.nx, ρ.set i (some (.own (xs.set n d))))
        | none => .stuck
      | _ => .stuck) := by
  refine psImp (ps_asg he (pg_sub (pos := tpos) ho hk set_list ha) hs hw h1) fun D σ H ⟨F, ρ, R, p⟩ => ⟨F, ρ, R, (PostS.bind p).mono fun r ρ1 H1 F1 m1 R1 p1 v rv => ?_⟩
  obtain ⟨d, ρ2, F2, m2, R2, q, p2⟩ := PostS.keepR V1.ios R1 rv p1
  have p2 : PostS X.K X.mg c W D H1 F2 ((isOwn i ρ2).bind fun q => (M.bind fk fun rk => M.bind (M.use rk) fun x => M.bind (asInt x) fun j => fun ρ => match ρ[i]? with
      | some (some (.own xs)) => match L2.ixN xs.length j with
        | some n => .ok (.nx, ρ.set i (some (.own (xs.set n d))))
        | none => .stuck
      | _ => .stuck) q.2) := p2
  unfold isOwn at p2
  split at p2
  · rename_i zs hi
    obtain ⟨o, e1, _⟩ := R2.cel i _ hi
    have p2 : PostS X.K X.mg c W D H1 F2 ((fk ρ2).bind fun q => (M.use q.1 q.2).bind fun q => (asInt q.1 q.2).bind fun q => match q.2[i]? with
      | some (some (.own xs)) => match L2.ixN xs.length q.1 with
        | some n => .ok (.nx, q.2.set i (some (.own (xs.set n d))))
        | none => .stuck
      | _ => .stuck) := p2
    refine ⟨o, e1, F2, ρ2, R2, (PostS.bind p2).mono fun rk ρ3 H3 F3 m3 R3 p3 iv ri => ?_⟩
    obtain ⟨x, ex, p4⟩ := PostS.use p3
    obtain ⟨j, rfl, p5⟩ := PostS.asInt p4
    obtain rfl := (R3.lookR ri ex).int
    dsimp only at p5
    split at p5
    · rename_i xs hx
      split at p5
      · rename_i n hn
        obtain ⟨v', e2, a, ws, rfl, g1, g2, _⟩ := R3.cel i _ hx
        rw [e1] at e2
        cases e2
        obtain ⟨m4, R4⟩ := R3.write hx e1 g1 (g2.set (Rp.mono m3 d q) n)
        exact ⟨a, ws, j, n, rfl, rfl, g1, by rw [g2.length]; exact hn, PostS.here (PostS.base m4 p5) R4⟩
      · exact p5.elim
    · exact p5.elim
  · exact p2.elim
theorem psx_setSl {i : Nat} {o e : Expr} {lo hi : Option Expr} {fl fh : M (Option Int)} {f : M RV} {p2 tpos pos : Pos} (ho : PE X o (tVar i)) (hl : POX X c W lo fl) (hh : POX X c W hi fh) (he : PX X c W e f)
    (ha : ∀ v, assign (.Subscript o (.Slice lo hi none p2) tpos) X.env v = (do
      let ov ← holding [v] (eval o X.env)
      let iv ← holding [v, ov] (eval (.Slice lo hi none p2) X.env)
      standAt tpos
      holding [v, ov, iv] (setItem ov iv v)
      release [iv, v, ov] [])) (hs : swapsWithSole [.Subscript o (.Slice lo hi none p2) tpos] e pos.line X.env = pure false) (hw : swappedStores [.Subscript o (.Slice lo hi none p2) tpos] e X.env = pure none)
    (h1 : (assignEach [.Subscript o (.Slice lo hi none p2) tpos] X.env).map (·.2) = [assign (.Subscript o (.Slice lo hi none p2) tpos) X.env]) :
    PSX X c W (.Assign [.Subscript o (.Slice lo hi none p2) tpos] e pos) (M.bind f fun r => M.bind (M.keep C.ios r) fun d => M.bind (isOwn i) fun _ => M.bind fl fun l => M.bind fh fun h => spliceAt i d l h) := by
  refine psImp (ps_asg he (pg_subSl ho hl hh ha) hs hw h1) fun D σ H ⟨F, ρ, R, p⟩ => ⟨F, ρ, R, (PostS.bind p).mono fun r ρ1 H1 F1 m1 R1 p1 v rv => ?_⟩
  obtain ⟨d, ρ2, F2, m2, R2, q, pA⟩ := PostS.keepR V1.ios R1 rv p1
  have pB : PostS X.K X.mg c W D H1 F2 ((isOwn i ρ2).bind fun q => (M.bind fl fun l => M.bind fh fun h => spliceAt i d l h) q.2) := pA
  clear pA
  unfold isOwn at pB
  split at pB
  · rename_i zs hi
    obtain ⟨o, e1, _⟩ := R2.cel i _ hi
    have pC : PostS X.K X.mg c W D H1 F2 ((fl ρ2).bind fun q => (fh q.2).bind fun y => spliceAt i d q.1 y.1 y.2) := pB
    clear pB
    refine ⟨o, e1, F2, ρ2, R2, (PostS.bind pC).mono fun l ρ3 H3 F3 m3 R3 p3 => ⟨F3, ρ3, R3, (PostS.bind p3).mono fun h ρ4 H4 F4 m4 R4 p4 => ?_⟩⟩
    unfold spliceAt at p4
    split at p4
    · rename_i xs ys lo' hi' hx hl1 hh1
      cases (hl1 : l = some lo')
      cases (hh1 : h = some hi')
      have hx : ρ4[i]? = some (some (.own xs)) := hx
      split at p4
      · rename_i zs' hz
        unfold spliceL at hz
        split at hz
        · rename_i hc
          cases hz
          obtain ⟨v', e2, a, ws, rfl, g1, g2, g3⟩ := R4.cel i _ hx
          rw [e1] at e2
          cases e2
          have q4 := Rp.mono (m3.trans m4) _ q
          cases q4 with
          | @lst b us _ f1 f2 f3 =>
            have ne : a ≠ b := fun z => g3.1 (z ▸ f1)
            obtain ⟨m5, R5⟩ := R4.write hx e1 g1 (((g2.take (min lo'.toNat xs.length)).append f3).append (g2.drop (min hi'.toNat xs.length)))
            refine ⟨lo', hi', a, b, ws, us, rfl, rfl, rfl, rfl, g1, f2, ne, hc.1, hc.2.1, by rw [g2.length, f3.length]; exact hc.2.2, ?_⟩
            rw [g2.length]
            exact PostS.here (PostS.base m5 p4) R5
        · cases hz
      · exact p4.elim
    · exact p4.elim
  · exact pB.elim
end
end
end G
set_option maxHeartbeats 4000000
namespace G
open PySem PySem.Spec PyProof.Rows L2
section
variable {X : Cx} {c : Fc} {W : WX} {C : Cfg} {S : Sco} {k : Nat}
theorem takesF {X : Cx} : L2N.Takes X WF := fun _ _ ⟨_, _, _, _, _, _, _, _, _, _, _, _, _, _, _, _, w⟩ => w.elim
theorem Env1.blk (V1 : Env1 X c W C S k) (s : Shared) (H : Hp) (scope : Scope) (Cl : Addr) (cl : List (Str × Addr)) (fp : List Addr) (tm : List (Addr × List V)) :
    Env1 (X.blk s H scope (compEnvC scope cl Cl X.env) fp) { c with tm := tm } WF C { S with sc := relS scope S.sc, fnB := fun x => scope.names.lookup x == some .cell, told := false } k where
  calm := V1.calm
  nd := V1.nd
  names := V1.names
  scope := by
    show relS scope X.env.scope = _
    rw [V1.scope]
  takes := takesF
  po := PassesOwn.never
  room := V1.room
  ios := V1.ios
  fns := V1.fns
  cst := V1.cst
  blt := V1.blt
  exc := V1.exc
  fn := fun x h => h
  tabs := V1.tabs
  tbs := V1.tbs
  low := V1.low
  excE := V1.excE
  hz := fun h => Bool.noConfusion h
  told := fun h => Bool.noConfusion h
theorem ptAny {X : Cx} {c : Fc} {e : Expr} {f : M Bool} (h : ∀ tm, PTX X { c with tm := tm } WF e f) : PT X e (ttE X c f) := ⟨fun pins s σ H Q I ⟨tm, q⟩ => (h tm).run pins s σ H Q I q⟩
theorem ptsAny {X : Cx} {c : Fc} {e : Expr} {f : M Bool} (h : ∀ tm, PTX X { c with tm := tm } WF e f) : PTs X [e] (ttE X c f) := pts_one (ptAny h)
theorem ptsNone {X : Cx} {c : Fc} : PTs X [] (ttE X c (M.pure true)) := ⟨fun pins s σ H Q I ⟨tm, F, ρ, R, p⟩ => pts_nil.run pins s σ H Q I (Post.here p R)⟩
theorem peAny {X : Cx} {c : Fc} {e : Expr} {f : M RV} {ios : List Nat} (hio : ∀ p ∈ c.io, p.1 ∈ ios) (h : ∀ tm, PX X { c with tm := tm } WF e f) : PE X e (teE X c (M.bind f fun r => M.keep ios r)) := by
  refine ⟨fun pins s σ H Q I ⟨tm, F, ρ, R, p⟩ => (h tm).run pins s σ H Q I ⟨F, ρ, R, (Post.bind p).mono fun r ρ1 H1 F1 m1 R1 p1 v rv => ?_⟩⟩
  obtain ⟨d, ρ2, F2, m2, R2, q, p2⟩ := R1.keepR (c := { c with tm := tm }) hio rv p1
  exact p2 v q
structure LcOk (X : Cx) (c : Fc) (C : Cfg) (S : Sco) (scope : Scope) (tgE : Expr) (ifs : List Expr) (elt : Expr) (tg : Tg) (fc : M Bool) (fe : M RV) : Prop where
  tg : ∀ (s : Shared) (H : Hp) (Cl : Addr) (cl : List (Str × Addr)) (fp : List Addr), PG (X.blk s H scope (compEnvC scope cl Cl X.env) fp) tgE (gX X tg)
  ts : ∀ (s : Shared) (H : Hp) (Cl : Addr) (cl : List (Str × Addr)) (fp : List Addr), PTs (X.blk s H scope (compEnvC scope cl Cl X.env) fp) ifs (ttE X c fc)
  el : ∀ (s : Shared) (H : Hp) (Cl : Addr) (cl : List (Str × Addr)) (fp : List Addr) (tm : List (Addr × List V)), PX (X.blk s H scope (compEnvC scope cl Cl X.env) fp) { c with tm := tm } WF elt fe
section
variable (V1 : Env1 X c W C S k)
include V1
theorem px_lc {elt tgE iter : Expr} {ifs : List Expr} {scope : Scope} {own : List (Str × Nat)} {pos : Pos} {tg : Tg} {fi : M (List D)} {fc : M Bool} {fe : M RV} (hi : PIX X c W tgE iter fi) (ok : BlkOk X.N X.env.scope scope own) (L : LcOk X c C S scope tgE ifs elt tg fc fe)
    (htg : ∀ j ∈ tg.slots, j ∈ own.map (·.2)) (hs : ∀ x, foldedSetIterable iter X.env x = pure x) :
    PX X c W (.ListComp elt [⟨tgE, iter, ifs, 0⟩] scope pos) (M.bind fi fun xs => fun ρ => if lines xs.length then lcEnd (own.map (·.2)) ρ (lcGo (own.map (·.2)) tg fc (M.bind fe fun r => M.keep C.ios r) xs ρ) else .stuck) :=
  peImp (pe_lc V1.calm V1.nd hi ok (fun s H Cl cl fp => L.tg s H Cl cl fp) (fun s H Cl cl fp => L.ts s H Cl cl fp) (fun s H Cl cl fp => peAny V1.ios (L.el s H Cl cl fp)) hs) fun σ H Q h => lc_imp htg h
theorem psx_lc {i : Nat} {y : Str} {py : Pos} {hold : Bool} {elt tgE iter : Expr} {ifs : List Expr} {scope : Scope} {own : List (Str × Nat)} {pos spos : Pos} {tg : Tg} {fi : M (List D)} {fc : M Bool} {fe : M RV} (hy : X.N[i]? = some y) (hyl : X.env.scope.names.lookup y = some .local)
    (hsw : swapsWith (.ListComp elt [⟨tgE, iter, ifs, 0⟩] scope pos) (some (.Name y py)) spos.line X.env = pure true)
    (hi : PIX X c W tgE iter fi) (ok : BlkOk X.N X.env.scope scope own) (L : LcOk X c C S scope tgE ifs elt tg fc fe)
    (htg : ∀ j ∈ tg.slots, j ∈ own.map (·.2)) (hs : ∀ x, foldedSetIterable iter X.env x = pure x) :
    PSX X c W (.Assign [.Name y py] (.ListComp elt [⟨tgE, iter, ifs, 0⟩] scope pos) spos) (M.bind (M.bind fi fun xs => fun ρ => if lines xs.length then lcEnd (own.map (·.2)) ρ (lcGo (own.map (·.2)) tg fc (M.bind fe fun r => M.keep C.ios r) xs ρ) else .stuck) fun r => M.bind (M.store C.ios i hold r) fun _ => M.pure .nx) :=
  psx_asg V1 (ps_setLc V1.calm V1.nd hy hyl hsw hi ok (fun s H Cl cl fp => L.tg s H Cl cl fp) (fun s H Cl cl fp => L.ts s H Cl cl fp) (fun s H Cl cl fp => peAny V1.ios (L.el s H Cl cl fp)) hs) fun σ H Q h => lc_imp htg h
def Mt.ty : Mt → String
  | .join | .split | .startswith | .upper => "str"
  | .count | .index => "list"
def Mt.nm : Mt → String
  | .join => "join" | .split => "split" | .startswith => "startswith" | .upper => "upper" | .count => "count" | .index => "index"
theorem px_methE {m : Mt} {T id : String} {name : Str} {o e : Expr} {es : List Expr} {fo : M RV} {fs : M (List RV)} {apos cpos : Pos} (pa : PlainAttrs T) (slot : Slot T name id) (hty : typeOf (.builtin id) = pure (.type "method_descriptor")) (hm : MtN X id (meth m))
    (hT : ∀ d x H F, mtOk m d = true → RB X.K X.mg H F x d → tyV X.K T x H)
    (ho : PX X c W o fo) (ha : PAX X c W (e :: es) fs)
    (hbase : attributeBase o name X.env (eval o X.env) = eval o X.env) (hfew : ((backTo cpos (starEach (e :: es) X.env)).all (fun x => !x.1) && (backToKw cpos (keywordEach [] X.env)).all (fun x => x.1.isSome)
      && decide ((e :: es).length + ([] : List Keyword).length + (if ([] : List Keyword).isEmpty then 0 else 1) < 30)) = true)
    (hline : (apos.endLine == cpos.line) = true) (hs : starEach (e :: es) X.env = (false, eval e X.env) :: starEach es X.env) (hplain : (backTo cpos (starEach es X.env)).any (·.1) = false) :
    PX X c W (.Call (.Attribute o name apos) (e :: es) [] cpos) (M.bind fo fun ro => M.bind (M.use (M.settle ro)) fun x0 => if mtOk m x0 = true then M.bind fs fun rs => M.bind (M.use (M.settle ro)) fun x => M.bind (useAll rs) fun ds => rsRV (meth m x ds) else M.stuck) := by
  refine peImp (pe_bm pa slot hty hm ho ha hbase hfew hline hs hplain) fun σ H Q ⟨F, ρ, R, p⟩ => ⟨F, ρ, R, (Post.bind p).mono fun ro ρ1 H1 F1 m1 R1 p1 v rv => ?_⟩
  obtain ⟨F2, m2, R2, o2⟩ := R1.settle rv
  obtain ⟨x0, e0, p2⟩ := Post.use (Post.base m2 p1)
  dsimp only at p2
  by_cases hk : mtOk m x0 = true
  · rw [if_pos hk] at p2
    refine ⟨hT x0 v H1 F2 hk (R2.look o2 e0), F2, ρ1, R2, (Post.bind p2).mono fun rs ρ3 H3 F3 m3 R3 p3 vs hvs => ?_⟩
    obtain ⟨x, ex, p4⟩ := Post.use p3
    obtain ⟨ds, eds, p5⟩ := Post.useAll p4
    obtain ⟨r, er, q⟩ := Post.rs R3 p5
    exact ⟨F3, x, ds, r, R3.fr.fl, R3.look (o2.mono m3) ex, useAll_ok V1 R3 hvs eds, er, fun v H' g rs => q H' g v (R3.rs g rs)⟩
  · rw [if_neg hk] at p2; exact p2.elim
theorem px_meth0E {m : Mt} {T id : String} {name : Str} {o : Expr} {fo : M RV} {apos cpos : Pos} (pa : PlainAttrs T) (slot : Slot T name id) (hty : typeOf (.builtin id) = pure (.type "method_descriptor")) (hm : MtN X id (meth m))
    (hT : ∀ d x H F, mtOk m d = true → RB X.K X.mg H F x d → tyV X.K T x H)
    (ho : PX X c W o fo) (hbase : attributeBase o name X.env (eval o X.env) = eval o X.env) (hline : (apos.endLine == cpos.line) = true) :
    PX X c W (.Call (.Attribute o name apos) [] [] cpos) (M.bind fo fun ro => M.bind (M.use (M.settle ro)) fun x0 => if mtOk m x0 = true then M.bind (M.pure []) fun rs => M.bind (M.use (M.settle ro)) fun x => M.bind (useAll rs) fun ds => rsRV (meth m x ds) else M.stuck) := by
  refine peImp (pe_bm0 pa slot hty hm ho hbase hline) fun σ H Q ⟨F, ρ, R, p⟩ => ⟨F, ρ, R, (Post.bind p).mono fun ro ρ1 H1 F1 m1 R1 p1 v rv => ?_⟩
  obtain ⟨F2, m2, R2, o2⟩ := R1.settle rv
  obtain ⟨x0, e0, p2⟩ := Post.use (Post.base m2 p1)
  dsimp only at p2
  by_cases hk : mtOk m x0 = true
  · rw [if_pos hk] at p2
    have p3 : Post X.K X.mg c W σ H1 F2 ((M.use (M.settle ro) ρ1).bind fun q => (useAll [] q.2).bind fun q' => rsRV (meth m q.1 q'.1) q'.2) _ := p2
    obtain ⟨x, ex, p4⟩ := Post.use p3
    obtain ⟨r, er, q⟩ := Post.rs R2 p4
    exact ⟨hT x0 v H1 F2 hk (R2.look o2 e0), F2, x, [], r, R2.fr.fl, R2.look o2 ex, .nil, er, fun v H' g rs => q H' g v (R2.rs g rs)⟩
  · rw [if_neg hk] at p2; exact p2.elim
theorem px_lmethE {m : Lm} {id : String} {name : Str} {i : Nat} {o e : Expr} {es : List Expr} {fs : M (List D)} {apos cpos : Pos} (slot : Slot "list" name id) (hty : typeOf (.builtin id) = pure (.type "method_descriptor")) (hm : LmN X id (lmeth m))
    (ho : PE X o (tVar i)) (ha : PKX X c W (e :: es) fs)
    (hbase : attributeBase o name X.env (eval o X.env) = eval o X.env) (hfew : ((backTo cpos (starEach (e :: es) X.env)).all (fun x => !x.1) && (backToKw cpos (keywordEach [] X.env)).all (fun x => x.1.isSome)
      && decide ((e :: es).length + ([] : List Keyword).length + (if ([] : List Keyword).isEmpty then 0 else 1) < 30)) = true)
    (hline : (apos.endLine == cpos.line) = true) (hs : starEach (e :: es) X.env = (false, eval e X.env) :: starEach es X.env) (hplain : (backTo cpos (starEach es X.env)).any (·.1) = false) :
    PX X c W (.Call (.Attribute o name apos) (e :: es) [] cpos) (M.bind (isOwn i) fun _ => M.bind fs fun ds => lmGo m i ds) := by
  refine peImp (pe_bm PySem.F.plainAttrs_list slot hty hm ho ha hbase hfew hline hs hplain) fun σ H Q ⟨F, ρ, R, p⟩ => ?_
  have p : Post X.K X.mg c W σ H F ((isOwn i ρ).bind fun q => (fs q.2).bind fun q => lmGo m i q.1 q.2) _ := p
  unfold isOwn at p
  split at p
  · rename_i zs hi
    obtain ⟨o, e1, a, xs, rfl, h1, h2, h3, h4⟩ := R.cel i _ hi
    have p : Post X.K X.mg c W σ H F ((fs ρ).bind fun q => lmGo m i q.1 q.2) _ := p
    refine ⟨.ref a, e1, (show tyV X.K "list" (.ref a) H from .inl ⟨rfl, _, SqL.of h1⟩), F, ρ, R, (Post.bind p).mono fun ds ρ1 H1 F1 m1 R1 p1 vs hvs => ?_⟩
    unfold lmGo at p1
    dsimp only at p1
    split at p1
    · rename_i us hu
      obtain ⟨o', e2, a', xs', rfl, g1, g2, g3, g4⟩ := R1.cel i _ hu
      rw [e1] at e2
      cases e2
      split at p1
      · rename_i y ys hy
        refine ⟨F1, a, xs', us, ds, y, ys, R1.fr.fl, rfl, g1, g2, hvs, hy, fun v ws hv hws => ?_⟩
        obtain ⟨m4, R4⟩ := R1.write hu e1 g1 hws
        exact p1 _ F1 m4 R4 v (Rp.mono m4 y hv)
      · exact p1.elim
    · exact p1.elim
  · exact p.elim
theorem px_lmeth0E {m : Lm} {id : String} {name : Str} {i : Nat} {o : Expr} {apos cpos : Pos} (slot : Slot "list" name id) (hty : typeOf (.builtin id) = pure (.type "method_descriptor")) (hm : LmN X id (lmeth m))
    (ho : PE X o (tVar i)) (hbase : attributeBase o name X.env (eval o X.env) = eval o X.env) (hline : (apos.endLine == cpos.line) = true) :
    PX X c W (.Call (.Attribute o name apos) [] [] cpos) (M.bind (isOwn i) fun _ => M.bind (M.pure []) fun ds => lmGo m i ds) := by
  refine peImp (pe_bm0 PySem.F.plainAttrs_list slot hty hm ho hbase hline) fun σ H Q ⟨F, ρ, R, p⟩ => ?_
  have p : Post X.K X.mg c W σ H F ((isOwn i ρ).bind fun q => lmGo m i [] q.2) _ := p
  unfold isOwn at p
  split at p
  · rename_i zs hi
    obtain ⟨o, e1, a, xs, rfl, h1, h2, h3, h4⟩ := R.cel i _ hi
    have p1 : Post X.K X.mg c W σ H F (lmGo m i [] ρ) _ := p
    refine ⟨.ref a, e1, (show tyV X.K "list" (.ref a) H from .inl ⟨rfl, _, SqL.of h1⟩), ?_⟩
    unfold lmGo at p1
    rw [hi] at p1
    dsimp only at p1
    split at p1
    · rename_i y ys hy
      refine ⟨F, a, xs, zs, [], y, ys, R.fr.fl, rfl, h1, h2, .nil, hy, fun v ws hv hws => ?_⟩
      obtain ⟨m4, R4⟩ := R.write hi e1 h1 hws
      exact p1 _ F m4 R4 v (Rp.mono m4 y hv)
    · exact p1.elim
  · exact p.elim
theorem px_rev {a : Expr} {fa : M RV} {n : Nat} {p1 p2 p3 pos : Pos} (ha : PX X c W a fa) : PX X c W (.Subscript a (.Slice none none (some (.UnaryOp .USub (.Constant (.int 1) n p1) p2)) p3) pos) (M.bind fa fun ra => M.bind (M.use ra) fun x => rsRV (prev x)) := by
  refine peImp (pe_revL ha) fun σ H Q ⟨F, ρ, R, p⟩ => ⟨F, ρ, R, (Post.bind p).mono fun r ρ1 H1 F1 m1 R1 p1 v rv => ?_⟩
  obtain ⟨x, ex, p2⟩ := Post.use p1
  obtain ⟨r, er, q⟩ := Post.rs R1 p2
  have hx := R1.lookR rv ex
  cases x with
  | list ds =>
    cases er
    obtain ⟨a, xs, rfl, h1, h2⟩ := hx.list
    refine ⟨a, xs, rfl, SqL.of h1, fun p hp => ?_⟩
    obtain ⟨g, t⟩ := lst_new (X := X) R1.fr.fl hp h2.rev
    exact q _ g _ (R1.rs (r := .fresh _) g t)
  | _ => cases er
theorem px_isi {a : Expr} {fa : M RV} {t : String} {ty : Str} {p p2 pos : Pos} (ht : t ∈ kinds) (hg : Gl X "isinstance") (hb : X.mg "isinstance" = none) (ha : PX X c W a fa) (hty : PE X (.Name ty p2) (tC (.ty t)))
    (he : starEach [a, .Name ty p2] X.env = (false, eval a X.env) :: starEach [.Name ty p2] X.env) (he2 : starEach [.Name ty p2] X.env = (false, eval (.Name ty p2) X.env) :: starEach [] X.env) (hpl : (backTo pos (starEach [.Name ty p2] X.env)).any (·.1) = false) :
    PX X c W (.Call (.Name "isinstance" p) [a, .Name ty p2] [] pos) (M.bind fa fun ra => M.bind (M.use ra) fun x => M.bind (M.opt (isInst x t)) fun r => M.pure (.val (.bool r))) := by
  refine peImp (pe_callB isi_data hg hb PyProof.Rows.boot_isinstance (pa_cons ha (pa_cons hty pa_nil he2) he) (by decide) (by decide) he hpl) fun σ H Q ⟨F, ρ, R, p⟩ => ?_
  refine ⟨F, ρ, R, (Post.bind p).mono fun r ρ1 H1 F1 m1 R1 p1 v rv => ?_⟩
  obtain ⟨x, ex, p2⟩ := Post.use p1
  obtain ⟨b, eb, p3⟩ := Post.opt p2
  exact ⟨F1, v, x, t, b, rfl, ht, R1.lookR rv ex, eb, Post.here p3 R1 _ (.bl b)⟩
theorem px_isi2 {a : Expr} {fa : M RV} {t t' : String} {ty ty' : Str} {n : Nat} {p p2 p3 p4 pos : Pos} (ht : t ∈ kinds) (ht' : t' ∈ kinds) (hg : Gl X "isinstance") (hb : X.mg "isinstance" = none) (ha : PX X c W a fa) (hty : PE X (.Name ty p2) (tC (.ty t))) (hty' : PE X (.Name ty' p3) (tC (.ty t')))
    (he : starEach [a, .Tuple [.Name ty p2, .Name ty' p3] n p4] X.env = (false, eval a X.env) :: starEach [.Tuple [.Name ty p2, .Name ty' p3] n p4] X.env)
    (he2 : starEach [.Tuple [.Name ty p2, .Name ty' p3] n p4] X.env = (false, eval (.Tuple [.Name ty p2, .Name ty' p3] n p4) X.env) :: starEach [] X.env)
    (he3 : starEach [.Name ty p2, .Name ty' p3] X.env = (false, eval (.Name ty p2) X.env) :: starEach [.Name ty' p3] X.env) (he4 : starEach [.Name ty' p3] X.env = (false, eval (.Name ty' p3) X.env) :: starEach [] X.env)
    (hpl : (backTo pos (starEach [.Tuple [.Name ty p2, .Name ty' p3] n p4] X.env)).any (·.1) = false) :
    PX X c W (.Call (.Name "isinstance" p) [a, .Tuple [.Name ty p2, .Name ty' p3] n p4] [] pos) (M.bind fa fun ra => M.bind (M.use ra) fun x => M.bind (M.opt (isInst x t)) fun r => M.bind (M.opt (isInst x t')) fun q => M.pure (.val (.bool (r || q)))) := by
  refine peImp (pe_callB isi2_data hg hb PyProof.Rows.boot_isinstance (pa_cons ha (pa_cons (pe_tup (pa_cons hty (pa_cons hty' pa_nil he4) he3)) pa_nil he2) he) (by decide) (by decide) he hpl) fun σ H Q ⟨F, ρ, R, p⟩ => ?_
  refine ⟨F, ρ, R, (Post.bind p).mono fun r ρ1 H1 F1 m1 R1 p1 v rv => ?_⟩
  obtain ⟨x, ex, p2⟩ := Post.use p1
  obtain ⟨b, eb, p3⟩ := Post.opt p2
  obtain ⟨b', eb', p4⟩ := Post.opt p3
  refine ⟨(by decide : 2 ≤ sizeLine), fun q hq => ?_⟩
  have g := grow_new (o := .tup [.ty t, .ty t']) hq
  have R2 := R1.grow g
  exact ⟨F1, v, x, q, t, t', b, b', rfl, upd_same, ht, ht', (R1.lookR rv ex).grow (R1.mon g) g, eb, eb', Post.here (Post.base (R1.mon g) p4) R2 _ (.bl _)⟩
end
end
end G
set_option maxHeartbeats 4000000
namespace G
open PySem PySem.Spec PyProof.Rows L2
def strKV : List (Str × Str) → List (Option Expr) → List Expr → Bool
  | [], [], [] => true
  | p :: r, some (.Constant (.str a) _ _) :: ks, .Constant (.str b) _ _ :: vs => decide (a = p.1) && decide (b = p.2) && strKV r ks vs
  | _, _, _ => false
def strV (ps : List (Str × Str)) : List (Key × V) := ps.map fun p => ((Sum.inr p.1 : Key), V.str p.2)
theorem putK_new {kvs : List (Key × V)} {k : Key} {v : V} (h : k ∉ kvs.map (·.1)) : putK kvs k v = kvs ++ [(k, v)] := by
  unfold putK
  rw [if_neg]
  intro z
  rw [List.any_eq_true] at z
  obtain ⟨x, hx, e⟩ := z
  exact h (List.mem_map.mpr ⟨x, hx, of_decide_eq_true e⟩)
theorem merge_new : ∀ (more kvs : List (Key × V)), ((kvs ++ more).map (·.1)).Nodup → mergeK kvs more = kvs ++ more
  | [], kvs, _ => by simp [mergeK]
  | p :: more, kvs, h => by
    show mergeK (putK kvs p.1 p.2) more = _
    have h1 : p.1 ∉ kvs.map (·.1) := by
      rw [List.map_append, List.nodup_append] at h
      intro z
      exact h.2.2 _ z _ (by simp) rfl
    rw [putK_new h1, merge_new more _ (by simpa using h)]
    simp
section
variable {X : Cx}
theorem pps_str {pos : Pos} : ∀ {ps : List (Str × Str)} {keys : List (Option Expr)} {values : List Expr}, strKV ps keys values = true →
    PPs X pos keys values (ps.map fun p => (tC (.str p.1), tC (.str p.2))) ∧ keys.all (·.isSome) = true ∧ keys.length = values.length ∧ keys.length = ps.length
  | [], [], [], _ => ⟨pps_nil, rfl, rfl, rfl⟩
  | p :: r, some (.Constant (.str a) _ _) :: ks, .Constant (.str b) _ _ :: vs, h => by
    simp only [strKV, Bool.and_eq_true, decide_eq_true_eq] at h
    obtain ⟨⟨rfl, rfl⟩, h⟩ := h
    obtain ⟨h1, h2, h3, h4⟩ := pps_str (pos := pos) h
    exact ⟨pps_cons pe_str pe_str h1, by simpa using h2, by simpa using h3, by simpa using h4⟩
theorem tPairs_str {σ : L2.St} : ∀ {ps : List (Str × Str)} {H : Hp} {Q : List (V × V) → Hp → Prop}, Q (ps.map fun p => (.str p.1, .str p.2)) H → tPairs (ps.map fun p => (tC (.str p.1), tC (.str p.2))) σ H Q
  | [], H, Q, h => h
  | p :: r, H, Q, h => tPairs_str (ps := r) (Q := fun ps H' => Q ((.str p.1, .str p.2) :: ps) H') h
theorem pe_dctF {pos : Pos} {ps : List (Str × Str)} {keys : List (Option Expr)} {values : List Expr} (h : strKV ps keys values = true) (h0 : ps ≠ []) (h15 : ps.length ≤ 15) (nd : (ps.map (·.1)).Nodup) :
    PE X (.Dict keys values pos) (fun σ H Q => ∀ p o, H p = none → Q (.ref p) (upd H p (.frz o (.dK (strV ps))))) := by
  obtain ⟨h1, h2, h3, h4⟩ := pps_str (X := X) (pos := pos) h
  have nd' : ((([] : List (Key × V)) ++ strV ps).map (·.1)).Nodup := by
    have e : (([] : List (Key × V)) ++ strV ps).map (·.1) = (ps.map (·.1)).map Sum.inr := by simp [strV, Function.comp_def]
    rw [e, List.nodup_iff_pairwise_ne, List.pairwise_map]
    exact List.Pairwise.imp (fun z e => z (Sum.inr.inj e)) (List.nodup_iff_pairwise_ne.mp nd)
  have d := pe_disp h1 h2 h3 (fun z => by rw [z] at h4; exact h0 (List.length_eq_zero_iff.mp h4.symm)) (by omega)
  refine ⟨fun pins s σ H Q I q => ?_⟩
  refine thn (d.run pins s σ H (fun v H' => ∃ p, v = .ref p ∧ H p = none ∧ H' = upd H p (.dK (strV ps))) I fun p hp => tPairs_str ⟨upd_same, strV ps, by simp [strV, Function.comp_def, kV], by simpa [strV] using h15, p, rfl, hp, ?_⟩) fun v s' ⟨x, H1, I1, r, q1⟩ => ?_
  · rw [upd_upd, merge_new _ _ nd']
    rfl
  · obtain ⟨p, rfl, hp, rfl⟩ := q1
    obtain ⟨od, I2⟩ := I1.lock upd_same True.intro
    rw [upd_upd] at I2
    exact ⟨.ref p, _, I2, r, q p od hp⟩
theorem px_dct {c : Fc} {W : WX} {pos : Pos} {ps : List (Str × Str)} {keys : List (Option Expr)} {values : List Expr} (h : strKV ps keys values = true) (h0 : ps ≠ []) (h15 : ps.length ≤ 15) (nd : (ps.map (·.1)).Nodup) :
    PX X c W (.Dict keys values pos) (M.pure (.val (dctD ps))) := by
  refine peImp (pe_dctF h h0 h15 nd) fun σ H Q ⟨F, ρ, R, p⟩ => fun a o ha => ?_
  have g := grow_new (o := .frz o (.dK (strV ps))) ha
  exact p _ F (R.mon g) (R.grow g) (.ref a) (.dct ⟨ps, o, rfl, upd_same⟩)
end
def dtF (P : Program) (w : World) (d : Addr) (xs : List (List Int × Addr × Value)) : Heap → Prop := fun h =>
  ∃ o es ep, h.get? d = some o ∧ o.ExactDict ∧ o.data = .dict es ep ∧ es.toList = xs.map (entryOfKey (tupleKind (intKind P w))) ∧ (xs.map (·.1)).Nodup
def KPair (K : PySem.W.Frag) (H : Hp) (p : Addr) (kv : List Int × Addr × V) : Prop := SqT K H p [.ref kv.2.1, kv.2.2] ∧ SqT K H kv.2.1 (kv.1.map .int)
def KVs (kvs : List (List Int × Addr × V)) (ys : List (List Int × Addr × Value)) : Prop := Paired (fun kv y => y.1 = kv.1 ∧ y.2.1 = kv.2.1 ∧ RelV kv.2.2 y.2.2) kvs ys
theorem items_int {P : Program} {w : World} : ∀ {ks : List Int} {us : List Value}, Vals (ks.map V.int) us → ItemsAre (intKind P w) ks us
  | [], us, r => by cases r; exact .nil
  | k :: ks, us, r => by
    rw [List.map_cons] at r
    cases r with
    | cons h t =>
      obtain ⟨t', rfl⟩ := h
      exact .cons (intKind_is _ _ _ _) (items_int t)
section
variable {X : Cx} {pins : List (Addr × Obj)} {σ : L2.St} {H : Hp} {s : Shared}
theorem tkey_of (I : Inv X pins σ H s) {b : Addr} {ks : List Int} (h : SqT X.K H b (ks.map .int)) : (tupleKind (intKind X.prog X.w)).is s.heap ks b := by
  obtain ⟨its, rv, ⟨o, ho, hc, n, hd⟩, _⟩ := I.tuple h
  exact ⟨o, its.toArray, n, ho, hc, hd, by simpa using items_int rv⟩
theorem kpairs_of (I : Inv X pins σ H s) : ∀ {ps : List Addr} {kvs : List (List Int × Addr × V)}, Paired (KPair X.K H) ps kvs →
    ∃ ys : List (List Int × Addr × Value), KVs kvs ys ∧ ys.length = ps.length ∧ (∀ (j : Nat) (q : List Int × Addr × Value), ys[j]? = some q → ∃ (b : Addr), ps[j]? = some b ∧ IsTup s.heap b #[.ref q.2.1, q.2.2]) ∧ ∀ y ∈ ys, (tupleKind (intKind X.prog X.w)).is s.heap y.1 y.2.1
  | _, _, .nil => ⟨[], .nil, rfl, fun j q e => by simp at e, fun _ z => nomatch z⟩
  | _, _, .cons (a := p) (b := kv) h t => by
    obtain ⟨ys, r, hl, hp, hk⟩ := kpairs_of I t
    obtain ⟨its, rv, ht, _⟩ := I.tuple h.1
    obtain ⟨u, y, ei, ru, ry⟩ := vals2 rv
    subst ei
    cases ru
    refine ⟨(kv.1, kv.2.1, y) :: ys, .cons ⟨rfl, rfl, ry⟩ r, by rw [List.length_cons, List.length_cons, hl], fun j q e => ?_, fun z hz => ?_⟩
    · cases j with
      | zero =>
        have e' : (kv.1, kv.2.1, y) = q := Option.some.inj e
        subst e'
        exact ⟨p, rfl, ht⟩
      | succ j =>
        obtain ⟨b, e1, e2⟩ := hp j q (by simpa using e)
        exact ⟨b, by simpa using e1, e2⟩
    · rcases List.mem_cons.mp hz with rfl | hz
      · exact tkey_of I h.2
      · exact hk z hz
end
section
variable {X : Cx}
theorem call_dictT (hc : X.calm = true) (hu : X.A.units + 80 < cLine) : CallR X (.type "dict") (fun xs H Q => ∃ (a : Addr) (ps : List Addr) (kvs : List (List Int × Addr × V)), xs = [.ref a] ∧ SqL X.K H a (ps.map V.ref) ∧ Paired (KPair X.K H) ps kvs ∧
    ∀ p ys, H p = none → KVs kvs ys → Q (.ref p) (upd H p (.ext (dtF X.prog X.w p (storedAllH [] ys))))) := by
  intro pins s σ H xs us Q I r q
  obtain ⟨a, ps, kvs, ex, hq, hp, q⟩ := q
  subst ex
  obtain ⟨u, eu, rx⟩ := vals1 r
  subst eu
  cases rx
  obtain ⟨its, rv, pl, hz⟩ := I.list hq
  have ei := refs_at rv
  subst ei
  rw [List.length_map] at hz
  obtain ⟨ys, rel, hl, hpr, hk⟩ := kpairs_of I hp
  obtain ⟨o, n, ho, hc1, hd, hdat⟩ := pl
  let vps : List (Value × Value) := ys.map fun y => (.ref y.2.1, y.2.2)
  have hvl : vps.length = ps.length := by simp [vps, hl]
  refine call_dict_pairsH (knd := tupleKind (intKind X.prog X.w)) (ps := ys) (PairArg.list a (ps.map Value.ref).toArray (fun j => (ps[j]?).getD 0) vps) (I.ok.hd hc) (show X.A.in1.in1.units < cLine from ?_) ⟨⟨o, n, ho, hc1, hd, hdat⟩, by simp [hvl], fun j k v e => ?_⟩ ⟨by simp [vps], fun i k v e => ?_⟩ (fun h' hk' x hx => ?_) (by rw [hvl]; exact hz) fun h' tk hd' k => ?_
  · show X.A.units + 1 + 1 < cLine
    omega
  · have e' : (ys.map fun y => (Value.ref y.2.1, y.2.2))[j]? = some (k, v) := e
    rw [List.getElem?_map] at e'
    obtain ⟨y, hy, e2⟩ := Option.map_eq_some_iff.mp e'
    cases e2
    obtain ⟨b, e3, e4⟩ := hpr j y hy
    refine ⟨by simp [e3], ?_⟩
    show PairAt s.heap ((ps[j]?).getD 0) _ _
    rw [e3]
    exact .inl e4
  · have e' : (ys.map fun y => (Value.ref y.2.1, y.2.2))[i]? = some (k, v) := e
    rw [List.getElem?_map] at e'
    obtain ⟨y, hy, e2⟩ := Option.map_eq_some_iff.mp e'
    cases e2
    exact ⟨y.1, y.2.1, hy, rfl⟩
  · exact tupleKind_stays.stays (fun b o vs n e _ => hk' b o (Nat.ne_of_lt (Heap.lt_size e)) (fun z => nomatch z) e) (hk x hx)
  · obtain ⟨o', es, ep, h1, h2, h3, h4, h5, h6⟩ := hd'
    have fr := I.hok.fresh (Nat.le_refl s.heap.objs.size)
    refine ⟨.ref s.heap.objs.size, _, I.laid (t' := tk) (fun b u e => k b u (fun z => nomatch z) e) (Nat.le_refl _) (o := .ext (dtF X.prog X.w s.heap.objs.size (storedAllH [] ys))) ⟨⟨o', es, ep, h1, h2, h3, h4, h6⟩, ⟨_, h1⟩, fun g1 g2 ⟨o1, es1, ep1, p1, p2⟩ st => ⟨o1, es1, ep1, st _ p1, p2⟩⟩, rfl, q _ ys fr rel⟩
theorem lastAt_ok {K : PySem.W.Frag} {mg : Str → Option Value} {H : Hp} {F : Fz} {k : List Int} : ∀ {xs : List (List Int × D)} {kvs : List (List Int × Addr × V)} {ys : List (List Int × Addr × Value)} {d : D}, Paired (fun (x : List Int × D) (kv : List Int × Addr × V) => kv.1 = x.1 ∧ Rp K mg H F kv.2.2 x.2) xs kvs → KVs kvs ys → lastAt k xs = some d →
    ∃ v u, Rp K mg H F v d ∧ RelV v u ∧ valueAt (pairsH ys).reverse k = some u := by
  intro xs kvs ys d h1 h2 e
  have key : ∀ {xs : List (List Int × D)} {kvs : List (List Int × Addr × V)} {ys : List (List Int × Addr × Value)}, Paired (fun (x : List Int × D) (kv : List Int × Addr × V) => kv.1 = x.1 ∧ Rp K mg H F kv.2.2 x.2) xs kvs → KVs kvs ys →
      match lastAt k xs with
      | none => valueAt (pairsH ys).reverse k = none
      | some d => ∃ v u, Rp K mg H F v d ∧ RelV v u ∧ valueAt (pairsH ys).reverse k = some u := by
    intro xs kvs ys h1
    induction h1 generalizing ys with
    | nil => intro h2; cases h2; rfl
    | @cons x kv xs kvs a t ih =>
      intro h2
      cases h2 with
      | @cons _ y _ ys b t2 =>
        have i := ih t2
        have er : (pairsH (y :: ys)).reverse = (pairsH ys).reverse ++ [(y.1, y.2.2)] := by simp [pairsH]
        unfold lastAt
        rw [er, valueAt_append]
        cases q : lastAt k xs with
        | some d =>
          rw [q] at i
          obtain ⟨v, u, i1, i2, i3⟩ := i
          exact ⟨v, u, i1, i2, by rw [i3]⟩
        | none =>
          rw [q] at i
          rw [show valueAt (pairsH ys).reverse k = none from i]
          simp only
          rw [valueAt_cons]
          by_cases hk : x.1 = k
          · rw [if_pos hk, if_pos (by rw [b.1, a.1]; exact hk)]
            exact ⟨_, _, a.2, b.2.2, rfl⟩
          · rw [if_neg hk, if_neg (by rw [b.1, a.1]; exact hk)]
            rfl
  have := key h1 h2
  rw [e] at this
  exact this
theorem pkeys_ok {K : PySem.W.Frag} {mg : Str → Option Value} {H : Hp} {F : Fz} : ∀ {vs : List V} {ds : List D} {xs : List (List Int × D)}, RpAll K mg H F vs ds → pkeys ds = some xs →
    ∃ (ps : List Addr) (kvs : List (List Int × Addr × V)), vs = ps.map V.ref ∧ Paired (KPair K H) ps kvs ∧ Paired (fun (x : List Int × D) (kv : List Int × Addr × V) => kv.1 = x.1 ∧ Rp K mg H F kv.2.2 x.2) xs kvs
  | _, _, _, .nil, e => by cases e; exact ⟨[], [], rfl, .nil, .nil⟩
  | _, _, _, .cons a b, e => by
    unfold pkeys at e
    split at e
    · rename_i h; cases h
    · rename_i ks d r h
      cases h
      obtain ⟨k, e1, e2⟩ := Option.bind_eq_some_iff.mp e
      obtain ⟨xs, e3, rfl⟩ := Option.map_eq_some_iff.mp e2
      obtain ⟨ps, kvs, rfl, h1, h2⟩ := pkeys_ok b e3
      cases a with
      | @tup p ws _ t1 t2 =>
        cases t2 with
        | @cons v1 vs1 _ _ r1 r2 =>
          cases r2 with
          | @cons v2 vs2 _ _ r3 r4 =>
            cases r4
            cases r1 with
            | @tup q us _ t3 t4 =>
              have := t4.ints e1
              subst this
              exact ⟨p :: ps, (k, q, v2) :: kvs, rfl, .cons ⟨t1, t3⟩ h1, .cons ⟨rfl, r3⟩ h2⟩
    · cases e
omit X in
theorem Post.get {K : PySem.W.Frag} {mg : Str → Option Value} {c : Fc} {W : WX} {σ : L2.St} {H : Hp} {F : Fz} {ρ : Rho} {β : Type} {i : Nat} {f : RV → M β} {P : β → Rho → Hp → Fz → Prop} (p : Post K mg c W σ H F (M.bind (M.get i) f ρ) P) :
    ∃ rk, M.get i ρ = .ok (rk, ρ) ∧ Post K mg c W σ H F (f rk ρ) P := by
  unfold M.bind M.get at p
  unfold M.get
  split at p
  · exact ⟨_, rfl, p⟩
  · exact ⟨_, rfl, p⟩
  · exact p.elim
theorem px_dget {c : Fc} {W : WX} {C : Cfg} {S : Sco} {k : Nat} (V1 : Env1 X c W C S k) {a : Expr} {fa : M RV} {i : Nat} {x y : Str} {p q z pos : Pos} (hx : x = "dict") (hg : Gl X x) (ha : PX X c W a fa) (hst : starEach [a] X.env = (false, eval a X.env) :: starEach [] X.env) (hb : PE X (.Name y z) (tVar i)) :
    PX X c W (.Subscript (.Call (.Name x p) [a] [] q) (.Name y z) pos) (M.bind fa fun ra => M.bind (M.use ra) fun x => M.bind (M.get i) fun rk => M.bind (M.use rk) fun y => M.bind (M.opt (dgetD x y)) fun r => M.pure (.val r)) := by
  subst hx
  have hcl : PE X (.Call (.Name "dict" p) [a] [] q) _ := pe_callTy (call_dictT V1.calm V1.hu) hg (V1.blt _ (by decide)) (by decide +kernel) (pa_cons ha pa_nil hst) (he := hst)
  refine ⟨fun pins s σ H Q I ⟨F, ρ, R, P⟩ => ?_⟩
  refine Subscript_ (binT hcl hb I (R := fun x y H2 => ∃ (d : Addr) (ys : List (List Int × Addr × Value)) (b : Addr) (ks : List Int) (v : V) (u : Value), x = .ref d ∧ y = .ref b ∧ H2 d = some (.ext (dtF X.prog X.w d (storedAllH [] ys))) ∧ (∀ e ∈ ys, ∃ l, SqT X.K H2 e.2.1 (l.map .int) ∧ l = e.1) ∧ SqT X.K H2 b (ks.map .int) ∧ valueAt (pairsH ys).reverse ks = some u ∧ RelV v u ∧ Q v H2) ?_ fun v u s2 x y H2 I2 rx ry qq => ?_)
  · refine ⟨F, ρ, R, (Post.bind P).mono fun ra ρ1 H1 F1 m1 R1 p1 v rv => ?_⟩
    obtain ⟨dx, ex, p2⟩ := Post.use p1
    obtain ⟨rk, e3, p3⟩ := Post.get p2
    obtain ⟨dy, ey, p4⟩ := Post.use p3
    obtain ⟨r, er, p5⟩ := Post.opt p4
    have hbx := R1.lookR rv ex
    unfold dgetD at er
    split at er
    · rename_i ds kd w1 w2
      have w1 : dx = .list ds := w1
      have w2 : dy = .tuple kd := w2
      subst w1
      subst w2
      split at er
      · obtain ⟨xs, e5, e6⟩ := Option.bind_eq_some_iff.mp er
        obtain ⟨ks, e7, e8⟩ := Option.bind_eq_some_iff.mp e6
        obtain ⟨l, vs, rfl, hl1, hl2⟩ := hbx.list
        obtain ⟨ps, kvs, rfl, h1, h2⟩ := pkeys_ok hl2 e5
        have hk : ∃ b, σ[i]? = some (some (.ref b)) ∧ SqT X.K H1 b (ks.map .int) := by
          have g : ∀ v, RB X.K X.mg H1 F1 v (.tuple kd) → ∃ b, v = .ref b ∧ SqT X.K H1 b (ks.map .int) := fun v h => by
            obtain ⟨b, us, rfl, t1, t2⟩ := h.tup
            have := t2.ints e7
            subst this
            exact ⟨b, rfl, t1⟩
          unfold M.get at e3
          split at e3
          · rename_i d hd
            cases e3
            obtain ⟨v', q1, q2⟩ := R1.cel i _ hd
            cases ey
            obtain ⟨b, rfl, t1⟩ := g v' (.inl q2)
            exact ⟨b, q1, t1⟩
          · rename_i d hd
            cases e3
            obtain ⟨v', q1, q2⟩ := R1.cel i _ hd
            obtain ⟨b, rfl, t1⟩ := g v' (R1.lookR (r := .own i) q1 ey)
            exact ⟨b, q1, t1⟩
          · cases e3
        obtain ⟨b, hb1, hb2⟩ := hk
        refine ⟨l, ps, kvs, rfl, SqL.of hl1, h1, fun d ys hd rel => ?_⟩
        have g := grow_new (o := .ext (dtF X.prog X.w d (storedAllH [] ys))) hd
        have m := R1.mon g
        obtain ⟨v, u, q1, q2, q3⟩ := lastAt_ok h2 rel e8
        refine ⟨_, hb1, d, ys, b, ks, v, u, rfl, rfl, upd_same, ?_, m.seqT hb2, q3, q2, ?_⟩
        · intro e he
          clear q3 e8
          have : ∀ {ps : List Addr} {kvs : List (List Int × Addr × V)} {ys : List (List Int × Addr × Value)}, Paired (KPair X.K H1) ps kvs → KVs kvs ys → ∀ e ∈ ys, SqT X.K H1 e.2.1 (e.1.map .int) := by
            intro ps kvs ys h
            induction h generalizing ys with
            | nil => intro r e he; cases r; cases he
            | cons a t ih =>
              intro r e he
              cases r with
              | cons b t2 =>
                rcases List.mem_cons.mp he with rfl | he
                · rw [b.1, b.2.1]; exact a.2
                · exact ih t2 e he
          exact ⟨_, m.seqT (this h1 rel e he), rfl⟩
        · exact p5 _ F1 m (R1.grow g) v (Rp.mono m _ q1)
      · cases er
    · cases er
  · obtain ⟨d, ys, b, ks, v0, u0, rfl, rfl, hd, hys, hb2, hv, rv, qq⟩ := qq
    cases rx
    cases ry
    have hok := I2.hok d _ hd
    obtain ⟨⟨o, es, ep, g1, g2, g3, g4, g5⟩, _, _⟩ := hok
    have DH : s2.heap.DictOfH (tupleKind (intKind X.prog X.w)) d (storedAllH [] ys) := by
      refine ⟨o, es, ep, g1, g2, g3, g4, ?_, g5⟩
      refine storedAllH_keys (P := fun k b => (tupleKind (intKind X.prog X.w)).is s2.heap k b) (fun _ z => nomatch z) fun y hy => ?_
      obtain ⟨l, t1, rfl⟩ := hys y hy
      exact tkey_of I2 t1
    have DK : s2.heap.DictKeyed (tupleKind (intKind X.prog X.w)) d (merged [] (pairsH ys)) := ⟨_, DH, by rw [pairsH_storedAllH]; rfl⟩
    have hv' : valueAt (merged [] (pairsH ys)) ks = some u0 := by rw [valueAt_merged, hv]
    exact tail_any (DK.typeIs) PySem.F.slot_dict_getitem.lookup (getItem_keyed (show X.A.in1.units < cLine from (by have := V1.hu; show X.A.units + 1 < cLine; omega)) (tkey_of I2 hb2) DK hv' ⟨v0, H2, I2.tok _, rv, qq⟩) (by rfl)
end
end G
set_option maxHeartbeats 4000000
namespace G
open PySem PySem.Spec PyProof.Rows L2 LamX
def ExtT (H H1 : Hp) : Prop := (∀ b o, H b = some o → (∀ ps, o ≠ .tbl ps) → H1 b = some o) ∧ ∀ b ps, H b = some (.tbl ps) → ∃ ps', H1 b = some (.tbl ps')
theorem ExtT.refl (H : Hp) : ExtT H H := ⟨fun _ _ h _ => h, fun _ ps h => ⟨ps, h⟩⟩
section
variable {X : Cx} {pins : List (Addr × Obj)} {σ : L2.St} {H : Hp} {s : Shared}
theorem lam_makeT {T : List (Addr × Str)} {c P : Addr} {params : Arguments} {body : Expr} {scope : Scope} {pos : Pos} {E : Value → Shared → Prop} {Q : Value → Shared → Prop} {qn : Str} (I : Inv X pins σ H s) (TB : TabB X.base X.mg c P) (code : X.env.code = .ref c)
    (eq : qn = X.env.qual ++ "<lambda>") (mem : (P, qn) ∈ T) (uni : ∀ p ∈ T, p.1 = P → p.2 = qn) (tabs : Tabs T H) (nodef : defaultsOf params X.env = ([], [])) (caps : ∀ y ∈ scope.names, y.2 = .free → ∃ c, X.env.cells.lookup y.1 = some c)
    (k : ∀ (f c' : Addr) (pm ctv : Value) (H1 : Hp) (s' : Shared), Inv X pins σ H1 s' → ExtT H H1 → Tabs T H1 → s'.heap.get? f = some (PySem.W.kla_obj "<lambda>" qn params body scope (cloFrom X.env.cells scope.names []) pm c' ctv) → H1 f = none → f ∉ frs X.stack → H1 c' = some (CodeO c' qn) → Q (.ref f) s') :
    wpAny (model X.prog X.w) X.A (eval (.Lambda params body scope pos) X.env) Q E s := by
  subst eq
  obtain ⟨ps, tP, tt, ta⟩ := tabs _ mem
  refine PySem.W.kla_eval nodef ?_
  have bP : s.heap.BuiltinsAt X.mg P := TB.bm.keeps I.bk
  have gP : s.heap.get? P = some { cls := .none, data := .fields ps } := I.hok P _ tP
  have out : ∀ f, s.heap.objs.size ≤ f → f ∉ frs X.stack := fun f hf z => by
    rcases List.mem_cons.mp (I.stkSub _ z) with e | e
    · have lt := I.lt
      rw [← e] at lt
      exact absurd (Nat.lt_of_lt_of_le lt hf) (Nat.lt_irrefl _)
    · exact I.nofs hf e
  cases among : codeAmong pos ps.toList with
  | some cv =>
    obtain ⟨c', e, co⟩ := ta pos cv among
    subst e
    refine PySem.W.kla_makeFunctionHit (mg := X.mg) (c := c) (P := P) (ps := ps) (closure_ok caps) I.ok.glob (I.mod.glob.keeps I.bk) code (TB.code.keeps I.bk) gP tt among bP fun ctv h' tk kp sz => ?_
    have J : Inv X pins σ H { s with heap := h'.push (PySem.W.kla_obj "<lambda>" (X.env.qual ++ "<lambda>") params body scope (cloFrom X.env.cells scope.names []) ((X.mg "__name__").getD .none) c' ctv), toks := tk } :=
      I.kept fun b o e => Heap.get?_push_of_some _ (kp b o e)
    exact k h'.objs.size c' ((X.mg "__name__").getD .none) ctv H _ J (ExtT.refl H) tabs (Heap.get?_push_size _ rfl) (I.hok.fresh sz) (out _ sz) co
  | none =>
    refine PySem.W.kla_makeFunction (mg := X.mg) (c := c) (P := P) (ps := ps) (closure_ok caps) I.ok.glob (I.mod.glob.keeps I.bk) code (TB.code.keeps I.bk) gP tt among TB.gP bP fun c' ctv h' tk kp ge lt rec tb => ?_
    obtain ⟨c2, oc, vs, t, e2, o1, o2, o3⟩ := rec
    cases e2
    have sz : s.heap.objs.size ≤ h'.objs.size := Nat.le_trans ge (Nat.le_of_lt lt)
    have nC : H c' = none := I.hok.fresh ge
    have J := inv_table (t' := tk) (more := #[rawInt pos.line, rawInt pos.col, .ref c']) (h' := h'.push (PySem.W.kla_obj "<lambda>" (X.env.qual ++ "<lambda>") params body scope (cloFrom X.env.cells scope.names []) ((X.mg "__name__").getD .none) c' ctv)) I tP
      (fun b o nb e => Heap.get?_push_of_some _ (kp b o nb e)) (Heap.get?_push_of_some _ tb) ge ⟨oc, vs, t, Heap.get?_push_of_some _ o1, o2, o3⟩
    have nP : ∀ {b : Addr} {o : HO}, H b = some o → b ≠ c' := fun e => ne_of_none e nC
    have ext : ExtT H (upd (upd H P (.tbl (ps ++ #[rawInt pos.line, rawInt pos.col, .ref c']))) c' (CodeO c' (X.env.qual ++ "<lambda>"))) := by
      refine ⟨fun b o e n => ?_, fun b qs e => ?_⟩
      · have nb : b ≠ P := fun z => by
          rw [z, tP] at e
          exact n ps (Option.some.inj e).symm
        rw [upd_ne (nP e), upd_ne nb]
        exact e
      · rw [upd_ne (nP e)]
        by_cases hb : b = P
        · rw [hb]
          exact ⟨_, upd_same⟩
        · rw [upd_ne hb]
          exact ⟨qs, e⟩
    have eL : (ps ++ #[rawInt pos.line, rawInt pos.col, .ref c']).toList = ps.toList ++ [rawInt pos.line, rawInt pos.col, .ref c'] := by simp
    refine k h'.objs.size c' ((X.mg "__name__").getD .none) ctv _ _ J ext (fun p hp => ?_) (Heap.get?_push_size _ rfl) ?_ (out _ sz) upd_same
    · by_cases hb : p.1 = P
      · rw [uni p hp hb, hb]
        refine ⟨_, by rw [upd_ne (nP tP), upd_same], by rw [eL]; exact PySem.TriplesOk_snoc _ _ _ _ tt, fun p' cv hcv => ?_⟩
        rw [eL] at hcv
        rcases among_app _ tt hcv with z | z
        · obtain ⟨c0, e1, e2⟩ := ta p' cv z
          exact ⟨c0, e1, ext.1 _ _ e2 codeO_ne⟩
        · exact ⟨c', z, upd_same⟩
      · obtain ⟨qs, a1, a2, a3⟩ := tabs p hp
        refine ⟨qs, by rw [upd_ne (nP a1), upd_ne hb]; exact a1, a2, fun p' cv hcv => ?_⟩
        obtain ⟨c0, e1, e2⟩ := a3 p' cv hcv
        exact ⟨c0, e1, ext.1 _ _ e2 codeO_ne⟩
    · have n1 : h'.objs.size ≠ c' := Nat.ne_of_gt lt
      have n2 : h'.objs.size ≠ P := Nat.ne_of_gt (Nat.lt_of_lt_of_le (Heap.lt_size gP) sz)
      rw [upd_ne n1, upd_ne n2]
      exact I.hok.fresh sz
end
abbrev lamN (X : Cx) (A : Around) (outer : List Env) (s : Shared) (H : Hp) (E : XK) (scope : Scope) (f c' : Addr) : Cx :=
  (lamCx X A outer s H E scope f c').wish fun e s' => wpAny (model X.prog X.w) (A.deeper (lamEnv X scope s.heap.objs.size f c')) (leaving (lamEnv X scope s.heap.objs.size f c') e) (fun _ s'' => L2N.CX X.prog X.w outer H s E e s'') (fun e' s'' => L2N.CX X.prog X.w outer H s E e' s'') s'
theorem actN {X : Cx} {pins : List (Addr × Obj)} {σ : L2.St} {H : Hp} {s : Shared} {CXg : CXT} {Eg : XK} {Ng : List Str} {qg qn : Str} {sg : Scope} {g f c' : Addr} {cdg pm ctv : Value} {params : Arguments} {body : Expr} {scope : Scope} {k i : Nat} {a : Str} {pn : List (Addr × Obj)} {xe : Value → Shared → Prop} {W : WX} {E : XK} {tb : TE}
    {p1 p2 : Pos} (I : Inv X pins σ H s) (L : LamS X.env.scope scope) (eq : qn = X.env.qual ++ "<lambda>") (of : s.heap.get? f = some (PySem.W.kla_obj "<lambda>" qn params body scope (cloFrom X.env.cells scope.names []) pm c' ctv)) (hf : H f = none) (nf : f ∉ frs X.stack)
    (bind : bindArgs (PySem.W.kla_fn "<lambda>" qn params body scope (cloFrom X.env.cells scope.names []) pm (.ref c') ctv) ⟨[], []⟩ = pure [])
    (tk : L2N.Takes ((cxOf CXg X.prog X.w X.K X.mg X.base Ng qg sg g cdg X.A X.stack s H Eg).tr pn xe) W) (hW : ∀ cls d σ' H', E cls d H' → W cls d σ' H') (hr : Room (k + 1) (X.A.deeper (envOfC qg sg s.heap.objs.size g cdg)))
    (run : ∀ (A : Around) (outer : List Env) (s : Shared) (H : Hp), Room k (A.deeper (lamEnv X scope s.heap.objs.size f c')) → PE (lamN X A outer s H E scope f c') body tb)
    (hN : Ng[i]? = some a) (hv : Vis sg a) (hd : (a == ("__debug__" : Str)) = false) (hcd : (a == ("__classdict__" : Str)) = false) :
    PE ((cxOf CXg X.prog X.w X.K X.mg X.base Ng qg sg g cdg X.A X.stack s H Eg).tr pn xe) (.Call (.Name a p1) [] [] p2) (fun σZ HZ Q => σZ[i]? = some (some (.ref f)) ∧ HZ c' = some (CodeO c' qn) ∧ tb σ HZ Q) := by
  subst eq
  refine ⟨fun pinsZ sZ σZ HZ Q IZ ⟨z1, z2, z3⟩ => ?_⟩
  refine wpAny_Call_Name_kw (thn ((pe_var (pos := p1) (i := i) hN hv hd hcd).run pinsZ sZ σZ HZ (fun v H1 => v = .ref f ∧ H1 = HZ) IZ ⟨.ref f, z1, rfl, rfl⟩) fun u s1 ⟨v, H1, I1, r1, ev, eH⟩ => ?_)
  subst ev
  subst eH
  obtain rfl : u = Value.ref f := r1
  have of1 : s1.heap.get? f = some (PySem.W.kla_obj "<lambda>" (X.env.qual ++ "<lambda>") params body scope (cloFrom X.env.cells scope.names []) pm c' ctv) := I1.base.keep f _ of hf nf (fun z => nomatch (show f ∈ ([] : List Addr) from z))
  refine PySem.W.callWith_F0 ⟨_, _, _, _, of1⟩ ?_
  have un : Un (frs X.stack) [] H H1 s.heap s1.heap := I1.base
  obtain ⟨⟨oc, vs, t, o1, o2, o3⟩, _, _⟩ := I1.hok c' _ z2
  have rc : codeAny (model X.prog X.w) (X.A.deeper (envOfC qg sg s.heap.objs.size g cdg)) (.call (.ref f) ⟨[], []⟩) (L2.CR (L2N.CX X.prog X.w) (envOfC qg sg s.heap.objs.size g cdg :: X.stack) X.prog X.w H1 s1 Q E) s1 := by
    refine PySem.W.kla_callFunE hr.depth of1 rfl L.co L.gen rfl ⟨c', oc, vs, t, rfl, o1, o2, o3⟩ ?_
    rw [bind]
    refine wpAny_pure (wpAny_newFunctionEnv (fun y hy => (L.own y hy).2) (fun y hy => absurd hy (by simp)) (fun h₁ ns sb => ⟨I1.nolimit.fresh _ sb, ?_⟩) L.kind)
    show codeAny _ _ (.expr body (lamEnv X scope s1.heap.objs.size f c')) _ _
    have kp : ∀ b o, s1.heap.get? b = some o → h₁.get? b = some o := fun b o e => sb.extBut b o (Nat.ne_of_lt (Heap.lt_size e)) (Heap.get?_push_of_some _ e)
    have J : Inv (lamCx X (X.A.deeper (envOfC qg sg s.heap.objs.size g cdg)) (envOfC qg sg s.heap.objs.size g cdg :: X.stack) s1 H1 E scope f c') [] σ H1 { s1 with heap := h₁, toks := s1.toks + ([] : List (Str × Value)).length } :=
      lam_start2 I L I1.env0 hr.hd un ns kp
    refine PySem.W.kla_codeExpr (wpAny_mono ((run _ _ s1 H1 (hr.deeper _)).run [] _ _ H1 Q (J.wish _) z3) (fun v s' hq => ?_) fun e s' hq => hq)
    obtain ⟨w', H', J', rv, q⟩ := hq
    exact ⟨w', H', J'.os, J'.bare, J'.base, J'.hok, rv, q⟩
  have pass : Passes (L2N.CX X.prog X.w) ((cxOf CXg X.prog X.w X.K X.mg X.base Ng qg sg g cdg X.A X.stack s H Eg).tr pn xe) E := L2N.passes_call tk hW
  refine wpAny_call (codeAny_mono rc fun r s' hq => ?_)
  cases r with
  | error e => exact pass pinsZ σZ H1 s1 e s' I1 hq
  | ok fl =>
    cases fl with
    | ret u => exact I1.after hq
    | next => exact False.elim hq
    | brk => exact False.elim hq
    | cont => exact False.elim hq
theorem hide_get {ρ : Rho} {i : Nat} {x : Cell} (h : (hide ρ)[i]? = some (some x)) : ρ[i]? = some (some x) ∧ ∃ d, x = .val d := by
  unfold hide at h
  rw [List.getElem?_map] at h
  cases e : ρ[i]? with
  | none => rw [e] at h; cases h
  | some y =>
    rw [e] at h
    cases y with
    | none => cases h
    | some z =>
      cases z with
      | val d => cases h; exact ⟨rfl, d, rfl⟩
      | own _ => cases h
section
variable {K : PySem.W.Frag} {mg : Str → Option Value} {c : Fc} {W : WX} {σ : L2.St} {H H' H1 : Hp} {F F' F1 : Fz} {ρ ρ' : Rho}
theorem ExtT.mon (e : ExtT H H1) (fl : ∀ a, F a → ∃ xs, H a = some (.lst xs)) : Mon H F H1 F :=
  ⟨fun a h => ⟨h, by obtain ⟨xs, q⟩ := fl a h; rw [q]; exact e.1 _ _ q (fun _ z => by cases z)⟩, fun a xs h => e.1 _ _ h (fun _ z => by cases z), fun a o u h => e.1 _ _ h (fun _ z => by cases z)⟩
theorem ExtT.none (e : ExtT H H1) {a : Addr} (h : H1 a = none) : H a = none := by
  cases q : H a with
  | none => rfl
  | some o =>
    by_cases ht : ∃ ps, o = .tbl ps
    · obtain ⟨ps, rfl⟩ := ht
      obtain ⟨ps', z⟩ := e.2 a ps q
      rw [h] at z; cases z
    · have z := e.1 a o q fun ps z => ht ⟨ps, z⟩
      rw [h] at z; cases z
theorem Rel.extT (R : Rel K mg c σ H F ρ) (e : ExtT H H1) (t : Tabs c.tb H1) : Rel K mg c σ H1 F ρ where
  fr := ⟨fun a o h n t => e.1 a o (R.fr.keep a o h n t) t, fun a h => R.fr.free a (e.none h), fun _ => t, R.fr.f0, R.fr.f1, fun a h => by obtain ⟨xs, q⟩ := R.fr.fl a h; exact ⟨xs, e.1 _ _ q (fun _ z => by cases z)⟩⟩
  len := R.len
  cel := fun i x q => by
    have m := e.mon R.fr.fl
    obtain ⟨v, h1, h2⟩ := R.cel i x q
    refine ⟨v, h1, ?_⟩
    cases x with
    | val d => exact Rp.mono m d h2
    | own ds =>
      obtain ⟨a, xs, rfl, g1, g2, g3⟩ := h2
      exact ⟨a, xs, rfl, e.1 _ _ g1 (fun _ z => by cases z), RpAll.mono m ds g2, g3⟩
  dis := R.dis
  tmp := fun p hp => by obtain ⟨h1, h2, h3⟩ := R.tmp p hp; exact ⟨e.1 _ _ h1 (fun _ z => by cases z), h2, h3⟩
theorem Rel.inner (R : Rel K mg c σ H F ρ) : Rel K mg ⟨H, F, [], [], c.tb⟩ σ H F (hide ρ) where
  fr := ⟨fun a o h _ _ => h, fun a h => h, fun t => t, fun a h => h, fun a h => .inl h, R.fr.fl⟩
  len := by
    have := R.len
    unfold hide
    rw [List.length_map]
    exact this
  cel := fun i x q => by
    obtain ⟨h1, d, rfl⟩ := hide_get q
    exact R.cel i _ h1
  dis := fun i j a xs ys e1 => by
    obtain ⟨_, d, z⟩ := hide_get e1
    cases z
  tmp := fun p hp => by cases hp
theorem Rel.outer (R : Rel K mg c σ H F ρ) (f : Fr ⟨H, F, [], [], c.tb⟩ H' F') : Mon H F H' F' ∧ Rel K mg c σ H' F' ρ :=
  call_back (vs := []) (as := []) (os := []) R (ArgsOk.of R (rs := []) .nil rfl) f trivial rfl
end
def tIn (X : Cx) (tb : List (Addr × Str)) (f : M RV) (E : XK) : TE := fun σ H Q => ∃ F, Tabs tb H ∧ rd X ⟨H, F, [], [], tb⟩ (fun cls d _ H' => E cls d H') f σ H Q
section
variable {X : Cx} {c : Fc} {W : WX} {C C2 : Cfg} {S S2 : Sco} {k j : Nat} (V1 : Env1 X c W C S k)
include V1
theorem lam_told {A : Around} {outer : List Env} {s : Shared} {H H4 : Hp} {E : XK} {scope : Scope} {f c' : Addr} {F : Fz} {Φ2 : Str → FM} (ej : k = j + 2) (hr : Room j (A.deeper (lamEnv X scope s.heap.objs.size f c'))) (tabs : Tabs S.tb H4) (hΦ : ∀ x, S.pres x = true → FnS X.prog X.w X.K X.mg X.base S.tb j x (Φ2 x)) :
    Env1 (lamN X A outer s H E scope f c') ⟨H4, F, [], [], S.tb⟩ (fun cls d _ H' => E cls d H') ⟨Φ2, C.Γ, C.ios, C.exc, none⟩ { S with sc := scope, fnB := fun _ => false, told := false } j where
  calm := rfl
  nd := V1.nd
  names := V1.names
  scope := rfl
  takes := L2N.takes_of rfl rfl rfl rfl
  po := passes_of rfl
  room := hr
  ios := fun p hp => by cases hp
  fns := hΦ
  cst := V1.cst
  blt := V1.blt
  exc := V1.exc
  fn := fun x h => Bool.noConfusion h
  tabs := tabs
  tbs := rfl
  low := fun Φ2 h => by cases h
  excE := V1.excE
  hz := fun h => Bool.noConfusion h
  told := fun h => Bool.noConfusion h
theorem px_told {params : Arguments} {body : Expr} {scope : Scope} {p lpos pos : Pos} {fb : M RV} {Φ2 : Str → FM} (ht : S.told = true) (eΦ : C.Φ2 = some Φ2) (hg : Gl X "_law_told") (L : LamS X.env.scope scope) (ep : params = ⟨[], [], none, [], [], none, []⟩)
    (run : ∀ (Y : Cx) (c2 : Fc) (W2 : WX) (j : Nat), Env1 Y c2 W2 ⟨Φ2, C.Γ, C.ios, C.exc, none⟩ { S with sc := scope, fnB := fun _ => false, told := false } j → PX Y c2 W2 body fb) :
    PX X c W (.Call (.Name "_law_told" p) [.Lambda params body scope lpos] [] pos) (fun ρ => toldV C.exc ρ (fb (hide ρ))) := by
  obtain ⟨⟨g, gd, st, Ng, a, g1, g2, g3, g4, g5, g6, g7, g8, g9⟩, cA, P, TB, code, mem, uni⟩ := V1.told ht
  obtain ⟨j, ek, hlow⟩ := V1.low Φ2 eΦ
  obtain ⟨hz, htm⟩ := V1.hz ht
  obtain ⟨c1, c2, c3, c4, c5, c6, c7, c8, c9, rfl, q1, q2⟩ := g2.ex
  subst ep
  generalize eq : X.env.qual ++ "<lambda>" = qn at mem uni
  refine ⟨fun pins s σ H Q I ⟨F, ρ, R, post⟩ => ?_⟩
  have tH : Tabs S.tb H := V1.tbs ▸ R.fr.tabs (V1.tbs ▸ V1.tabs)
  refine wpAny_Call_Name_kw (ld_glob I hg g1 ?_ (by decide))
  refine PySem.W.callWith_K (h₀ := X.base) I.ok.mod.kin g2.kp ?_ (by rfl) (by rfl)
  show wpAny _ _ (spliced ((false, eval (.Lambda ⟨[], [], none, [], [], none, []⟩ body scope lpos) X.env) :: backTo pos (starEach [] X.env))) _ _ s
  refine Calls.spliced_cons (lam_makeT I TB code eq.symm mem uni tH rfl (L.has I.ok) fun f c' pm ctv H1 s' I1 ex t1 of hf nf co => ?_)
  refine Calls.spliced_nil ⟨I1.kIn, ?_⟩
  have R1 : Rel X.K X.mg c σ H1 F ρ := R.extT ex (by rw [V1.tbs]; exact t1)
  have m1 : Mon H F H1 F := ex.mon R.fr.fl
  have hr : Room (j + 2) X.A := ek ▸ V1.room
  have told : TTn X.mg S.exc (fun E H' Q' => tIn X S.tb fb E σ H' Q') H1 Q := by
    refine ⟨F, t1, F, hide ρ, V1.tbs ▸ R1.inner, ?_⟩
    have post : Post X.K X.mg c W σ H F (toldV C.exc ρ (fb (hide ρ))) fun r ρ' H' F' => ∀ (v : V), RVR X.K X.mg c σ H' F' ρ' v r → Q v H' := post
    cases eb : fb (hide ρ) with
    | stuck => rw [eb] at post; exact post.elim
    | exc x l =>
      rw [eb] at post
      cases l with
      | some l => exact post.elim
      | none =>
        have post : Post X.K X.mg c W σ H F (if C.exc x = true then Out.ok (RV.val (.tuple [.str (x ++ " +")]), ρ) else .stuck) _ := post
        by_cases hx : C.exc x = true
        · rw [if_pos hx] at post
          intro cls d H2 F2 m2 f2 ⟨Cx, e1, e2, e3⟩
          refine ⟨x, Cx, V1.excE x hx, e1, e2, e3, fun H3 q g3 hq => ?_⟩
          obtain ⟨m3, R2⟩ := R1.outer (V1.tbs ▸ f2)
          have R3 := R2.grow g3
          obtain ⟨g4, tp⟩ := tup_new (X := X) (mg := X.mg) R3.fr.fl hq (.cons (.str (x ++ " +")) .nil)
          exact post _ F2 (m1.trans (m3.trans ((R2.mon g3).trans (R3.mon g4)))) (R3.grow g4) _ tp
        · rw [if_neg hx] at post; exact post.elim
    | ok y =>
      obtain ⟨r, ρ2⟩ := y
      rw [eb] at post
      intro H2 F2 m2 Ri v hv q hq
      obtain ⟨m3, R2⟩ := R1.outer (V1.tbs ▸ Ri.fr)
      cases r with
      | val d =>
        obtain ⟨g4, tp⟩ := tup_new (X := X) (mg := X.mg) R2.fr.fl hq (.cons (.str "told") (.cons hv .nil))
        exact post _ F2 (m1.trans (m3.trans (R2.mon g4))) (R2.grow g4) _ tp
      | own i => exact post.elim
      | fresh ds =>
        obtain ⟨b, xs, rfl, b1, b2, b3, b4, b5, b6⟩ := hv
        have b4 : H1 b = none := b4
        obtain ⟨m4, R3⟩ := R2.give b1 (R1.fr.free b b4) (fun i ys e z => by
          obtain ⟨v', e1, b', ws, rfl, e2, _⟩ := R1.cel i _ e
          rw [z] at e1
          cases e1
          rw [b4] at e2; cases e2) (fun p hp => by rw [htm] at hp; cases hp)
        obtain ⟨g4, tp⟩ := tup_new (X := X) (mg := X.mg) R3.fr.fl hq (.cons (.str "told") (.cons (.lst (.inr rfl) b1 (RpAll.mono m4 ds b2)) .nil))
        exact post _ _ (m1.trans (m3.trans (m4.trans (R3.mon g4)))) (R3.grow g4) _ tp
  have rc : codeAny (model X.prog X.w) X.A (.call (.ref g) ⟨[.ref f], []⟩) (L2.CR CX0 X.stack X.prog X.w H1 s' Q E0) s' := by
    refine run_ofS (N := Ng) (ps := [a]) (us := [.ref f]) (vs := [.ref f]) q1 q2 g4 hr I1.env0 (g3 s' [.ref f] I1.kIn rfl) (.cons rfl .nil) rfl fun hr' => ?_
    obtain ⟨t', ht', hq'⟩ := g9 c7 X.A X.stack f c' qn s' H1 Q (fun E H' Q' => tIn X S.tb fb E σ H' Q') j hr' (fun W2 pn xe E p1 p2 tk hW => actN I1 L eq.symm of hf nf rfl tk hW hr'
      (fun A outer s3 H3 r3 => ⟨fun pins3 s4 σ4 H4 Q4 I4 ⟨F4, t4, q4⟩ => (run (lamN X A outer s3 H3 E scope f c') ⟨H4, F4, [], [], S.tb⟩ _ j (lam_told V1 ek r3 t4 hlow)).run pins3 s4 σ4 H4 Q4 I4 q4⟩) g5 g6 g7 g8) co told
    exact ⟨t', ht'.nox, hq'⟩
  refine wpAny_call (codeAny_mono rc fun r s2 hq => ?_)
  cases r with
  | error e => exact (show False from hq).elim
  | ok fl =>
    cases fl with
    | ret u => exact I1.after hq
    | next => exact False.elim hq
    | brk => exact False.elim hq
    | cont => exact False.elim hq
end
end G
set_option maxHeartbeats 4000000
namespace G
open PySem PySem.Spec PyProof.Rows L2
def nmOk (x : Str) : Bool := !(x == ("__debug__" : Str)) && !(x == ("__classdict__" : Str)) && !(x == ("__name__" : Str))
def visB (sc : Scope) (x : Str) : Bool := decide (sc.names.lookup x = some .local) || decide (sc.names.lookup x = some .cell) || decide (sc.names.lookup x = some .free)
def glB (sc : Scope) (x : Str) : Bool := decide (sc.names.lookup x = some .globalImplicit)
def locB (S : Sco) (x : Str) : Bool := decide (S.sc.names.lookup x = some .local) || (decide (S.sc.names.lookup x = some .cell) && S.fnB x)
def plB (S : Sco) (x : Str) : Bool := decide (S.sc.names.lookup x = some .local)
def cstB : D → Const → Bool
  | .none, .none => true
  | .bool b, .bool c => b == c
  | .int i, .int j => decide (i = j)
  | .str x, .str y => decide (x = y)
  | _, _ => false
def bopB : Bop → Operator → Bool
  | .add, .Add | .sub, .Sub | .mul, .Mult | .fdiv, .FloorDiv | .mod, .Mod | .pow, .Pow => true
  | _, _ => false
def copB : Cop → CmpOp → Bool
  | .eq, .Eq | .ne, .NotEq | .lt, .Lt | .le, .LtE | .gt, .Gt | .ge, .GtE | .isN, .Is | .notN, .IsNot | .in_, .In | .notIn, .NotIn => true
  | _, _ => false
theorem bopB_ok {op : Bop} {o : Operator} (h : bopB op o = true) : o = op.py := by cases op <;> cases o <;> first | rfl | cases h
theorem copB_ok {op : Cop} {o : CmpOp} (h : copB op o = true) : o = op.py := by cases op <;> cases o <;> first | rfl | cases h
def boolB : Bool → BoolOp → Bool
  | true, .And | false, .Or => true
  | _, _ => false
def tgN (S : Sco) (i : Nat) : Expr → Bool
  | .Name x _ => decide (S.N[i]? = some x) && locB S x
  | _ => false
def tgNs (S : Sco) : List Nat → List Expr → Bool
  | [], [] => true
  | i :: is, e :: es => tgN S i e && tgNs S is es
  | _, _ => false
def tgB (S : Sco) : Tg → Expr → Bool
  | .one i, e => tgN S i e
  | .tup is, .Tuple es _ _ => tgNs S is es
  | _, _ => false
def isTup : Expr → Bool
  | .Tuple .. => true
  | _ => false
def noSlice : Expr → Bool
  | .Slice .. => false
  | _ => true
def noSet : Expr → Bool
  | .Set .. => false
  | _ => true
def noCall0 : Expr → Bool
  | .Call _ [] _ _ => false
  | _ => true
def biName : Bi → Str
  | .len => "len" | .abs => "abs" | .int => "int" | .str => "str" | .min => "min" | .max => "max" | .list => "list" | .tuple => "tuple" | .sorted => "sorted" | .all => "all" | .any => "any"
  | _ => "?"
def biOk : Bi → Bool
  | .len | .abs | .int | .str | .min | .max | .list | .tuple | .sorted | .all | .any => true
  | _ => false
def mtOkB : Mt → Bool
  | .join | .split | .startswith | .upper | .count => true
  | _ => false
def mtName : Mt → Str
  | .join => "join" | .split => "split" | .startswith => "startswith" | .upper => "upper" | .count => "count" | .index => "index"
def lmName : Lm → Str
  | .append => "append" | .extend => "extend" | .pop => "pop" | .popAt => "pop" | .insert => "insert"
def noArgs : Arguments → Bool
  | ⟨[], [], none, [], [], none, []⟩ => true
  | _ => false
theorem noArgs_ok {p : Arguments} (h : noArgs p = true) : p = ⟨[], [], none, [], [], none, []⟩ := by
  unfold noArgs at h
  split at h
  · rfl
  · cases h
def ownOf (S : Sco) (own : List Nat) : List (Str × Nat) := own.map fun i => ((S.N[i]?).getD "", i)
def blkB (S : Sco) (scope : Scope) (own : List Nat) : Bool :=
  decide (scope.kind = .function) && (scope.names.all fun y => decide (scope.names.lookup y.1 = some y.2)) && (own.all fun i => decide (i < S.N.length)) &&
    (scope.names.all fun y => !decide (y.2 = .free) || decide (S.sc.names.lookup y.1 = some .cell) || decide (S.sc.names.lookup y.1 = some .free)) &&
    (scope.names.all fun y => !(decide (y.2 = .local) || decide (y.2 = .cell)) || (ownOf S own).any (fun p => decide (p.1 = y.1)) || !S.N.any fun z => decide (z = y.1))
def blkS (S : Sco) (scope : Scope) : Sco := { S with sc := relS scope S.sc, fnB := fun x => scope.names.lookup x == some .cell, told := false }
def Tg.inB (tg : Tg) (own : List Nat) : Bool := tg.slots.all fun j => own.any fun i => decide (i = j)
def csB : List D → List Expr → Bool
  | [], [] => true
  | d :: ds, .Constant k _ _ :: es => cstB d k && csB ds es
  | _, _ => false
def slB (S : Sco) (i : Nat) (x : Str) : Bool := decide (S.N[i]? = some x) && visB S.sc x && nmOk x
mutual
def ckE (S : Sco) : ME → Expr → Bool
  | .slot i, e => match e with
    | .Name x _ => decide (S.N[i]? = some x) && visB S.sc x && nmOk x
    | _ => false
  | .cst d, e => match e with
    | .Constant k _ _ => cstB d k
    | _ => false
  | .glob x, e => match e with
    | .Name y _ => decide (y = x) && glB S.sc x && nmOk x
    | _ => false
  | .fnv _, _ => false
  | .gin a x, e => match e with
    | .Compare l [.In] [.Name y p] _ => decide (y = x) && glB S.sc x && nmOk x && !behindInMarks .In (.Name y p) && ckE S a l
    | _ => false
  | .gix x a, e => match e with
    | .Subscript (.Name y _) b _ => decide (y = x) && glB S.sc x && nmOk x && noSlice b && ckE S a b
    | _ => false
  | .bin op a b, e => match e with
    | .BinOp l o r _ => bopB op o && ckE S a l && ckE S b r
    | _ => false
  | .neg a, e => match e with
    | .UnaryOp .USub x _ => ckE S a x
    | _ => false
  | .cmp op a b, e => match e with
    | .Compare l [o] [r] _ => copB op o && !behindInMarks o r && ckE S a l && ckE S b r
    | _ => false
  | .chain o p a b c, e => match e with
    | .Compare l [o1, o2] [r1, r2] _ => copB o o1 && copB p o2 && !lastMarks [o1, o2] [r1, r2] && ckE S a l && ckE S b r1 && ckE S c r2
    | _ => false
  | .bool conj a b, e => match e with
    | .BoolOp o (x :: y :: rest) pos => boolB conj o && ckE S a x && (match rest with
      | [] => ckE S b y
      | z :: r => ckE S b (.BoolOp o (y :: z :: r) pos))
    | _ => false
  | .not a, e => match e with
    | .UnaryOp .Not x _ => ckE S a x
    | _ => false
  | .ite c a b, e => match e with
    | .IfExp t x y _ => ckE S c t && ckE S a x && ckE S b y
    | _ => false
  | .tup es, e => match e with
    | .Tuple xs _ _ => ckEs S es xs
    | _ => false
  | .lst es, e => match e with
    | .List xs _ => ckEs S es xs
    | _ => false
  | .ix a b, e => match e with
    | .Subscript x y _ => noSlice y && ckE S a x && ckE S b y
    | _ => false
  | .sl a lo hi, e => match e with
    | .Subscript x (.Slice l h none _) _ => ckE S a x && ckO S lo l && ckO S hi h
    | _ => false
  | .rev a, e => match e with
    | .Subscript x (.Slice none none (some (.UnaryOp .USub (.Constant (.int 1) _ _) _)) _) _ => ckE S a x
    | _ => false
  | .call f es, e => match e with
    | .Call (.Name x _) (y :: ys) [] _ => decide (x = f) && S.pres f && glB S.sc f && nmOk f && ckEs S es (y :: ys)
    | _ => false
  | .blt b es, e => match e with
    | .Call (.Name x _) (y :: ys) [] _ => biOk b && decide (x = biName b) && glB S.sc (biName b) && ckEs S es (y :: ys)
    | _ => false
  | .isi a t, e => match e with
    | .Call (.Name x _) [y, .Name ty _] [] _ => decide (x = "isinstance") && glB S.sc "isinstance" && kinds.any (fun s => decide (s = t)) && decide (ty = Str.ofString t) && glB S.sc ty && ckE S a y
    | _ => false
  | .isi2 a t u, e => match e with
    | .Call (.Name x _) [y, .Tuple [.Name ty _, .Name tu _] _ _] [] _ => decide (x = "isinstance") && glB S.sc "isinstance" && kinds.any (fun s => decide (s = t)) && kinds.any (fun s => decide (s = u)) && decide (ty = Str.ofString t) && decide (tu = Str.ofString u) && glB S.sc ty && glB S.sc tu && ckE S a y
    | _ => false
  | .meth m o es, e => match e with
    | .Call (.Attribute x name apos) ys [] cpos => mtOkB m && decide (name = mtName m) && (apos.endLine == cpos.line) && decide (ys.length < 29) && noCall0 x && ckE S o x && ckEs S es ys
    | _ => false
  | .lmeth m i es, e => match e with
    | .Call (.Attribute (.Name x _) name apos) ys [] cpos => decide (name = lmName m) && (apos.endLine == cpos.line) && decide (ys.length < 29) && decide (S.N[i]? = some x) && visB S.sc x && nmOk x && ckEs S es ys
    | _ => false
  | .lc own tg it cond el, e => match e with
    | .ListComp elt [⟨tgE, iter, ifs, as⟩] scope _ => decide (as = 0) && blkB S scope own && noSet iter && tg.inB own && ckI S it tgE iter && tgB (blkS S scope) tg tgE && ckC (blkS S scope) cond ifs && ckE (blkS S scope) el elt
    | _ => false
  | .lc2 .., _ => false
  | .told f, e => match e with
    | .Call (.Name x _) [.Lambda params body scope _] [] _ => decide (x = "_law_told") && S.told && glB S.sc "_law_told" && LamX.lamSB S.sc scope && noArgs params && ckE { S with sc := scope, fnB := fun _ => false, told := false } f body
    | _ => false
  | .dct kvs, e => match e with
    | .Dict keys values _ => strKV kvs keys values && !kvs.isEmpty && decide (kvs.length ≤ 15) && decide ((kvs.map (·.1)).Nodup)
    | _ => false
  | .dget a i, e => match e with
    | .Subscript (.Call (.Name x _) [y] [] _) (.Name z _) _ => decide (x = "dict") && glB S.sc "dict" && ckE S a y && decide (S.N[i]? = some z) && visB S.sc z && nmOk z
    | _ => false
  | .callL f a b ds z, e => match e with
    | .Call (.Name x _) [.Name n1 _, .Name n2 _, .List ces _, .Constant k _ _] [] _ => decide (x = f) && S.pres f && glB S.sc f && nmOk f && slB S a n1 && slB S b n2 && csB ds ces && cstB z k
    | _ => false
def ckEs (S : Sco) : MEs → List Expr → Bool
  | .nil, es => match es with
    | [] => true
    | _ => false
  | .cons a as, es => match es with
    | e :: es => ckE S a e && ckEs S as es
    | _ => false
def ckO (S : Sco) : MO → Option Expr → Bool
  | .none, e => match e with
    | none => true
    | _ => false
  | .some a, e => match e with
    | some e => ckE S a e
    | _ => false
def ckC (S : Sco) : MO → List Expr → Bool
  | .none, e => match e with
    | [] => true
    | _ => false
  | .some a, e => match e with
    | [e] => ckE S a e
    | _ => false
def ckI (S : Sco) : MI → Expr → Expr → Bool
  | .ex a, _, e => ckE S a e
  | .range es, _, e => match e with
    | .Call (.Name x _) [y] [] _ => decide (x = "range") && glB S.sc "range" && ckEs S es [y]
    | _ => false
  | .enum es, tg, e => match e with
    | .Call (.Name x _) [y] [] _ => isTup tg && decide (x = "enumerate") && glB S.sc "enumerate" && ckEs S es [y]
    | _ => false
  | .zip es, tg, e => match e with
    | .Call (.Name x _) [y, z] [] _ => isTup tg && decide (x = "zip") && glB S.sc "zip" && ckEs S es [y, z]
    | _ => false
end
def noStar : Expr → Bool
  | .Starred .. => false
  | _ => true
theorem star_cons {e : Expr} {es : List Expr} {env : Env} (h : noStar e = true) : starEach (e :: es) env = (false, eval e env) :: starEach es env := by
  cases e <;> first | rfl | cases h
theorem star_any : ∀ {es : List Expr} {env : Env} {pos : Pos}, es.all noStar = true → (backTo pos (starEach es env)).any (·.1) = false
  | [], _, _, _ => rfl
  | e :: es, env, pos, h => by
    rw [List.all_cons, Bool.and_eq_true] at h
    rw [star_cons h.1]
    show (false || (backTo pos (starEach es env)).any (·.1)) = false
    rw [star_any h.2]
    rfl
theorem star_all : ∀ {es : List Expr} {env : Env} {pos : Pos}, es.all noStar = true → (backTo pos (starEach es env)).all (fun x => !x.1) = true
  | [], _, _, _ => rfl
  | e :: es, env, pos, h => by
    rw [List.all_cons, Bool.and_eq_true] at h
    rw [star_cons h.1]
    show (!false && (backTo pos (starEach es env)).all (fun x => !x.1)) = true
    rw [star_all h.2]
    rfl
theorem few_ok {e : Expr} {es : List Expr} {env : Env} {pos : Pos} (h : (e :: es).all noStar = true) (hl : (e :: es).length < 29) : ((backTo pos (starEach (e :: es) env)).all (fun x => !x.1) && (backToKw pos (keywordEach [] env)).all (fun x => x.1.isSome)
      && decide ((e :: es).length + ([] : List Keyword).length + (if ([] : List Keyword).isEmpty then 0 else 1) < 30)) = true := by
  rw [star_all h]
  have : (e :: es).length + ([] : List Keyword).length + (if ([] : List Keyword).isEmpty then 0 else 1) < 30 := by
    show (e :: es).length + 0 + 0 < 30
    omega
  rw [decide_eq_true this]
  rfl
theorem ckE_star {S : Sco} {a : ME} {e : Expr} (h : ckE S a e = true) : noStar e = true := by
  cases e <;> first | rfl | skip
  cases a <;> (simp [ckE] at h)
theorem ckEs_star {S : Sco} : ∀ {as : MEs} {es : List Expr}, ckEs S as es = true → es.all noStar = true
  | .nil, [], _ => rfl
  | .nil, _ :: _, h => by simp [ckEs] at h
  | .cons a as, [], h => by simp [ckEs] at h
  | .cons a as, e :: es, h => by
    simp only [ckEs, Bool.and_eq_true] at h
    rw [List.all_cons, ckE_star h.1, ckEs_star h.2]
    rfl
theorem base_ok {o : Expr} {x : Str} {env : Env} (h : noCall0 o = true) : attributeBase o x env (eval o env) = eval o env := by
  cases o <;> first | rfl | skip
  rename_i f args kw pos
  cases args with
  | nil => cases h
  | cons a as =>
    cases f <;> rfl
theorem slice_ok {e : Expr} (h : noSlice e = true) : PlainIx e := by
  intro o i
  cases e <;> first | rfl | cases h
theorem set_ok {e : Expr} {env : Env} (h : noSet e = true) : ∀ x, foldedSetIterable e env x = pure x := by
  intro x
  cases e <;> first | rfl | cases h
def plainT : Expr → Bool
  | .UnaryOp .Not _ _ | .BoolOp .. | .IfExp .. | .Compare .. => false
  | _ => true
theorem isTrue_of {e : Expr} {env : Env} (h : plainT e = true) : ∀ whole, isTrue e env whole = (do let v ← whole; standAt e.pos; holding [v] (truthy v)) := by
  intro whole
  cases e <;> first | rfl | cases h | skip
  rename_i op _ _
  cases op <;> first | rfl | cases h
theorem vis_of {sc : Scope} {x : Str} (h : visB sc x = true) : Vis sc x := by
  unfold visB at h
  simp only [Bool.or_eq_true, decide_eq_true_eq] at h
  rcases h with (h | h) | h
  · exact .inl h
  · exact .inr (.inl h)
  · exact .inr (.inr h)
theorem nm_dbg {x : Str} (h : nmOk x = true) : (x == ("__debug__" : Str)) = false ∧ (x == ("__classdict__" : Str)) = false ∧ x ≠ "__name__" := by
  unfold nmOk at h
  simp only [Bool.and_eq_true, Bool.not_eq_true'] at h
  refine ⟨h.1.1, h.1.2, fun z => ?_⟩
  rw [z] at h
  simp at h
section
variable {X : Cx} {c : Fc} {W : WX} {C : Cfg} {S : Sco} {k : Nat} (V1 : Env1 X c W C S k)
include V1
theorem gl_of {x : Str} (h : glB S.sc x = true) : Gl X x := by
  show X.env.scope.names.lookup x = _
  rw [V1.scope]
  exact of_decide_eq_true h
theorem tgN_ok {i : Nat} {e : Expr} (h : tgN S i e = true) : PG X e (gName i) := by
  cases e <;> first | cases h | skip
  rename_i x pos
  simp only [tgN, Bool.and_eq_true, decide_eq_true_eq, locB, Bool.or_eq_true] at h
  have hN : X.N[i]? = some x := by rw [V1.names]; exact h.1
  rcases h.2 with h2 | h2
  · exact pg_name V1.nd hN (.inl (by rw [V1.scope]; exact h2)) (.inr (by rw [V1.scope]; exact h2))
  · exact pg_name V1.nd hN (.inr (by rw [V1.scope]; exact h2.1)) (.inl (V1.fn x h2.2))
omit V1 in
theorem tgN_name {i : Nat} {e : Expr} (h : tgN S i e = true) : ∃ x p, e = .Name x p := by
  cases e <;> first | cases h | exact ⟨_, _, rfl⟩
theorem tgNs_ok : ∀ {is : List Nat} {es : List Expr}, tgNs S is es = true → PGs X es (gsX X is) ∧ (assignEach es X.env).length = is.length ∧ (assignEach es X.env).findIdx? (·.1) = none
  | [], [], _ => ⟨pgsx_nil, rfl, rfl⟩
  | [], _ :: _, h => by cases h
  | _ :: _, [], h => by cases h
  | i :: is, e :: es, h => by
    simp only [tgNs, Bool.and_eq_true] at h
    obtain ⟨x, p, rfl⟩ := tgN_name h.1
    obtain ⟨h1, h2, h3⟩ := tgNs_ok h.2
    refine ⟨pgsx_cons (tgN_ok V1 h.1) h1 rfl, ?_, ?_⟩
    · show (assignEach es X.env).length + 1 = _
      rw [h2]
      rfl
    · show ((false, assign (.Name x p) X.env) :: assignEach es X.env).findIdx? (·.1) = none
      rw [List.findIdx?_cons, h3]
      rfl
theorem tgB_ok {tg : Tg} {e : Expr} (h : tgB S tg e = true) : PG X e (gX X tg) := by
  cases tg with
  | one i => exact pgx_one (tgN_ok V1 h)
  | tup is =>
    cases e <;> first | cases h | skip
    obtain ⟨h1, h2, h3⟩ := tgNs_ok V1 h
    exact pgx_tup V1.calm h1 h2 h3
theorem blkB_ok {scope : Scope} {own : List Nat} (h : blkB S scope own = true) : BlkOk X.N X.env.scope scope (ownOf S own) := by
  unfold blkB at h
  simp only [Bool.and_eq_true, decide_eq_true_eq, List.all_eq_true, Bool.or_eq_true, Bool.not_eq_true', decide_eq_false_iff_not] at h
  obtain ⟨⟨⟨⟨h1, h2⟩, h3⟩, h4⟩, h5⟩ := h
  refine ⟨h1, h2, fun p hp => ?_, fun y hy e => ?_, fun y hy e => ?_⟩
  · obtain ⟨i, hi, rfl⟩ := List.mem_map.mp hp
    rw [V1.names]
    have := h3 i hi
    simp [List.getElem?_eq_getElem this]
  · rw [V1.scope]
    rcases h4 y hy with (h | h) | h
    · exact absurd e h
    · exact .inl h
    · exact .inr h
  · rw [V1.names]
    rcases h5 y hy with (h | h) | h
    · rw [Bool.or_eq_false_iff, decide_eq_false_iff_not, decide_eq_false_iff_not] at h
      rcases e with e | e
      · exact absurd e h.1
      · exact absurd e h.2
    · rw [List.any_eq_true] at h
      obtain ⟨p, hp, e⟩ := h
      exact .inl (List.mem_map.mpr ⟨p, hp, of_decide_eq_true e⟩)
    · refine .inr fun hm => ?_
      rw [List.any_eq_false] at h
      exact h y.1 hm (by simp)
omit V1 in
theorem own_snd {own : List Nat} : (ownOf S own).map (·.2) = own := by
  unfold ownOf
  rw [List.map_map]
  exact List.map_id own
omit V1 in
theorem inB_ok {tg : Tg} {own : List Nat} (h : tg.inB own = true) : ∀ j ∈ tg.slots, j ∈ own := by
  intro j hj
  unfold Tg.inB at h
  rw [List.all_eq_true] at h
  have := h j hj
  rw [List.any_eq_true] at this
  obtain ⟨i, hi, e⟩ := this
  have := of_decide_eq_true e
  rw [← this]; exact hi
theorem ty_ok {t : String} {p : Pos} (ht : t ∈ kinds) (hg : glB S.sc (Str.ofString t) = true) : PE X (.Name (Str.ofString t) p) (tC (.ty t)) := by
  have hg := gl_of V1 hg
  unfold kinds at ht
  simp only [List.mem_cons, List.not_mem_nil, or_false] at ht
  rcases ht with rfl | rfl | rfl | rfl | rfl
  · exact pe_bltn hg (V1.blt _ (by decide)) boot_int rfl (by decide) (by decide)
  · exact pe_bltn hg (V1.blt _ (by decide)) boot_bool rfl (by decide) (by decide)
  · exact pe_bltn hg (V1.blt _ (by decide)) boot_str rfl (by decide) (by decide)
  · exact pe_bltn hg (V1.blt _ (by decide)) boot_list rfl (by decide) (by decide)
  · exact pe_bltn hg (V1.blt _ (by decide)) boot_tuple rfl (by decide) (by decide)
theorem bi_ok {b : Bi} {x : Str} {e : Expr} {es : List Expr} {fs : M (List RV)} {p pos : Pos} (hb : biOk b = true) (hx : x = biName b) (hg : glB S.sc (biName b) = true)
    (he : starEach (e :: es) X.env = (false, eval e X.env) :: starEach es X.env) (hpl : (backTo pos (starEach es X.env)).any (·.1) = false) (ha : PAX X c W (e :: es) fs) :
    PX X c W (.Call (.Name x p) (e :: es) [] pos) (M.bind fs fun rs => M.bind (useAll rs) fun ds => rsRV (blt b ds)) := by
  subst hx
  have hg := gl_of V1 hg
  cases b <;> first | cases hb | skip
  · exact px_callB V1 n_len hg (V1.blt _ (by decide)) boot_len (by decide) (by decide) he hpl ha
  · exact px_callB V1 n_abs hg (V1.blt _ (by decide)) boot_abs (by decide) (by decide) he hpl ha
  · exact px_callTy V1 n_int hg (V1.blt _ (by decide)) boot_int (by decide) (by decide) he hpl ha
  · exact px_callTy V1 n_str hg (V1.blt _ (by decide)) boot_str (by decide) (by decide) he hpl ha
  · exact px_callB V1 (n_min V1.calm) hg (V1.blt _ (by decide)) boot_min (by decide) (by decide) he hpl ha
  · exact px_callB V1 (n_max V1.calm) hg (V1.blt _ (by decide)) boot_max (by decide) (by decide) he hpl ha
  · exact px_callTy V1 n_list hg (V1.blt _ (by decide)) boot_list (by decide) (by decide) he hpl ha
  · exact px_callTy V1 n_tuple hg (V1.blt _ (by decide)) boot_tuple (by decide) (by decide) he hpl ha
  · exact px_callB V1 (n_sorted V1.hu) hg (V1.blt _ (by decide)) boot_sorted (by decide) (by decide) he hpl ha
  · exact px_callB V1 (n_all V1.calm) hg (V1.blt _ (by decide)) boot_all (by decide) (by decide) he hpl ha
  · exact px_callB V1 (n_any V1.calm) hg (V1.blt _ (by decide)) boot_any (by decide) (by decide) he hpl ha
end
end G
set_option maxHeartbeats 4000000
namespace G
open PySem PySem.Spec PyProof.Rows L2
section
variable {X : Cx} {c : Fc} {W : WX} {C : Cfg} {S : Sco} {k : Nat}
theorem px_cst {d : D} {kk : Const} {n : Nat} {p : Pos} (h : cstB d kk = true) : PX X c W (.Constant kk n p) (M.pure (.val d)) := by
  cases d <;> cases kk <;> first | cases h | skip
  · exact px_pure pe_non fun _ _ => .non
  · rename_i b b'
    have : b = b' := by simpa [cstB] using h
    subst this
    exact px_pure pe_bl fun _ _ => .bl _
  · rename_i i j
    obtain rfl := of_decide_eq_true h
    exact px_pure pe_int fun _ _ => .int _
  · rename_i i j
    obtain rfl := of_decide_eq_true h
    exact px_pure pe_str fun _ _ => .str _
def cV : D → V
  | .bool b => .bl b
  | .int i => .int i
  | .str x => .str x
  | _ => .non
theorem pe_cstB {d : D} {kk : Const} {n : Nat} {p : Pos} (h : cstB d kk = true) : PE X (.Constant kk n p) (tC (cV d)) ∧ ∀ (K : PySem.W.Frag) (mg : Str → Option Value) (H : Hp) (F : Fz), Rp K mg H F (cV d) d := by
  cases d <;> cases kk <;> first | cases h | skip
  · exact ⟨pe_non, fun _ _ _ _ => .non⟩
  · rename_i b b'
    have : b = b' := by simpa [cstB] using h
    subst this
    exact ⟨pe_bl, fun _ _ _ _ => .bl _⟩
  · rename_i i j
    obtain rfl := of_decide_eq_true h
    exact ⟨pe_int, fun _ _ _ _ => .int _⟩
  · rename_i i j
    obtain rfl := of_decide_eq_true h
    exact ⟨pe_str, fun _ _ _ _ => .str _⟩
theorem pa_csB : ∀ {ds : List D} {es : List Expr}, csB ds es = true → PA X es (fun σ H Q => Q (ds.map cV) H) ∧ (∀ (K : PySem.W.Frag) (mg : Str → Option Value) (H : Hp) (F : Fz), RpAll K mg H F (ds.map cV) ds)
  | [], [], _ => ⟨pa_nil, fun _ _ _ _ => .nil⟩
  | [], _ :: _, h => by cases h
  | d :: ds, es, h => by
    match es, h with
    | .Constant k n p :: es, h =>
      have h : (cstB d k && csB ds es) = true := h
      rw [Bool.and_eq_true] at h
      obtain ⟨h1, h2⟩ := pe_cstB (X := X) (n := n) (p := p) h.1
      obtain ⟨h3, h4⟩ := pa_csB h.2
      exact ⟨pa_cons h1 h3 rfl, fun K mg H F => .cons (h2 K mg H F) (h4 K mg H F)⟩
theorem px_callL (V1 : Env1 X c W C S k) {x n1 n2 : Str} {a b : Nat} {ds : List D} {z : D} {ces : List Expr} {kk : Const} {p p1 p2 p3 p4 pos : Pos} {nn : Nat} (hpr : S.pres x = true) (hg : Gl X x) (hdb : (x == ("__debug__" : Str)) = false)
    (h1 : PE X (.Name n1 p1) (tVar a)) (h2 : PE X (.Name n2 p2) (tVar b)) (hc : csB ds ces = true) (hz : cstB z kk = true) :
    PX X c W (.Call (.Name x p) [.Name n1 p1, .Name n2 p2, .List ces p3, .Constant kk nn p4] [] pos) (callLF (C.Φ x) a b ds z) := by
  obtain ⟨f, fd, ps, g1, g2, g3, g4⟩ := V1.fns x hpr
  obtain ⟨q1, q2⟩ := pa_csB (X := X) hc
  obtain ⟨z1, z2⟩ := pe_cstB (X := X) (n := nn) (p := p4) hz
  refine peImp (pe_callSD (E := fun σ cls d H' => W cls d σ H') (ds := []) (dvs := []) g4 V1.room hg g1 g2 g3 .nil (fun σ => L2N.passAt V1.takes σ) (pa_cons h1 (pa_cons h2 (pa_cons (pe_lst q1) (pa_cons z1 pa_nil rfl) rfl) rfl) rfl) hdb rfl rfl) fun σ H Q ⟨F, ρ, R, q⟩ => ?_
  unfold callLF at q
  split at q
  · rename_i xa ya e1 e2
    split at q
    · rename_i hl
      have cell : ∀ {i : Nat} {x : Arg}, argOf ρ (.own i) = some x → ∃ v, σ[i]? = some (some v) := fun {i x} e => by
        unfold argOf at e
        simp only at e
        split at e
        · rename_i ds hi
          obtain ⟨v, e2, _⟩ := R.cel i _ hi
          exact ⟨v, e2⟩
        · rename_i d hi
          obtain ⟨v, e2, _⟩ := R.cel i _ hi
          exact ⟨v, e2⟩
        · cases e
      obtain ⟨v1, w1⟩ := cell e1
      obtain ⟨v2, w2⟩ := cell e2
      refine ⟨v1, w1, v2, w2, ?_, fun pa hpa => ?_⟩
      · rw [List.length_map]
        exact of_decide_eq_true hl
      · have g := grow_new (o := .lst (ds.map cV)) hpa
        have R' := R.grow g
        have hp : Paired (OR X.K X.mg σ (upd H pa (.lst (ds.map cV))) F) [v1, v2] [.own a, .own b] := .cons w1 (.cons w2 .nil)
        have ea : argsOf ρ [.own a, .own b] = some [xa, ya] := by
          show (argOf ρ (.own a)).bind (fun x => ((argOf ρ (.own b)).bind fun y => some [y]).map (x :: ·)) = _
          rw [e1, e2]
          rfl
        obtain ⟨a1, a2, a3⟩ := args_ok R' hp ea
        have nfp : ¬ F pa := fun fz => by
          obtain ⟨_, q⟩ := R.fr.fl pa fz
          rw [hpa] at q; cases q
        have A : ArgsOk X.K X.mg c σ (upd H pa (.lst (ds.map cV))) F ρ [v1, v2, .ref pa, cV z] [xa, ya, .temp ds, .val z] := by
          refine ⟨?_, fun j i es v e e' => ?_, fun j es ad e e' => ?_, fun j k es fs e e' => ?_⟩
          · cases a1 with
            | cons b1 b2 => cases b2 with
              | cons b3 b4 => exact .cons b1 (.cons b3 (.cons ⟨pa, _, rfl, upd_same, q2 _ _ _ _, nfp⟩ (.cons (z2 _ _ _ _) .nil)))
          · match j, e, e' with
            | 0, e, e' => exact a2 0 i es v e e'
            | 1, e, e' => exact a2 1 i es v e e'
            | 2, e, _ => cases e
            | 3, e, _ => cases e
            | j + 4, e, _ => simp at e
          · match j, e, e' with
            | 0, e, _ => exact absurd e (a3 0 es)
            | 1, e, _ => exact absurd e (a3 1 es)
            | 2, e, e' =>
              cases e'
              refine ⟨⟨_, upd_same⟩, nfp, R.fr.free pa hpa, fun i ys h1 h2 => ?_, fun p hp e => ?_⟩
              · obtain ⟨v, e3, ad, xs, rfl, h4, _⟩ := R.cel i _ h1
                rw [h2] at e3
                cases e3
                rw [hpa] at h4; cases h4
              · obtain ⟨h4, _⟩ := R.tmp p hp
                rw [e, hpa] at h4; cases h4
            | 3, e, _ => cases e
            | j + 4, e, _ => simp at e
          · have only : ∀ (j : Nat) (es : List D), [xa, ya, Arg.temp ds, Arg.val z][j]? = some (.temp es) → j = 2 := fun j es e => by
              match j, e with
              | 0, e => exact absurd e (a3 0 es)
              | 1, e => exact absurd e (a3 1 es)
              | 2, e => rfl
              | 3, e => cases e
              | j + 4, e => simp at e
            rw [only j es e, only k fs e']
        show spOf X.K X.mg S.tb (C.Φ x) ([v1, v2, .ref pa, cV z] ++ []) _ Q _
        rw [List.append_nil]
        unfold callAs at q
        split at q
        · rename_i hap
          exact sp_ofA V1 R' A hap (Post.base (R.mon g) q)
        · exact q.elim
    · exact q.elim
  · exact q.elim
theorem tyV_str {K : PySem.W.Frag} {mg : Str → Option Value} {d : D} {x : V} {H : Hp} {F : Fz} {z : Str} (e : d = .str z) (r : RB K mg H F x d) : tyV K "str" x H := by
  subst e
  obtain rfl := r.str
  rfl
theorem tyV_list {K : PySem.W.Frag} {mg : Str → Option Value} {d : D} {x : V} {H : Hp} {F : Fz} {zs : List D} (e : d = .list zs) (r : RB K mg H F x d) : tyV K "list" x H := by
  subst e
  obtain ⟨a, xs, rfl, e, _⟩ := r.list
  exact .inl ⟨rfl, xs, SqL.of e⟩
theorem meth_ok (V1 : Env1 X c W C S k) {m : Mt} {o : Expr} {es : List Expr} {fo : M RV} {fs : M (List RV)} {apos cpos : Pos} (hm : mtOkB m = true) (hl : (apos.endLine == cpos.line) = true) (hn : es.length < 29) (h0 : noCall0 o = true) (hst : es.all noStar = true)
    (ho : PX X c W o fo) (ha : PAX X c W es fs) (hnil : es = [] → fs = M.pure []) :
    PX X c W (.Call (.Attribute o (mtName m) apos) es [] cpos) (M.bind fo fun ro => M.bind (M.use (M.settle ro)) fun x0 => if mtOk m x0 = true then M.bind fs fun rs => M.bind (M.use (M.settle ro)) fun x => M.bind (useAll rs) fun ds => rsRV (meth m x ds) else M.stuck) := by
  have hs : ∀ (m : Mt), m = .join ∨ m = .split ∨ m = .startswith ∨ m = .upper → ∀ d x H F, mtOk m d = true → RB X.K X.mg H F x d → tyV X.K "str" x H := fun m hm d x H F h r => by
    rcases hm with rfl | rfl | rfl | rfl <;> (cases d <;> first | exact tyV_str rfl r | cases h)
  have hc : ∀ d x H F, mtOk .count d = true → RB X.K X.mg H F x d → tyV X.K "list" x H := fun d x H F h r => by
    cases d <;> first | exact tyV_list rfl r | cases h
  cases es with
  | nil =>
    rw [hnil rfl]
    cases m <;> first | cases hm | skip
    · exact px_meth0E V1 PySem.F.plainAttrs_str PySem.F.slot_str_join PySem.F.type_str_join m_join (hs _ (by simp)) ho (base_ok h0) hl
    · exact px_meth0E V1 PySem.F.plainAttrs_str PySem.F.slot_str_split PySem.F.type_str_split m_split (hs _ (by simp)) ho (base_ok h0) hl
    · exact px_meth0E V1 PySem.F.plainAttrs_str PySem.F.slot_str_startswith PySem.F.type_str_startswith m_startswith (hs _ (by simp)) ho (base_ok h0) hl
    · exact px_meth0E V1 PySem.F.plainAttrs_str PySem.F.slot_str_upper PySem.F.type_str_upper m_upper (hs _ (by simp)) ho (base_ok h0) hl
    · exact px_meth0E V1 PySem.F.plainAttrs_list PySem.F.slot_list_count PySem.F.type_list_count m_count hc ho (base_ok h0) hl
  | cons e es =>
    have h1 : starEach (e :: es) X.env = (false, eval e X.env) :: starEach es X.env := star_cons (by rw [List.all_cons, Bool.and_eq_true] at hst; exact hst.1)
    have h2 : (backTo cpos (starEach es X.env)).any (·.1) = false := star_any (by rw [List.all_cons, Bool.and_eq_true] at hst; exact hst.2)
    cases m <;> first | cases hm | skip
    · exact px_methE V1 PySem.F.plainAttrs_str PySem.F.slot_str_join PySem.F.type_str_join m_join (hs _ (by simp)) ho ha (base_ok h0) (few_ok hst hn) hl h1 h2
    · exact px_methE V1 PySem.F.plainAttrs_str PySem.F.slot_str_split PySem.F.type_str_split m_split (hs _ (by simp)) ho ha (base_ok h0) (few_ok hst hn) hl h1 h2
    · exact px_methE V1 PySem.F.plainAttrs_str PySem.F.slot_str_startswith PySem.F.type_str_startswith m_startswith (hs _ (by simp)) ho ha (base_ok h0) (few_ok hst hn) hl h1 h2
    · exact px_methE V1 PySem.F.plainAttrs_str PySem.F.slot_str_upper PySem.F.type_str_upper m_upper (hs _ (by simp)) ho ha (base_ok h0) (few_ok hst hn) hl h1 h2
    · exact px_methE V1 PySem.F.plainAttrs_list PySem.F.slot_list_count PySem.F.type_list_count m_count hc ho ha (base_ok h0) (few_ok hst hn) hl h1 h2
theorem lmeth_ok (V1 : Env1 X c W C S k) {m : Lm} {i : Nat} {o : Expr} {es : List Expr} {fs : M (List D)} {apos cpos : Pos} (hl : (apos.endLine == cpos.line) = true) (hn : es.length < 29) (h0 : noCall0 o = true) (hst : es.all noStar = true)
    (ho : PE X o (tVar i)) (ha : PKX X c W es fs) (hnil : es = [] → fs = M.pure []) :
    PX X c W (.Call (.Attribute o (lmName m) apos) es [] cpos) (M.bind (isOwn i) fun _ => M.bind fs fun ds => lmGo m i ds) := by
  cases es with
  | nil =>
    rw [hnil rfl]
    cases m
    · exact px_lmeth0E V1 PySem.F.slot_list_append PySem.F.type_list_append lm_appendG ho (base_ok h0) hl
    · exact px_lmeth0E V1 PySem.F.slot_list_extend PySem.F.type_list_extend lm_extendG ho (base_ok h0) hl
    · exact px_lmeth0E V1 PySem.F.slot_list_pop PySem.F.type_list_pop lm_pop ho (base_ok h0) hl
    · exact px_lmeth0E V1 PySem.F.slot_list_pop PySem.F.type_list_pop lm_popAt ho (base_ok h0) hl
    · exact px_lmeth0E V1 PySem.F.slot_list_insert PySem.F.type_list_insert lm_insert ho (base_ok h0) hl
  | cons e es =>
    have h1 : starEach (e :: es) X.env = (false, eval e X.env) :: starEach es X.env := star_cons (by rw [List.all_cons, Bool.and_eq_true] at hst; exact hst.1)
    have h2 : (backTo cpos (starEach es X.env)).any (·.1) = false := star_any (by rw [List.all_cons, Bool.and_eq_true] at hst; exact hst.2)
    cases m
    · exact px_lmethE V1 PySem.F.slot_list_append PySem.F.type_list_append lm_appendG ho ha (base_ok h0) (few_ok hst hn) hl h1 h2
    · exact px_lmethE V1 PySem.F.slot_list_extend PySem.F.type_list_extend lm_extendG ho ha (base_ok h0) (few_ok hst hn) hl h1 h2
    · exact px_lmethE V1 PySem.F.slot_list_pop PySem.F.type_list_pop lm_pop ho ha (base_ok h0) (few_ok hst hn) hl h1 h2
    · exact px_lmethE V1 PySem.F.slot_list_pop PySem.F.type_list_pop lm_popAt ho ha (base_ok h0) (few_ok hst hn) hl h1 h2
    · exact px_lmethE V1 PySem.F.slot_list_insert PySem.F.type_list_insert lm_insert ho ha (base_ok h0) (few_ok hst hn) hl h1 h2
end
def OkE (C : Cfg) (k : Nat) (me : ME) : Prop := ∀ (S : Sco) (e : Expr) (X : Cx) (c : Fc) (W : WX), Env1 X c W C S k → ckE S me e = true →
  PX X c W e (den C me) ∧ PTX X c W e (denT C me) ∧ ∀ o es pos, e = .BoolOp o es pos → PWX X c W e (denT C me)
def OkEs (C : Cfg) (k : Nat) (me : MEs) : Prop := ∀ (S : Sco) (es : List Expr) (X : Cx) (c : Fc) (W : WX), Env1 X c W C S k → ckEs S me es = true → PAX X c W es (denA C me) ∧ PKX X c W es (denK C me)
def OkO (C : Cfg) (k : Nat) (me : MO) : Prop := (∀ (S : Sco) (e : Option Expr) (X : Cx) (c : Fc) (W : WX), Env1 X c W C S k → ckO S me e = true → POX X c W e (denO C me)) ∧
  ∀ (S : Sco) (es : List Expr) (X : Cx), ckC S me es = true → (∀ (tm : List (Addr × List V)) (c : Fc), True) → (∀ c, (∀ tm, Env1 X { c with tm := tm } WF C S k) → PTs X es (ttE X c (denC C me)))
def OkI (C : Cfg) (k : Nat) (me : MI) : Prop := ∀ (S : Sco) (tg e : Expr) (X : Cx) (c : Fc) (W : WX), Env1 X c W C S k → ckI S me tg e = true → PIX X c W tg e (denI C me)
theorem ok_plain {C : Cfg} {me : ME} {X : Cx} {c : Fc} {W : WX} {e : Expr} (hp : plainT e = true) (hd : denT C me = tr (den C me)) (h : PX X c W e (den C me)) :
    PX X c W e (den C me) ∧ PTX X c W e (denT C me) ∧ ∀ o es pos, e = .BoolOp o es pos → PWX X c W e (denT C me) :=
  ⟨h, by rw [hd]; exact pt_truthG h (isTrue_of hp), fun o es pos z => by subst z; cases hp⟩
theorem denA_nil {C : Cfg} : ∀ {as : MEs} {S : Sco}, ckEs S as [] = true → denA C as = M.pure [] ∧ denK C as = M.pure []
  | .nil, _, _ => ⟨rfl, rfl⟩
  | .cons _ _, _, h => by simp [ckEs] at h
theorem gdct_kd {X : Cx} {c : Fc} {W : WX} {C : Cfg} {S : Sco} {k : Nat} (V : Env1 X c W C S k) {y : Str} (kvs : List (D × D)) (h : gdct (C.Γ y) = some kvs) : KdS X.w X.K X.mg y kvs := by
  unfold gdct at h
  split at h
  · rename_i kvs' e
    cases h
    rcases V.cst y _ e with ⟨kvs', e, k⟩ | ⟨n, _⟩
    · cases e
      exact k
    · exact absurd rfl (n kvs)
  · cases h
mutual
theorem okE {C : Cfg} {k : Nat} : ∀ me : ME, OkE C k me
  | .slot i, S, e, X, c, W, V, h => by
    cases e <;> first | (simp [ckE] at h; done) | skip
    rename_i x p
    simp only [ckE, Bool.and_eq_true, decide_eq_true_eq] at h
    obtain ⟨h1, h2, _⟩ := nm_dbg h.2
    exact ok_plain rfl rfl (px_slot (pe_var (by rw [V.names]; exact h.1.1) (by rw [V.scope]; exact vis_of h.1.2) h1 h2))
  | .cst d, S, e, X, c, W, V, h => by
    cases e <;> first | (simp [ckE] at h; done) | skip
    exact ok_plain rfl rfl (px_cst h)
  | .glob x, S, e, X, c, W, V, h => by
    cases e <;> first | (simp [ckE] at h; done) | skip
    rename_i y p
    simp only [ckE, Bool.and_eq_true, decide_eq_true_eq] at h
    obtain ⟨⟨rfl, hg⟩, hn⟩ := h
    obtain ⟨h1, h2, _⟩ := nm_dbg hn
    refine ok_plain rfl rfl ?_
    show PX X c W _ (M.bind (M.opt (gval (C.Γ y))) fun d => M.pure (.val d))
    cases hq : gval (C.Γ y) with
    | none => exact ⟨fun pins s σ H Q I ⟨F, ρ, R, p⟩ => p.elim⟩
    | some d =>
      obtain ⟨hq, hnd⟩ := gval_some hq
      obtain ⟨_, v, u, e1, e2, e3⟩ := (V.cst y d hq).resolve_left fun ⟨kvs, z, _⟩ => hnd kvs z
      exact px_pure (pe_glob (gl_of V hg) e1 e2 h1) e3
  | .fnv x, S, e, X, c, W, V, h => by simp [ckE] at h
  | .gin a x, S, e, X, c, W, V, h => by
    cases e <;> first | (simp [ckE] at h; done) | skip
    rename_i l os rs p
    match os, rs, h with
    | [.In], [.Name y p2], h =>
      simp only [ckE, Bool.and_eq_true, decide_eq_true_eq, Bool.not_eq_true'] at h
      obtain ⟨⟨⟨⟨rfl, h1⟩, h2⟩, h3⟩, h4⟩ := h
      obtain ⟨d1, _, _⟩ := nm_dbg h2
      have ha := (okE a S _ X c W V h4).1
      have key : ∀ kvs, gdct (C.Γ y) = some kvs → KdS X.w X.K X.mg y kvs := gdct_kd V
      refine ⟨?_, ?_, fun _ _ _ z => by cases z⟩
      · show PX X c W _ (M.bind (M.opt (gdct (C.Γ y))) fun kvs => M.bind (den C a) fun ra => M.bind (M.use ra) fun d => M.bind (M.opt (ginV kvs d)) bV)
        cases hk : gdct (C.Γ y) with
        | none => exact ⟨fun pins s σ H Q I ⟨F, ρ, R, p⟩ => p.elim⟩
        | some kvs => exact px_gin V (key kvs hk) (gl_of V h1) d1 h3 ha
      · show PTX X c W _ (M.bind (M.opt (gdct (C.Γ y))) fun kvs => M.bind (den C a) fun ra => M.bind (M.use ra) fun d => M.opt (ginV kvs d))
        cases hk : gdct (C.Γ y) with
        | none => exact ⟨fun pins s σ H Q I ⟨F, ρ, R, p⟩ => p.elim⟩
        | some kvs => exact pt_gin V (key kvs hk) (gl_of V h1) d1 h3 ha
  | .gix x a, S, e, X, c, W, V, h => by
    cases e <;> first | (simp [ckE] at h; done) | skip
    rename_i v b p
    cases v <;> first | (simp [ckE] at h; done) | skip
    rename_i y p2
    simp only [ckE, Bool.and_eq_true, decide_eq_true_eq] at h
    obtain ⟨⟨⟨⟨rfl, h1⟩, h2⟩, h3⟩, h4⟩ := h
    obtain ⟨d1, _, _⟩ := nm_dbg h2
    have ha := (okE a S _ X c W V h4).1
    have key : ∀ kvs, gdct (C.Γ y) = some kvs → KdS X.w X.K X.mg y kvs := gdct_kd V
    refine ok_plain rfl rfl ?_
    show PX X c W _ (M.bind (M.opt (gdct (C.Γ y))) fun kvs => M.bind (den C a) fun ra => M.bind (M.use ra) fun d => M.bind (M.opt (gixV kvs d)) fun r => M.pure (.val r))
    cases hk : gdct (C.Γ y) with
    | none => exact ⟨fun pins s σ H Q I ⟨F, ρ, R, p⟩ => p.elim⟩
    | some kvs => exact px_gix V (key kvs hk) (gl_of V h1) d1 (slice_ok h3) ha
  | .bin op a b, S, e, X, c, W, V, h => by
    cases e <;> first | (simp [ckE] at h; done) | skip
    simp only [ckE, Bool.and_eq_true] at h
    obtain rfl := bopB_ok h.1.1
    exact ok_plain rfl rfl (px_bin V op (okE a S _ X c W V h.1.2).1 (okE b S _ X c W V h.2).1)
  | .neg a, S, e, X, c, W, V, h => by
    cases e <;> first | (simp [ckE] at h; done) | skip
    rename_i op x p
    cases op <;> first | (simp [ckE] at h; done) | skip
    simp only [ckE] at h
    exact ok_plain rfl rfl (px_neg V (okE a S _ X c W V h).1)
  | .cmp op a b, S, e, X, c, W, V, h => by
    cases e <;> first | (simp [ckE] at h; done) | skip
    rename_i l os rs p
    match os, rs, h with
    | [o], [r], h =>
      simp only [ckE, Bool.and_eq_true, Bool.not_eq_true'] at h
      obtain rfl := copB_ok h.1.1.1
      have ha := (okE a S _ X c W V h.1.2).1
      have hb := (okE b S _ X c W V h.2).1
      exact ⟨px_cmp V op h.1.1.2 ha hb, pt_cmpG V op h.1.1.2 ha hb, fun _ _ _ z => by cases z⟩
  | .chain o p a b d, S, e, X, c, W, V, h => by
    cases e <;> first | (simp [ckE] at h; done) | skip
    rename_i l os rs q
    match os, rs, h with
    | [o1, o2], [r1, r2], h =>
      simp only [ckE, Bool.and_eq_true, Bool.not_eq_true'] at h
      obtain ⟨⟨⟨⟨⟨h1, h2⟩, h3⟩, h4⟩, h5⟩, h6⟩ := h
      obtain rfl := copB_ok h1
      obtain rfl := copB_ok h2
      have ha := (okE a S _ X c W V h4).1
      have hb := (okE b S _ X c W V h5).1
      have hd := (okE d S _ X c W V h6).1
      exact ⟨px_chain V o p h3 ha hb hd, pt_chainG V o p h3 ha hb hd, fun _ _ _ z => by cases z⟩
  | .bool conj a b, S, e, X, c, W, V, h => by
    cases e <;> first | (simp [ckE] at h; done) | skip
    rename_i op es p
    match es, h with
    | x :: y :: rest, h =>
      simp only [ckE, Bool.and_eq_true] at h
      obtain ⟨⟨h1, h2⟩, h3⟩ := h
      obtain ⟨a1, a2, _⟩ := okE a S x X c W V h2
      have hb : PX X c W (.BoolOp op (y :: rest) p) (den C b) ∧ PWX X c W (.BoolOp op (y :: rest) p) (denT C b) := by
        cases rest with
        | nil =>
          obtain ⟨b1, b2, _⟩ := okE b S y X c W V h3
          refine ⟨pe_one b1, ?_⟩
          cases op with
          | And => exact pw_and1 b2
          | Or => exact pw_or1 b2
        | cons z r =>
          obtain ⟨b1, _, b3⟩ := okE b S (.BoolOp op (y :: z :: r) p) X c W V h3
          exact ⟨b1, b3 _ _ _ rfl⟩
      have hw : PWX X c W (.BoolOp op (x :: y :: rest) p) (denT C (.bool conj a b)) := by
        cases conj <;> cases op <;> first | cases h1 | skip
        · exact pw_orG a2 hb.2
        · exact pw_andG a2 hb.2
      refine ⟨?_, hw.pt, fun _ _ _ _ => hw⟩
      cases conj <;> cases op <;> first | cases h1 | skip
      · exact px_or V a1 hb.1
      · exact px_and V a1 hb.1
  | .not a, S, e, X, c, W, V, h => by
    cases e <;> first | (simp [ckE] at h; done) | skip
    rename_i op x p
    cases op <;> first | (simp [ckE] at h; done) | skip
    simp only [ckE] at h
    obtain ⟨h1, h2, _⟩ := okE a S _ X c W V h
    exact ⟨px_not V h1, pt_notG h2, fun _ _ _ z => by cases z⟩
  | .ite t a b, S, e, X, c, W, V, h => by
    cases e <;> first | (simp [ckE] at h; done) | skip
    simp only [ckE, Bool.and_eq_true] at h
    obtain ⟨_, t2, _⟩ := okE t S _ X c W V h.1.1
    obtain ⟨a1, a2, _⟩ := okE a S _ X c W V h.1.2
    obtain ⟨b1, b2, _⟩ := okE b S _ X c W V h.2
    exact ⟨px_ite t2 a1 b1, pt_iteG t2 a2 b2, fun _ _ _ z => by cases z⟩
  | .tup es, S, e, X, c, W, V, h => by
    cases e <;> first | (simp [ckE] at h; done) | skip
    exact ok_plain rfl rfl (px_tup (okEs es S _ X c W V h).2)
  | .lst es, S, e, X, c, W, V, h => by
    cases e <;> first | (simp [ckE] at h; done) | skip
    exact ok_plain rfl rfl (px_lst (okEs es S _ X c W V h).2)
  | .ix a b, S, e, X, c, W, V, h => by
    cases e <;> first | (simp [ckE] at h; done) | skip
    simp only [ckE, Bool.and_eq_true] at h
    exact ok_plain rfl rfl (px_ix V (slice_ok h.1.1) (okE a S _ X c W V h.1.2).1 (okE b S _ X c W V h.2).1)
  | .sl a lo hi, S, e, X, c, W, V, h => by
    cases e <;> first | (simp [ckE] at h; done) | skip
    rename_i x sl p
    cases sl <;> first | (simp [ckE] at h; done) | skip
    rename_i l hh st p2
    cases st <;> first | (simp [ckE] at h; done) | skip
    simp only [ckE, Bool.and_eq_true] at h
    exact ok_plain rfl rfl (px_sl (okE a S _ X c W V h.1.1).1 ((okO lo).1 S _ X c W V h.1.2) ((okO hi).1 S _ X c W V h.2))
  | .rev a, S, e, X, c, W, V, h => by
    cases e <;> first | (simp [ckE] at h; done) | skip
    rename_i x sl p
    cases sl <;> first | (simp [ckE] at h; done) | skip
    rename_i l hh st p2
    match l, hh, st, h with
    | none, none, some (.UnaryOp .USub (.Constant (.int 1) _ _) _), h =>
      simp only [ckE] at h
      exact ok_plain rfl rfl (px_rev V (okE a S _ X c W V h).1)
  | .call f es, S, e, X, c, W, V, h => by
    cases e <;> first | (simp [ckE] at h; done) | skip
    rename_i fn args kws p
    cases fn <;> first | (simp [ckE] at h; done) | skip
    match args, kws, h with
    | y :: ys, [], h =>
      simp only [ckE, Bool.and_eq_true, decide_eq_true_eq] at h
      obtain ⟨⟨⟨⟨rfl, h2⟩, h3⟩, h4⟩, h5⟩ := h
      obtain ⟨d1, d2, _⟩ := nm_dbg h4
      have st := ckEs_star h5
      rw [List.all_cons, Bool.and_eq_true] at st
      exact ok_plain rfl rfl (px_call V h2 (gl_of V h3) d1 (star_cons st.1) (star_any st.2) (okEs es S _ X c W V h5).1)
  | .blt b es, S, e, X, c, W, V, h => by
    cases e <;> first | (simp [ckE] at h; done) | skip
    rename_i fn args kws p
    cases fn <;> first | (simp [ckE] at h; done) | skip
    match args, kws, h with
    | y :: ys, [], h =>
      simp only [ckE, Bool.and_eq_true, decide_eq_true_eq] at h
      obtain ⟨⟨⟨h1, h2⟩, h3⟩, h5⟩ := h
      have st := ckEs_star h5
      rw [List.all_cons, Bool.and_eq_true] at st
      exact ok_plain rfl rfl (bi_ok V h1 h2 h3 (star_cons st.1) (star_any st.2) (okEs es S _ X c W V h5).1)
  | .isi a t, S, e, X, c, W, V, h => by
    cases e <;> first | (simp [ckE] at h; done) | skip
    rename_i fn args kws p
    cases fn <;> first | (simp [ckE] at h; done) | skip
    match args, kws, h with
    | [y, .Name ty p2], [], h =>
      simp only [ckE, Bool.and_eq_true, decide_eq_true_eq, List.any_eq_true] at h
      obtain ⟨⟨⟨⟨⟨rfl, h2⟩, h3⟩, rfl⟩, h5⟩, h6⟩ := h
      have ht : t ∈ kinds := by
        obtain ⟨s, hs, rfl⟩ := h3
        exact hs
      have st := ckE_star h6
      exact ok_plain rfl rfl (px_isi V ht (gl_of V h2) (V.blt _ (by decide)) (okE a S _ X c W V h6).1 (ty_ok V ht h5) (star_cons st) (star_cons rfl) rfl)
  | .isi2 a t u, S, e, X, c, W, V, h => by
    cases e <;> first | (simp [ckE] at h; done) | skip
    rename_i fn args kws p
    cases fn <;> first | (simp [ckE] at h; done) | skip
    match args, kws, h with
    | [y, .Tuple [.Name ty p2, .Name tu p3] n p4], [], h =>
      simp only [ckE, Bool.and_eq_true, decide_eq_true_eq, List.any_eq_true] at h
      obtain ⟨⟨⟨⟨⟨⟨⟨⟨rfl, h2⟩, h3⟩, h4⟩, rfl⟩, rfl⟩, h5⟩, h7⟩, h6⟩ := h
      have ht : t ∈ kinds := by
        obtain ⟨s, hs, rfl⟩ := h3
        exact hs
      have hu : u ∈ kinds := by
        obtain ⟨s, hs, rfl⟩ := h4
        exact hs
      have st := ckE_star h6
      exact ok_plain rfl rfl (px_isi2 V ht hu (gl_of V h2) (V.blt _ (by decide)) (okE a S _ X c W V h6).1 (ty_ok V ht h5) (ty_ok V hu h7) (star_cons st) (star_cons rfl) (star_cons rfl) (star_cons rfl) rfl)
  | .meth m o es, S, e, X, c, W, V, h => by
    cases e <;> first | (simp [ckE] at h; done) | skip
    rename_i fn args kws p
    cases fn <;> first | (simp [ckE] at h; done) | skip
    cases kws <;> first | (simp [ckE] at h; done) | skip
    simp only [ckE, Bool.and_eq_true, decide_eq_true_eq] at h
    obtain ⟨⟨⟨⟨⟨⟨h1, rfl⟩, h3⟩, h4⟩, h5⟩, h6⟩, h7⟩ := h
    exact ok_plain rfl rfl (meth_ok V h1 h3 h4 h5 (ckEs_star h7) (okE o S _ X c W V h6).1 (okEs es S _ X c W V h7).1 fun z => by subst z; exact (denA_nil h7).1)
  | .lmeth m i es, S, e, X, c, W, V, h => by
    cases e <;> first | (simp [ckE] at h; done) | skip
    rename_i fn args kws p
    cases fn <;> first | (simp [ckE] at h; done) | skip
    rename_i o name apos
    cases o <;> first | (simp [ckE] at h; done) | skip
    cases kws <;> first | (simp [ckE] at h; done) | skip
    simp only [ckE, Bool.and_eq_true, decide_eq_true_eq] at h
    obtain ⟨⟨⟨⟨⟨⟨rfl, h2⟩, h3⟩, h4⟩, h5⟩, h6⟩, h7⟩ := h
    obtain ⟨d1, d2, _⟩ := nm_dbg h6
    exact ok_plain rfl rfl (lmeth_ok V h2 h3 rfl (ckEs_star h7) (pe_var (by rw [V.names]; exact h4) (by rw [V.scope]; exact vis_of h5) d1 d2) (okEs es S _ X c W V h7).2 fun z => by subst z; exact (denA_nil h7).2)
  | .lc own tg it cond el, S, e, X, c, W, V, h => by
    cases e <;> first | (simp [ckE] at h; done) | skip
    rename_i elt gs scope p
    match gs, h with
    | [⟨tgE, iter, ifs, as⟩], h =>
      simp only [ckE, Bool.and_eq_true, decide_eq_true_eq] at h
      obtain ⟨⟨⟨⟨⟨⟨⟨rfl, h2⟩, h3⟩, h4⟩, h5⟩, h6⟩, h7⟩, h8⟩ := h
      have L : LcOk X c C S scope tgE ifs elt tg (denC C cond) (den C el) :=
        ⟨fun s H Cl cl fp => tgB_ok (V.blk s H scope Cl cl fp c.tm) h6, fun s H Cl cl fp => (okO cond).2 _ ifs _ h7 (fun _ _ => trivial) c fun tm => V.blk s H scope Cl cl fp tm, fun s H Cl cl fp tm => (okE el _ elt _ _ WF (V.blk s H scope Cl cl fp tm) h8).1⟩
      have q := px_lc V (pos := p) (okI it S tgE iter X c W V h5) (blkB_ok V h2) L (by rw [own_snd]; exact inB_ok h4) (set_ok h3)
      rw [own_snd] at q
      exact ok_plain rfl rfl q
  | .lc2 .., S, e, X, c, W, V, h => by simp [ckE] at h
  | .told f, S, e, X, c, W, V, h => by
    cases e <;> first | (simp [ckE] at h; done) | skip
    rename_i fn args kws p
    cases fn <;> first | (simp [ckE] at h; done) | skip
    match args, kws, h with
    | [.Lambda params body scope lpos], [], h =>
      simp only [ckE, Bool.and_eq_true, decide_eq_true_eq] at h
      obtain ⟨⟨⟨⟨⟨rfl, h2⟩, h3⟩, h4⟩, h5⟩, h6⟩ := h
      refine ok_plain rfl rfl ?_
      show PX X c W _ (match C.Φ2 with
        | none => M.stuck
        | some Φ2 => fun ρ => toldV C.exc ρ ((dP f ⟨Φ2, C.Γ, C.ios, C.exc, none⟩).1 (hide ρ)))
      cases q : C.Φ2 with
      | none => exact ⟨fun pins s σ H Q I ⟨F, ρ, R, p⟩ => p.elim⟩
      | some Φ2 => exact px_told V h2 q (gl_of V h3) (by rw [V.scope]; exact LamX.lamS_by h4) (noArgs_ok h5) fun Y c2 W2 j V2 => (okE f _ body Y c2 W2 V2 h6).1
  | .dct kvs, S, e, X, c, W, V, h => by
    cases e <;> first | (simp [ckE] at h; done) | skip
    simp only [ckE, Bool.and_eq_true, decide_eq_true_eq, Bool.not_eq_true'] at h
    obtain ⟨⟨⟨h1, h2⟩, h3⟩, h4⟩ := h
    exact ok_plain rfl rfl (px_dct h1 (fun z => by subst z; cases h2) h3 h4)
  | .dget a i, S, e, X, c, W, V, h => by
    cases e <;> first | (simp [ckE] at h; done) | skip
    rename_i x y p
    match x, y, h with
    | .Call (.Name x _) [y] [] _, .Name z _, h =>
      simp only [ckE, Bool.and_eq_true, decide_eq_true_eq] at h
      obtain ⟨⟨⟨⟨⟨rfl, h2⟩, h3⟩, h4⟩, h5⟩, h6⟩ := h
      obtain ⟨d1, d2, _⟩ := nm_dbg h6
      exact ok_plain rfl rfl (px_dget V rfl (gl_of V h2) (okE a S _ X c W V h3).1 (star_cons (ckE_star h3)) (pe_var (by rw [V.names]; exact h4) (by rw [V.scope]; exact vis_of h5) d1 d2))
  | .callL f a b ds z, S, e, X, c, W, V, h => by
    cases e <;> first | (simp [ckE] at h; done) | skip
    rename_i fn args kws p
    cases fn <;> first | (simp [ckE] at h; done) | skip
    match args, kws, h with
    | [.Name n1 _, .Name n2 _, .List ces _, .Constant kk _ _], [], h =>
      simp only [ckE, slB, Bool.and_eq_true, decide_eq_true_eq] at h
      obtain ⟨⟨⟨⟨⟨⟨⟨rfl, h2⟩, h3⟩, h4⟩, ⟨⟨a1, a2⟩, a3⟩⟩, ⟨⟨b1, b2⟩, b3⟩⟩, h7⟩, h8⟩ := h
      obtain ⟨d1, d2, _⟩ := nm_dbg h4
      obtain ⟨d3, d4, _⟩ := nm_dbg a3
      obtain ⟨d5, d6, _⟩ := nm_dbg b3
      exact ok_plain rfl rfl (px_callL V h2 (gl_of V h3) d1 (pe_var (by rw [V.names]; exact a1) (by rw [V.scope]; exact vis_of a2) d3 d4) (pe_var (by rw [V.names]; exact b1) (by rw [V.scope]; exact vis_of b2) d5 d6) h7 h8)
theorem okEs {C : Cfg} {k : Nat} : ∀ me : MEs, OkEs C k me
  | .nil, S, es, X, c, W, V, h => by
    cases es <;> first | (simp [ckEs] at h; done) | skip
    exact ⟨pax_nil, pkx_nil⟩
  | .cons a as, S, es, X, c, W, V, h => by
    cases es <;> first | (simp [ckEs] at h; done) | skip
    simp only [ckEs, Bool.and_eq_true] at h
    obtain ⟨h1, _⟩ := okE a S _ X c W V h.1
    obtain ⟨h2, h3⟩ := okEs as S _ X c W V h.2
    exact ⟨pax_cons (star_cons (ckE_star h.1)) h1 h2, pkx_cons V (star_cons (ckE_star h.1)) h1 h3⟩
theorem okO {C : Cfg} {k : Nat} : ∀ me : MO, OkO C k me
  | .none => by
    refine ⟨fun S e X c W V h => ?_, fun S es X h _ c hV => ?_⟩
    · cases e <;> first | (simp [ckO] at h; done) | skip
      exact pox_none
    · cases es <;> first | (simp [ckC] at h; done) | skip
      exact ptsNone
  | .some a => by
    refine ⟨fun S e X c W V h => ?_, fun S es X h _ c hV => ?_⟩
    · cases e <;> first | (simp [ckO] at h; done) | skip
      exact pox_some (okE a S _ X c W V h).1
    · match es, h with
      | [e], h => exact ptsAny fun tm => (okE a S _ X _ WF (hV tm) h).2.1
theorem okI {C : Cfg} {k : Nat} : ∀ me : MI, OkI C k me
  | .ex a, S, tg, e, X, c, W, V, h => pix_ex V (okE a S _ X c W V h).1
  | .range es, S, tg, e, X, c, W, V, h => by
    cases e <;> first | (simp [ckI] at h; done) | skip
    rename_i fn args kws p
    cases fn <;> first | (simp [ckI] at h; done) | skip
    match args, kws, h with
    | [y], [], h =>
      simp only [ckI, Bool.and_eq_true, decide_eq_true_eq] at h
      obtain ⟨⟨rfl, h2⟩, h3⟩ := h
      have st := ckEs_star h3
      rw [List.all_cons, Bool.and_eq_true] at st
      exact pix_range V (gl_of V h2) (star_cons st.1) (okEs es S _ X c W V h3).2
  | .enum es, S, tg, e, X, c, W, V, h => by
    cases e <;> first | (simp [ckI] at h; done) | skip
    rename_i fn args kws p
    cases fn <;> first | (simp [ckI] at h; done) | skip
    match args, kws, h with
    | [y], [], h =>
      simp only [ckI, Bool.and_eq_true, decide_eq_true_eq] at h
      obtain ⟨⟨⟨h0, rfl⟩, h2⟩, h3⟩ := h
      cases tg <;> first | cases h0 | skip
      have st := ckEs_star h3
      rw [List.all_cons, Bool.and_eq_true] at st
      exact pix_enum V (gl_of V h2) (star_cons st.1) (okEs es S _ X c W V h3).2
  | .zip es, S, tg, e, X, c, W, V, h => by
    cases e <;> first | (simp [ckI] at h; done) | skip
    rename_i fn args kws p
    cases fn <;> first | (simp [ckI] at h; done) | skip
    match args, kws, h with
    | [y, z], [], h =>
      simp only [ckI, Bool.and_eq_true, decide_eq_true_eq] at h
      obtain ⟨⟨⟨h0, rfl⟩, h2⟩, h3⟩ := h
      cases tg <;> first | cases h0 | skip
      have st := ckEs_star h3
      rw [List.all_cons, Bool.and_eq_true] at st
      exact pix_zip V (gl_of V h2) (star_cons st.1) (star_any st.2) (okEs es S _ X c W V h3).2
end
end G
set_option maxHeartbeats 4000000
namespace G
open PySem PySem.Spec PyProof.Rows L2
def noComp : Expr → Bool
  | .ListComp .. | .SetComp .. | .DictComp .. => false
  | _ => true
def nameLine : Expr → Option (Str × Nat)
  | .Name x p => some (x, p.line)
  | _ => none
def parB (S : Sco) (is : List Nat) (ts vs : List Expr) : Bool :=
  vs.all noStar && !vs.all (foldedForSure 8) && !vs.all (constantsAlone 8) && decide (S.sc.kind = .function) && match is, ts, vs with
  | [i, j], [.Name x p, .Name y q], [_, _] => decide (S.N[i]? = some x) && decide (S.N[j]? = some y) && decide (i ≠ j) && decide (x ≠ y) && plB S x && plB S y && (q.line == p.line)
  | [i, j, l], [.Name x p, .Name y q, .Name z r], [_, _, _] => decide (S.N[i]? = some x) && decide (S.N[j]? = some y) && decide (S.N[l]? = some z) && decide (i ≠ j) && decide (i ≠ l) && decide (j ≠ l) && decide (x ≠ y) && decide (x ≠ z) && decide (y ≠ z) && plB S x && plB S y && plB S z && (q.line == p.line) && (r.line == p.line)
  | _, _, _ => false
def noSwap : Expr → Bool
  | .Tuple vs _ _ => vs.all (foldedForSure 8)
  | e => noComp e
def lcSw (S : Sco) (y : Str) (py : Pos) : Expr → Bool
  | .ListComp _ _ scope p => plB S y && (py.line == p.line) && decide (S.sc.kind = .function) && !(scope.names.any fun (n, k) => n == y && (k == .local || k == .cell))
  | _ => false
mutual
def ckS (S : Sco) : MS → Stmt → Bool
  | .asg i hold a, s => match s with
    | .Assign [.Name y py] v pos => tgN S i (.Name y py) && ckE S a v && (noComp v || lcSw S y py v)
    | _ => false
  | .asgT is a, s => match s with
    | .Assign [.Tuple ts n p] v pos => noSwap v && tgNs S is ts && ckE S a v
    | _ => false
  | .par is es, s => match s with
    | .Assign [.Tuple ts n p] (.Tuple vs m q) pos => parB S is ts vs && ckEs S es vs
    | _ => false
  | .setIx i k a, s => match s with
    | .Assign [.Subscript (.Name x _) ke tp] v pos => decide (S.N[i]? = some x) && visB S.sc x && nmOk x && noSlice ke && ckE S k ke && ckE S a v
    | _ => false
  | .setSl i lo hi a, s => match s with
    | .Assign [.Subscript (.Name x _) (.Slice (some l) (some h) none _) tp] v pos => decide (S.N[i]? = some x) && visB S.sc x && nmOk x && ckO S (.some lo) (some l) && ckO S (.some hi) (some h) && ckE S a v
    | _ => false
  | .ex a, s => match s with
    | .Expr v pos => noComp v && ckE S a v
    | _ => false
  | .ret a, s => match s with
    | .Return (some v) _ => ckE S a v
    | _ => false
  | .retN, s => match s with
    | .Return none _ => true
    | _ => false
  | .ite c a b, s => match s with
    | .If t x y _ => ckE S c t && ckB S a x && ckB S b y
    | _ => false
  | .for clear tg it body, s => match s with
    | .For tgE iter b [] _ => noSet iter && tgB S tg tgE && ckI S it tgE iter && ckB S body b
    | _ => false
  | .whl c body, s => match s with
    | .While t b [] _ => ckE S c t && ckB S body b
    | _ => false
  | .raise x, s => match s with
    | .Raise (some (.Call (.Name y _) [.Constant (.str _) _ _] [] _)) none _ => decide (y = x) && S.exc x && glB S.sc x && nmOk x
    | _ => false
  | .pass, s => match s with
    | .Pass _ => true
    | _ => false
  | .brk, s => match s with
    | .Break _ => true
    | _ => false
  | .cont, s => match s with
    | .Continue _ => true
    | _ => false
def ckB (S : Sco) : MSs → List Stmt → Bool
  | .nil, es => match es with
    | [] => true
    | _ => false
  | .cons a as, es => match es with
    | e :: es => ckS S a e && ckB S as es
    | _ => false
end
section
variable {X : Cx} {c : Fc} {W : WX} {C : Cfg} {S : Sco} {k : Nat} (V1 : Env1 X c W C S k)
include V1
theorem kind_of' {x : Str} : X.env.kindOf x = S.sc.names.lookup x := by
  show X.env.scope.names.lookup x = _
  rw [V1.scope]
theorem blk_fn (h : S.sc.kind = .function) : X.env.blockKind = .function := by
  have h : X.env.scope.kind = .function := by rw [V1.scope]; exact h
  unfold Env.blockKind
  rw [h]
  rfl
omit V1 in
theorem any_starN {vs : List Expr} {f : Expr → Bool} (h : vs.all noStar = true) (hf : ∀ e, noStar e = true → f e = false := by intro e he; cases e <;> first | rfl | cases he) : ¬ vs.any f = true := by
  intro z
  rw [List.any_eq_true] at z
  obtain ⟨e, he, z⟩ := z
  rw [hf e (List.all_eq_true.mp h e he)] at z
  cases z
theorem sw2 {x y : Str} {a b : Expr} {px py pt pt2 : Pos} {kt k2 : Nat} (h1 : [a, b].all noStar = true) (h2 : [a, b].all (foldedForSure 8) = false) (h3 : [a, b].all (constantsAlone 8) = false) (hk : S.sc.kind = .function) (hx : S.sc.names.lookup x = some .local) (hy : S.sc.names.lookup y = some .local) (hxy : x ≠ y) (hl : (py.line == px.line) = true) :
    swappedStores [.Tuple [.Name x px, .Name y py] kt pt] (.Tuple [a, b] k2 pt2) X.env = pure (some [x, y]) := by
  have e1 := blk_fn V1 hk
  have e2 : X.env.kindOf x = some .local := by rw [kind_of' V1]; exact hx
  have e3 : X.env.kindOf y = some .local := by rw [kind_of' V1]; exact hy
  have e4 : ([x, y].eraseDups.length != [x, y].length) = false := by
    have : (x == y) = false := by simpa using hxy
    have : (y == x) = false := by simpa using (Ne.symm hxy)
    simp [List.eraseDups, List.eraseDupsBy, List.eraseDupsBy.loop, *]
  unfold swappedStores
  simp only [e1, h2, h3, List.filterMap, e2, e3, List.head?, Option.map, Option.getD, Expr.pos, hl]
  simp only [beq_self_eq_true, Bool.true_and, if_true, e4]
  rw [if_neg (by simp), if_neg (any_starN h1)]
  rfl
theorem sw3 {x y z : Str} {a b d : Expr} {px py pz pt pt2 : Pos} {kt k2 : Nat} (h1 : [a, b, d].all noStar = true) (h2 : [a, b, d].all (foldedForSure 8) = false) (h3 : [a, b, d].all (constantsAlone 8) = false) (hk : S.sc.kind = .function) (hx : S.sc.names.lookup x = some .local) (hy : S.sc.names.lookup y = some .local) (hz : S.sc.names.lookup z = some .local)
    (hxy : x ≠ y) (hxz : x ≠ z) (hyz : y ≠ z) (hl : (py.line == px.line) = true) (hl2 : (pz.line == px.line) = true) :
    swappedStores [.Tuple [.Name x px, .Name y py, .Name z pz] kt pt] (.Tuple [a, b, d] k2 pt2) X.env = pure (some [x, y, z]) := by
  have e1 := blk_fn V1 hk
  have e2 : X.env.kindOf x = some .local := by rw [kind_of' V1]; exact hx
  have e3 : X.env.kindOf y = some .local := by rw [kind_of' V1]; exact hy
  have e5 : X.env.kindOf z = some .local := by rw [kind_of' V1]; exact hz
  have e4 : ([x, y, z].eraseDups.length != [x, y, z].length) = false := by
    have : (y == x) = false := by simpa using (Ne.symm hxy)
    have : (z == x) = false := by simpa using (Ne.symm hxz)
    have : (z == y) = false := by simpa using (Ne.symm hyz)
    simp [List.eraseDups, List.eraseDupsBy, List.eraseDupsBy.loop, *]
  unfold swappedStores
  simp only [e1, h2, h3, List.filterMap, e2, e3, e5, List.head?, Option.map, Option.getD, Expr.pos, hl, hl2]
  simp only [beq_self_eq_true, Bool.true_and, if_true, e4]
  rw [if_neg (by simp), if_neg (any_starN h1)]
  rfl
omit V1 in
theorem noSwap_ok {ts : List Expr} {n : Nat} {p : Pos} {v : Expr} {env : Env} (h : noSwap v = true) : swappedStores [.Tuple ts n p] v env = pure none := by
  cases v <;> first | rfl | (cases h; done) | skip
  rename_i vs m q
  have h : vs.all (foldedForSure 8) = true := h
  unfold swappedStores
  simp only [h]
  split
  · rfl
  · split
    · rfl
    · split
      · rfl
      · rfl
omit V1 in
theorem noComp_of {v : Expr} (h : noSwap v = true) : noComp v = true := by
  cases v <;> first | rfl | exact h
omit V1 in
theorem swapsF {v : Expr} {t : Option Expr} {l : Nat} {env : Env} (h : noComp v = true) : swapsWith v t l env = pure false := by
  cases v <;> first | rfl | cases h
omit V1 in
theorem swapsT {v : Expr} {o i : Expr} {p : Pos} {l : Nat} {env : Env} : swapsWith v (some (.Subscript o i p)) l env = pure false := by
  cases v <;> rfl
theorem psx_raise {x m : Str} {j : Nat} {p p2 pos pos' : Pos} (he : S.exc x = true) (hg : Gl X x) (hd : (x == ("__debug__" : Str)) = false) : PSX X c W (.Raise (some (.Call (.Name x p) [.Constant (.str m) j p2] [] pos)) none pos') (fun _ => .exc x none) := by
  obtain ⟨C, B, n1, n2, bm, F, g1, g2, g3, g4, g5⟩ := V1.exc x he
  refine psImp (L2N.ps_raise V1.calm V1.takes (L2N.pmk_own F g3 g1 g2 (raises_own g4 g5) hg hd)) fun D σ H ⟨F, ρ, R, p⟩ => ?_
  exact p (.ref C) none σ H F Mon.refl R.fr ⟨C, g1, rfl, rfl⟩
end
def OkS (C : Cfg) (k : Nat) (m : MS) : Prop := ∀ (S : Sco) (s : Stmt) (X : Cx) (c : Fc) (W : WX), Env1 X c W C S k → ckS S m s = true → PSX X c W s (denS C m)
def OkB (C : Cfg) (k : Nat) (m : MSs) : Prop := ∀ (S : Sco) (s : List Stmt) (X : Cx) (c : Fc) (W : WX), Env1 X c W C S k → ckB S m s = true → PBX X c W s (denB C m)
theorem okAsg {C : Cfg} {k : Nat} {S : Sco} {X : Cx} {c : Fc} {W : WX} {i : Nat} {hold : Bool} {a : ME} {y : Str} {py pos : Pos} {v : Expr} (V : Env1 X c W C S k) (h1 : noComp v = true) (h2 : tgN S i (.Name y py) = true) (h3 : ckE S a v = true) : PSX X c W (.Assign [.Name y py] v pos) (denS C (.asg i hold a)) := by
  simp only [tgN, Bool.and_eq_true, decide_eq_true_eq, locB, Bool.or_eq_true] at h2
  have hN : X.N[i]? = some y := by rw [V.names]; exact h2.1
  have he := (okE a S v X c W V h3).1
  refine psx_asg V ?_ fun σ H Q h => h
  rcases h2.2 with q | q
  · exact ps_set V.nd hN (.inl (by rw [V.scope]; exact q)) he (swapsF h1) (.inr (by rw [V.scope]; exact q))
  · exact ps_set V.nd hN (.inr (by rw [V.scope]; exact q.1)) he (swapsF h1) (.inl (V.fn y q.2))
mutual
theorem okS {C : Cfg} {k : Nat} : ∀ m : MS, OkS C k m
  | .asg i hold a, S, s, X, c, W, V, h => by
    cases s <;> first | (simp [ckS] at h; done) | skip
    rename_i ts v pos
    match ts, h with
    | [.Name y py], h =>
      simp only [ckS, Bool.and_eq_true, Bool.or_eq_true] at h
      obtain ⟨⟨hN, he⟩, hv⟩ := h
      rcases hv with hv | hv
      · exact okAsg V hv hN he
      · cases v <;> first | (cases hv; done) | skip
        rename_i elt gs scope p
        cases a <;> first | (simp [ckE] at he; done) | skip
        rename_i own tg it cond el
        match gs, he with
        | [⟨tgE, iter, ifs, as⟩], he =>
          simp only [ckE, Bool.and_eq_true, decide_eq_true_eq, tgN] at he hN
          simp only [lcSw, Bool.and_eq_true, decide_eq_true_eq, plB, Bool.not_eq_true'] at hv
          obtain ⟨⟨⟨⟨⟨⟨⟨rfl, h2⟩, h3⟩, h4⟩, h5⟩, h6⟩, h7⟩, h8⟩ := he
          obtain ⟨⟨⟨hp, hl⟩, hk⟩, ha⟩ := hv
          have L : LcOk X c C S scope tgE ifs elt tg (denC C cond) (den C el) :=
            ⟨fun s H Cl cl fp => tgB_ok (V.blk s H scope Cl cl fp c.tm) h6, fun s H Cl cl fp => (okO cond).2 _ ifs _ h7 (fun _ _ => trivial) c fun tm => V.blk s H scope Cl cl fp tm, fun s H Cl cl fp tm => (okE el _ elt _ _ WF (V.blk s H scope Cl cl fp tm) h8).1⟩
          have q := psx_lc V (pos := p) (py := py) (spos := pos) (hold := hold) (by rw [V.names]; exact hN.1) (by rw [V.scope]; exact hp) (sw_true (by rw [V.scope]; exact hk) (by rw [V.scope]; exact hp) hl ha) (okI it S tgE iter X c W V h5) (blkB_ok V h2) L (by rw [own_snd]; exact inB_ok h4) (set_ok h3)
          rw [own_snd] at q
          exact q
  | .asgT is a, S, s, X, c, W, V, h => by
    cases s <;> first | (simp [ckS] at h; done) | skip
    rename_i ts v pos
    match ts, h with
    | [.Tuple ts n p], h =>
      simp only [ckS, Bool.and_eq_true] at h
      obtain ⟨q1, q2, q3⟩ := tgNs_ok V h.1.2
      exact psx_asgT V (okE a S v X c W V h.2).1 (pgx_tup V.calm q1 q2 q3) (show swapsWith v (some (.Tuple ts n p)) pos.line X.env = pure false from swapsF (noComp_of h.1.1)) (noSwap_ok h.1.1) rfl
  | .par is es, S, s, X, c, W, V, h => by
    cases s <;> first | (simp [ckS] at h; done) | skip
    rename_i ts v pos
    match ts, v, h with
    | [.Tuple ts n p], .Tuple vs m q, h =>
      simp only [ckS, Bool.and_eq_true] at h
      obtain ⟨h1, h2⟩ := h
      have ha := (okEs es S vs X c W V h2).2
      unfold parB at h1
      simp only [Bool.and_eq_true, Bool.not_eq_true', decide_eq_true_eq] at h1
      obtain ⟨⟨⟨⟨s1, s2⟩, s3⟩, s4⟩, h1⟩ := h1
      split at h1
      · rename_i i j x px y py a b
        simp only [Bool.and_eq_true, decide_eq_true_eq, plB] at h1
        obtain ⟨⟨⟨⟨⟨⟨q1, q2⟩, q3⟩, q4⟩, q5⟩, q6⟩, q7⟩ := h1
        exact psx_par V (by rw [V.names]; exact q1) (by rw [V.names]; exact q2) q3 (by rw [V.scope]; exact q5) (by rw [V.scope]; exact q6) ha (sw2 V s1 s2 s3 s4 q5 q6 q4 q7) rfl
      · rename_i i j l x px y py z pz a b d
        simp only [Bool.and_eq_true, decide_eq_true_eq, plB] at h1
        obtain ⟨⟨⟨⟨⟨⟨⟨⟨⟨⟨⟨⟨⟨q1, q2⟩, q3⟩, q4⟩, q5⟩, q6⟩, q7⟩, q8⟩, q9⟩, r1⟩, r2⟩, r3⟩, r4⟩, r5⟩ := h1
        exact psx_par3 V (by rw [V.names]; exact q1) (by rw [V.names]; exact q2) (by rw [V.names]; exact q3) q4 q5 q6 (by rw [V.scope]; exact r1) (by rw [V.scope]; exact r2) (by rw [V.scope]; exact r3) ha (sw3 V s1 s2 s3 s4 r1 r2 r3 q7 q8 q9 r4 r5) rfl
      · cases h1
  | .setIx i kk a, S, s, X, c, W, V, h => by
    cases s <;> first | (simp [ckS] at h; done) | skip
    rename_i ts v pos
    match ts, h with
    | [.Subscript (.Name x xp) ke tp], h =>
      simp only [ckS, Bool.and_eq_true, decide_eq_true_eq] at h
      obtain ⟨⟨⟨⟨⟨h1, h2⟩, h3⟩, h4⟩, h5⟩, h6⟩ := h
      obtain ⟨d1, d2, _⟩ := nm_dbg h3
      exact psx_setIx V (pe_var (by rw [V.names]; exact h1) (by rw [V.scope]; exact vis_of h2) d1 d2) (okE kk S ke X c W V h5).1 (okE a S v X c W V h6).1 (fun v => by cases ke <;> first | rfl | cases h4) (show swapsWith v (some (.Subscript (.Name x xp) ke tp)) pos.line X.env = pure false from swapsT) rfl rfl
  | .setSl i lo hi a, S, s, X, c, W, V, h => by
    cases s <;> first | (simp [ckS] at h; done) | skip
    rename_i ts v pos
    match ts, h with
    | [.Subscript (.Name x xp) (.Slice (some l) (some u) none p2) tp], h =>
      simp only [ckS, Bool.and_eq_true, decide_eq_true_eq] at h
      obtain ⟨⟨⟨⟨⟨h1, h2⟩, h3⟩, h4⟩, h5⟩, h6⟩ := h
      obtain ⟨d1, d2, _⟩ := nm_dbg h3
      exact psx_setSl V (pe_var (by rw [V.names]; exact h1) (by rw [V.scope]; exact vis_of h2) d1 d2) ((okO (.some lo)).1 S (some l) X c W V h4) ((okO (.some hi)).1 S (some u) X c W V h5) (okE a S v X c W V h6).1 (fun v => rfl) (show swapsWith v (some (.Subscript (.Name x xp) (.Slice (some l) (some u) none p2) tp)) pos.line X.env = pure false from swapsT) rfl rfl
  | .ex a, S, s, X, c, W, V, h => by
    cases s <;> first | (simp [ckS] at h; done) | skip
    simp only [ckS, Bool.and_eq_true] at h
    exact psx_ex (okE a S _ X c W V h.2).1 (swapsF h.1)
  | .ret a, S, s, X, c, W, V, h => by
    cases s <;> first | (simp [ckS] at h; done) | skip
    rename_i v pos
    cases v <;> first | (simp [ckS] at h; done) | skip
    exact psx_ret V (okE a S _ X c W V h).1
  | .retN, S, s, X, c, W, V, h => by
    cases s <;> first | (simp [ckS] at h; done) | skip
    rename_i v pos
    cases v <;> first | (simp [ckS] at h; done) | skip
    exact psx_retN
  | .ite t a b, S, s, X, c, W, V, h => by
    cases s <;> first | (simp [ckS] at h; done) | skip
    simp only [ckS, Bool.and_eq_true] at h
    exact psx_ite (okE t S _ X c W V h.1.1).2.1 (okB a S _ X c W V h.1.2) (okB b S _ X c W V h.2)
  | .for clear tg it body, S, s, X, c, W, V, h => by
    cases s <;> first | (simp [ckS] at h; done) | skip
    rename_i tgE iter b oe pos
    cases oe <;> first | (simp [ckS] at h; done) | skip
    simp only [ckS, Bool.and_eq_true] at h
    exact psx_for V (okI it S tgE iter X c W V h.1.2) (tgB_ok V h.1.1.2) (okB body S b X c W V h.2) (set_ok h.1.1.1)
  | .whl t body, S, s, X, c, W, V, h => by
    cases s <;> first | (simp [ckS] at h; done) | skip
    rename_i te b oe pos
    cases oe <;> first | (simp [ckS] at h; done) | skip
    simp only [ckS, Bool.and_eq_true] at h
    exact psx_whl V (okE t S _ X c W V h.1).2.1 (okB body S b X c W V h.2)
  | .raise x, S, s, X, c, W, V, h => by
    cases s <;> first | (simp [ckS] at h; done) | skip
    rename_i e cs pos
    match e, cs, h with
    | some (.Call (.Name y _) [.Constant (.str _) _ _] [] _), none, h =>
      simp only [ckS, Bool.and_eq_true, decide_eq_true_eq] at h
      obtain ⟨⟨⟨rfl, h2⟩, h3⟩, h4⟩ := h
      exact psx_raise V h2 (gl_of V h3) (nm_dbg h4).1
  | .pass, S, s, X, c, W, V, h => by
    cases s <;> first | (simp [ckS] at h; done) | skip
    exact psx_pass
  | .brk, S, s, X, c, W, V, h => by
    cases s <;> first | (simp [ckS] at h; done) | skip
    exact psx_brk
  | .cont, S, s, X, c, W, V, h => by
    cases s <;> first | (simp [ckS] at h; done) | skip
    exact psx_cont
theorem okB {C : Cfg} {k : Nat} : ∀ m : MSs, OkB C k m
  | .nil, S, es, X, c, W, V, h => by
    cases es <;> first | (simp [ckB] at h; done) | skip
    exact pbx_nil
  | .cons a as, S, es, X, c, W, V, h => by
    cases es <;> first | (simp [ckB] at h; done) | skip
    simp only [ckB, Bool.and_eq_true] at h
    exact pbx_cons rfl (fun fl hf => by cases fl <;> first | rfl | exact absurd rfl hf) (okS a S _ X c W V h.1) (okB as S _ X c W V h.2)
end
end G
set_option maxHeartbeats 4000000
namespace G
open PySem PySem.Spec PyProof.Rows L2
structure DefS (K : PySem.W.Frag) (mg : Str → Option Value) (base : Heap) (pres exc : Str → Bool) (tb : List (Addr × Str)) (x : Str) (f : MF) : Prop where
  ex : ∃ (a : Addr) (fd : FuncData) (st : Stmt) (ps N : List Str) (told : Bool), (told = true → LamAt base mg fd.code (x ++ ".<locals>.") tb) ∧ mg x = some (.ref a) ∧ L2.Fun K x x st a fd ∧ L2.Binds K fd ps [] ∧ FnScope N ps (defScope st) ∧ f.np = ps.length ∧ f.nn = N.length ∧
    ckB ⟨N, defScope st, pres, exc, fun _ => true, tb, told⟩ f.body (defBody st) = true
theorem ios_io {K : PySem.W.Frag} {mg : Str → Option Value} {H : Hp} {F : Fz} : ∀ {vs : List V} {cs : List Cell} (k : Nat), Paired (AR K mg H F) vs cs → iosOf cs k = (ioOf vs cs k).map (·.1)
  | _, _, _, .nil => rfl
  | v :: vs, .val d :: cs, k, .cons a b => by
    have : ioOf (v :: vs) (.val d :: cs) k = ioOf vs cs (k + 1) := by cases v <;> rfl
    rw [this]
    exact ios_io (k + 1) b
  | v :: vs, .own ds :: cs, k, .cons a b => by
    obtain ⟨ad, xs, rfl, _⟩ := a
    show k :: iosOf cs (k + 1) = k :: (ioOf vs cs (k + 1)).map (·.1)
    rw [ios_io (k + 1) b]
theorem paired_get {α β : Type} {R : α → β → Prop} : ∀ {xs : List α} {ys : List β} {i : Nat} {y : β}, Paired R xs ys → ys[i]? = some y → ∃ x, xs[i]? = some x ∧ R x y
  | _, _, _, _, .nil, e => by simp at e
  | _, _, 0, _, .cons a _, e => by simp at e; subst e; exact ⟨_, rfl, a⟩
  | _, _, i + 1, y, .cons _ b, e => by
    obtain ⟨x, h1, h2⟩ := paired_get (i := i) b (by simpa using e)
    exact ⟨x, by simpa using h1, h2⟩
theorem paired_len {α β : Type} {R : α → β → Prop} : ∀ {xs : List α} {ys : List β}, Paired R xs ys → xs.length = ys.length
  | _, _, .nil => rfl
  | _, _, .cons _ b => congrArg (· + 1) (paired_len b)
section
variable {K : PySem.W.Frag} {mg : Str → Option Value} {H : Hp} {F : Fz} {N : List Str} {vs : List V} {cs : List Cell}
theorem start_get {i : Nat} {v : V} (h : vs[i]? = some v) : (L2.start N vs)[i]? = some (some v) := by
  unfold L2.start
  have hi := (List.getElem?_eq_some_iff.mp h).1
  rw [List.getElem?_append_left (by simpa using hi), List.getElem?_map, h]
  rfl
theorem rho_get {n i : Nat} {x : Cell} (h : (cs.map some ++ List.replicate n none)[i]? = some (some x)) : cs[i]? = some x := by
  by_cases hi : i < cs.length
  · rw [List.getElem?_append_left (by simpa using hi), List.getElem?_map] at h
    cases e : cs[i]? with
    | none => rw [e] at h; cases h
    | some y => rw [e] at h; cases h; rfl
  · rw [List.getElem?_append_right (by simpa using hi), List.getElem?_replicate] at h
    split at h <;> cases h
theorem rel_start {tb : List (Addr × Str)} (fl : ∀ a, F a → ∃ xs, H a = some (.lst xs)) (hp : Paired (AR K mg H F) vs cs)
    (dis : ∀ (i j : Nat) (a : Addr) (xs ys : List D), cs[i]? = some (.own xs) → cs[j]? = some (.own ys) → vs[i]? = some (.ref a) → vs[j]? = some (.ref a) → i = j) (hn : cs.length ≤ N.length) :
    Rel K mg ⟨H, F, ioOf vs cs 0, [], tb⟩ (L2.start N vs) H F (cs.map some ++ List.replicate (N.length - cs.length) none) := by
  have hl := paired_len hp
  have own : ∀ {i : Nat} {xs : List D}, (cs.map some ++ List.replicate (N.length - cs.length) none)[i]? = some (some (.own xs)) → cs[i]? = some (.own xs) ∧ ∀ a, (L2.start N vs)[i]? = some (some (.ref a)) → vs[i]? = some (.ref a) := fun {i xs} e => by
    have h1 := rho_get e
    obtain ⟨v, h2, h3⟩ := paired_get hp h1
    refine ⟨h1, fun a q => ?_⟩
    rw [start_get h2] at q
    cases q
    exact h2
  refine ⟨⟨fun a o h _ _ => h, fun a h => h, fun t => t, fun a h => h, fun a h => .inl h, fl⟩, ?_, fun i x e => ?_, fun i j a xs ys e1 e2 e3 e4 => ?_, fun p hp => by cases hp⟩
  · unfold L2.start
    simp
    omega
  · have h1 := rho_get e
    obtain ⟨v, h2, h3⟩ := paired_get hp h1
    refine ⟨v, start_get h2, ?_⟩
    cases x with
    | val d => exact h3
    | own ds =>
      obtain ⟨a, xs, rfl, g1, g2, g3⟩ := h3
      have := ioOf_mem (k := 0) h2 h1
      rw [Nat.zero_add] at this
      exact ⟨a, xs, rfl, g1, g2, g3, .inl this⟩
  · obtain ⟨h1, h2⟩ := own e1
    obtain ⟨h3, h4⟩ := own e2
    exact dis i j a xs ys h1 h3 (h2 a e3) (h4 a e4)
theorem outs_ok {c : Fc} {σ : L2.St} {H' : Hp} {F' : Fz} {ρ : Rho} (R : Rel K mg c σ H' F' ρ) : ∀ {ws : List V} {ds : List Cell} {os : List (List D)} (k : Nat), Paired (AR K mg H F) ws ds →
    (∀ (j : Nat) (a : Addr) (xs : List D), ds[j]? = some (.own xs) → (k + j, a) ∈ c.io → ws[j]? = some (.ref a)) → (∀ (j : Nat) (xs : List D), ds[j]? = some (.own xs) → ∃ p ∈ c.io, p.1 = k + j) → outs ds k ρ = some os → OutsR K mg H' F' ws ds os
  | _, _, os, _, .nil, _, _, e => by
    cases e
    trivial
  | w :: ws, .val d :: ds, os, k, .cons a b, h1, h2, e => by
    show OutsR K mg H' F' ws ds os
    exact outs_ok R (k + 1) b (fun j a xs e1 e2 => by
      have := h1 (j + 1) a xs (by simpa using e1) (by rw [show k + (j + 1) = k + 1 + j by omega]; exact e2)
      simpa using this) (fun j xs e1 => by
      obtain ⟨p, h3, h4⟩ := h2 (j + 1) xs (by simpa using e1)
      exact ⟨p, h3, by omega⟩) e
  | w :: ws, .own us :: ds, os, k, .cons a b, h1, h2, e => by
    unfold outs at e
    split at e
    · rename_i zs hz
      obtain ⟨os', e1, rfl⟩ := Option.map_eq_some_iff.mp e
      refine ⟨?_, outs_ok R (k + 1) b (fun j a xs e1 e2 => by
        have := h1 (j + 1) a xs (by simpa using e1) (by rw [show k + (j + 1) = k + 1 + j by omega]; exact e2)
        simpa using this) (fun j xs e1 => by
        obtain ⟨p, h3, h4⟩ := h2 (j + 1) xs (by simpa using e1)
        exact ⟨p, h3, by omega⟩) e1⟩
      obtain ⟨v, _, ad, xs, rfl, g1, g2, g3, g4⟩ := R.cel k _ hz
      rcases g4 with g4 | g4
      · have := h1 0 ad us rfl g4
        simp only [List.getElem?_cons_zero, Option.some.injEq] at this
        exact ⟨ad, xs, this, g1, g2⟩
      · obtain ⟨p, h3, h4⟩ := h2 0 us rfl
        exact absurd h4 (g4.2 p h3)
    · cases e
end
section
variable {P : Program} {w : World} {K : PySem.W.Frag} {mg : Str → Option Value} {base : Heap} {T : Str → Option MF} {Γ : Str → Option D} {pres exc : Str → Bool} {tb : List (Addr × Str)}
theorem spOf_len {Φ : Str → FM} {Φ2 : Option (Str → FM)} {f : MF} {vs : List V} {H : Hp} {Q : VK} {E : XK} (h : spOf K mg tb (denF Φ Φ2 Γ exc f) vs H Q E) : vs.length = f.np := by
  obtain ⟨F, cs, _, _, hp, _, p⟩ := h
  rw [paired_len hp]
  by_cases hl : cs.length = f.np
  · exact hl
  · unfold denF at p
    rw [if_neg hl] at p
    exact p.elim
theorem fun_okN {x qual : Str} {st : Stmt} {f : Addr} {fd : FuncData} {N ps : List Str} {k : Nat} {sp : Sp} (Fn : L2.Fun K x qual st f fd) (S : FnScope N ps (defScope st)) (len : ∀ vs H Q E, sp vs H Q E → vs.length = ps.length)
    (body : ∀ (cd : Value) (A : Around) (outer : List Env) (s : Shared) (H : Hp) (vs : List V) (Q : VK) (E : XK), fd.code = cd → Room k (A.deeper (envOfC qual (defScope st) s.heap.objs.size f cd)) → sp vs H Q E →
      ∃ t, PSs (cxOf (L2N.CX P w) P w K mg base N qual (defScope st) f cd A outer s H E) (defBody st) t ∧ t { nx := fun _ H' => Q .non H', rt := Q } (L2.start N vs) H) : FnOk P w K mg base (L2N.CX P w) (k + 1) f fd ps sp := by
  obtain ⟨c1, c2, c3, c4, c5, c6, c7, c8, c9, rfl, q1, q2⟩ := Fn.ex
  exact fn_of q1 q2 S len fun A outer s H vs Q E r p => body c7 A outer s H vs Q E rfl r p
theorem fnS_zero {x : Str} {f : MF} (D : DefS K mg base pres exc tb x f) : FnS P w K mg base tb 0 x (fun _ => .stuck) := by
  obtain ⟨a, fd, st, ps, N, told, h0, h1, h2, h3, h4, h5, h6, h7⟩ := D.ex
  exact ⟨a, fd, ps, h1, h2.kp, h3, ⟨fun vs H Q E h => by obtain ⟨_, _, _, _, _, _, p⟩ := h; exact p.elim, fun A outer s H args us vs Q E _ _ _ _ h => by obtain ⟨_, _, _, _, _, _, p⟩ := h; exact p.elim⟩⟩
theorem fnOk_succ {k : Nat} {x : Str} {f : MF} {a : Addr} {fd : FuncData} {st : Stmt} {ps N : List Str} {told : Bool} (h0 : told = true → LamAt base mg fd.code (x ++ ".<locals>.") tb) (h2 : L2.Fun K x x st a fd) (h4 : FnScope N ps (defScope st)) (h5 : f.np = ps.length) (h6 : f.nn = N.length)
    (h7 : ckB ⟨N, defScope st, pres, exc, fun _ => true, tb, told⟩ f.body (defBody st) = true) (Φ : Str → FM) (Φ2 : Option (Str → FM)) (hlow : ∀ Ψ, Φ2 = some Ψ → ∃ j, k = j + 2 ∧ ∀ y, pres y = true → FnS P w K mg base tb j y (Ψ y)) (hf : ∀ y, pres y = true → FnS P w K mg base tb k y (Φ y)) (ht : told = true → ToldR P w K mg base exc) (hc : ∀ y d, Γ y = some d → CstW w K mg y d) (hb : ∀ y ∈ bltNames, mg y = none) (he : ∀ y, exc y = true → ExcS K mg y) :
    FnOk P w K mg base (L2N.CX P w) (k + 1) a fd ps (spOf K mg tb (denF Φ Φ2 Γ exc f)) := by
  refine fun_okN h2 h4 (fun vs H Q E h => by rw [spOf_len h, h5]) fun cdv A outer s H vs Q E hcd hr hsp => ?_
  obtain ⟨F, cs, fl, ht', hp, dis, p⟩ := hsp
  have hl : cs.length = f.np := by
    have := spOf_len (tb := tb) (Q := Q) (E := E) ⟨F, cs, fl, ht', hp, dis, p⟩
    rw [← paired_len hp]; exact this
  have hn : cs.length ≤ N.length := by
    rw [hl, h5, ← h4.pre, List.length_take]
    omega
  let X := cxOf (L2N.CX P w) P w K mg base N x (defScope st) a cdv A outer s H E
  let c : Fc := ⟨H, F, ioOf vs cs 0, [], tb⟩
  let W : WX := fun cls d _ H' => E cls d H'
  let C : Cfg := ⟨Φ, Γ, iosOf cs 0, exc, Φ2⟩
  let S : Sco := ⟨N, defScope st, pres, exc, fun _ => true, tb, told⟩
  have hlam : told = true → LamAt base mg cdv (x ++ ".<locals>.") tb := fun z => hcd ▸ h0 z
  have hio : ∀ p ∈ c.io, p.1 ∈ C.ios := fun p hp' => by
    show p.1 ∈ iosOf cs 0
    rw [ios_io 0 hp]
    exact List.mem_map.mpr ⟨p, hp', rfl⟩
  have V : Env1 X c W C S k := ⟨rfl, h4.nd, rfl, rfl, L2N.takes_of rfl rfl rfl rfl, passes_of rfl, hr, hio, hf, hc, hb, he, fun _ _ => rfl, ht', rfl, hlow, fun _ z => z, fun _ => ⟨rfl, rfl⟩, fun z => ⟨ht z, hlam z⟩⟩
  refine ⟨_, okB f.body S _ X c W V h7, F, _, rel_start fl hp dis hn, ?_⟩
  unfold denF at p
  rw [if_pos hl] at p
  have e0 : f.nn - f.np = N.length - cs.length := by rw [h6, hl]
  rw [e0] at p
  show PostS K mg c W _ H F (denB C f.body (cs.map some ++ List.replicate (N.length - cs.length) none))
  have io1 : ∀ (j : Nat) (a : Addr) (xs : List G.D), cs[j]? = some (.own xs) → (0 + j, a) ∈ c.io → vs[j]? = some (.ref a) := fun j a xs e1 e2 => by
    obtain ⟨j', ds, g1, g2, g3⟩ := mem_ioOf e2
    have : j' = j := by simp at g1; omega
    subst this
    exact g2
  have io2 : ∀ (j : Nat) (xs : List G.D), cs[j]? = some (.own xs) → ∃ p ∈ c.io, p.1 = 0 + j := fun j xs e => by
    obtain ⟨v, g1, ad, us, rfl, _⟩ := paired_get hp e
    exact ⟨_, ioOf_mem (k := 0) g1 e, rfl⟩
  cases hd : denB C f.body (cs.map some ++ List.replicate (N.length - cs.length) none) with
  | stuck =>
    have p : PostF K mg tb H F vs cs Q E (match denB C f.body (cs.map some ++ List.replicate (N.length - cs.length) none) with
      | .ok (fl, ρ) => match outs cs 0 ρ, fl with
        | some os, .rt v => .ok (v, os)
        | some os, .nx => .ok (.val .none, os)
        | _, _ => .stuck
      | .exc e l => .exc e l
      | .stuck => .stuck) := p
    rw [hd] at p
    exact p
  | exc e l =>
    have p : PostF K mg tb H F vs cs Q E (match denB C f.body (cs.map some ++ List.replicate (N.length - cs.length) none) with
      | .ok (fl, ρ) => match outs cs 0 ρ, fl with
        | some os, .rt v => .ok (v, os)
        | some os, .nx => .ok (.val .none, os)
        | _, _ => .stuck
      | .exc e l => .exc e l
      | .stuck => .stuck) := p
    rw [hd] at p
    exact fun cls d σ' H' F' _ fr x => p cls d H' F' fr x
  | ok q =>
    obtain ⟨fl', ρ'⟩ := q
    have p : PostF K mg tb H F vs cs Q E (match denB C f.body (cs.map some ++ List.replicate (N.length - cs.length) none) with
      | .ok (fl, ρ) => match outs cs 0 ρ, fl with
        | some os, .rt v => .ok (v, os)
        | some os, .nx => .ok (.val .none, os)
        | _, _ => .stuck
      | .exc e l => .exc e l
      | .stuck => .stuck) := p
    rw [hd] at p
    dsimp only at p
    intro σ' H' F' m R
    cases ho : outs cs 0 ρ' with
    | none => rw [ho] at p; exact p.elim
    | some os =>
      rw [ho] at p
      have hO := outs_ok R 0 hp io1 io2 ho
      cases fl' with
      | nx => exact p .non H' F' R.fr hO .non
      | bk => exact p.elim
      | ct => exact p.elim
      | rt r =>
        intro v hv
        refine p v H' F' R.fr hO ?_
        cases r with
        | val d => exact hv
        | fresh ds =>
          obtain ⟨ad, xs, rfl, g1, g2, g3, g4, _⟩ := hv
          exact ⟨ad, xs, rfl, g1, g2, g3, g4⟩
theorem fnS_succ {k : Nat} {x : Str} {f : MF} (D : DefS K mg base pres exc tb x f) (Φ : Str → FM) (Φ2 : Option (Str → FM)) (hlow : ∀ Ψ, Φ2 = some Ψ → ∃ j, k = j + 2 ∧ ∀ y, pres y = true → FnS P w K mg base tb j y (Ψ y)) (hf : ∀ y, pres y = true → FnS P w K mg base tb k y (Φ y)) (ht : ToldR P w K mg base exc ∨ tb = []) (hc : ∀ y d, Γ y = some d → CstW w K mg y d) (hb : ∀ y ∈ bltNames, mg y = none) (he : ∀ y, exc y = true → ExcS K mg y) :
    FnS P w K mg base tb (k + 1) x (denF Φ Φ2 Γ exc f) := by
  obtain ⟨a, fd, st, ps, N, told, h0, h1, h2, h3, h4, h5, h6, h7⟩ := D.ex
  refine ⟨a, fd, ps, h1, h2.kp, h3, fnOk_succ h0 h2 h4 h5 h6 h7 Φ Φ2 hlow hf (fun z => ht.elim id fun e => ?_) hc hb he⟩
  obtain ⟨cA, P', _, _, hm, _⟩ := h0 z
  rw [e] at hm
  cases hm
theorem fnS_all (hD : ∀ y, pres y = true → ∃ f, T y = some f ∧ DefS K mg base pres exc tb y f) (ht : ToldR P w K mg base exc ∨ tb = []) (hc : ∀ y d, Γ y = some d → CstW w K mg y d) (hb : ∀ y ∈ bltNames, mg y = none) (he : ∀ y, exc y = true → ExcS K mg y) :
    ∀ (k : Nat) (y : Str), pres y = true → FnS P w K mg base tb k y (Phi T Γ exc k y) := by
  intro k
  induction k using Nat.strongRecOn with
  | ind k ih =>
    intro y hy
    obtain ⟨f, e, d⟩ := hD y hy
    cases k with
    | zero => exact fnS_zero d
    | succ k =>
      rw [Phi_succ e]
      exact fnS_succ d _ _ (fun Ψ h => by
        obtain ⟨j, e1, e2⟩ := Phi2_low h
        exact ⟨j, e1, fun z hz => by rw [e2]; exact ih j (by omega) z hz⟩) (ih k (Nat.lt_succ_self k)) ht hc hb he
end
end G
set_option maxHeartbeats 4000000
namespace G
open PySem PySem.Spec PyProof.Rows L2 HotX L2H
section
variable {prog : Program} {w : World} {A : Around} {E : Value → Shared → Prop} {s : Shared}
theorem nextOf_end_hot {it l x1 : Addr} {i : Nat} {items : Array Value} {Q : Value → Shared → Prop} (hot : HotAt A x1 s.heap) (ti : s.heap.IsListIter it l i) (tl : s.heap.IsList l items) (tx : items[i]? = none) (ne : x1 ≠ it)
    (k : ∀ h' e, (∀ b o, b ≠ it → s.heap.get? b = some o → h'.get? b = some o) → (∃ o, h'.get? e = some o ∧ o.cls = .type "StopIteration") → E (.ref e) { s with heap := h' }) : wpAny (model prog w) A (Builtin.SmallTypes.nextOf (.ref it)) Q E s := by
  obtain ⟨o, g1, g2, g3⟩ := id ti
  obtain ⟨ol, g4, _, nl, g5⟩ := tl
  obtain ⟨hh, o1, vs1, q1, q2, q3⟩ := hot
  unfold Builtin.SmallTypes.nextOf
  refine wpAny_bind (wpAny_callSpecial?_slot (name := Str.ofString "__next__") ti.typeIs slot_listiter_next (wpAny_call_entry slot_listiter_next ti.typeIs entry_listiter_next ?_ (args_listiter_next _)))
  show wpAny (model prog w) _ (field (.ref it) 0 >>= _) _ _ s
  refine wpAny_bind (wpAny_field g1 g3 (x := .ref l) rfl ?_)
  show wpAny (model prog w) _ (if (Value.ref l == Value.none) = true then _ else _) _ _ s
  rw [if_neg (show ¬ ((Value.ref l == Value.none) = true) from fun z => Bool.noConfusion z)]
  show wpAny (model prog w) _ (field (.ref it) 1 >>= _) _ _ s
  refine wpAny_bind (wpAny_field g1 g3 (x := .int i 0) rfl ?_)
  show wpAny (model prog w) _ (seqItems? (.ref l) >>= _) _ _ s
  refine wpAny_bind (wpAny_seqItems g4 g5 ?_)
  simp only [Int.toNat_natCast, tx]
  refine wpAny_bind (wpAny_rule (wpAny_bind (wpAny_setField g1 g3 (by simp) ?_)))
  show wpAny (model prog w) _ (newExc (.type "StopIteration") [] >>= _) _ _ _
  refine wpAny_bind ?_
  simp only [newExc, newTuple]
  refine wpAny_bind (wpAny_newObj_type ?_ (by size_fits))
  refine wpAny_bind (m := firstArgMember _ _) (wpAny_of_eq (a := Value.none) (by first | rfl | (simp only [firstArgMember]; rfl)) ?_)
  refine wpAny_newObj_type ?_ (by size_fits)
  have base : ∀ (b : Addr) (ob : Obj), b ≠ it → s.heap.get? b = some ob → ∀ f : Obj → Obj, (s.heap.update it f).get? b = some ob := fun b ob n z f => by
    rw [Heap.get?_update_other _ _ (Ne.symm n)]; exact z
  refine raiseNew_hot (x1 := x1) ⟨hh, o1, vs1, Heap.get?_push_of_some _ (Heap.get?_push_of_some _ (base x1 o1 ne q1 _)), q2, q3⟩ (Nat.ne_of_lt (Heap.lt_size (Heap.get?_push_of_some _ (base x1 o1 ne q1 _)))) (Heap.get?_push_size _ rfl) rfl (by first | (simp; done) | (simp; omega)) ?_
  refine k _ _ (fun b ob n z => ?_) ⟨_, Heap.get?_update_self _ (Heap.get?_push_size _ rfl) rfl, rfl⟩
  rw [Heap.get?_update_other _ _ (Nat.ne_of_gt (Heap.lt_size (Heap.get?_push_of_some _ (base b ob n z _))))]
  exact Heap.get?_push_of_some _ (Heap.get?_push_of_some _ (base b ob n z _))
theorem pyNext_zip_hot {z TI TO i1 i2 l1 l2 x1 : Addr} {k1 : Nat} {xs : Array Value} {Q : Option Value → Shared → Prop} (hot : HotAt A x1 s.heap) (D : ZipApart z TI TO i1 i2 l1 l2) (nz : x1 ≠ z) (n1 : x1 ≠ i1)
    (tz : IsZip s.heap z TI TO .none) (ti : IsPair s.heap TI (.ref i1) (.ref i2)) (t1 : s.heap.IsListIter i1 l1 k1) (tl : s.heap.IsList l1 xs) (tx : xs[k1]? = none)
    (q : ∀ h', (∀ c o, c ≠ z → c ≠ i1 → s.heap.get? c = some o → h'.get? c = some o) → Q none { s with heap := h' }) : wpAny (model prog w) A (pyNext (.ref z)) Q E s := by
  have tT : s.TypeIs (.ref z) "zip" := ⟨_, tz, rfl⟩
  unfold pyNext
  refine wpAny_bind (wpAny_attempt (wpAny_callSpecial?_slot (name := Str.ofString "__next__") tT F.slot_zip_next (wpAny_call_entry F.slot_zip_next tT F.entry_zip_next ?_ (F.args_zip_next_1 _))))
  show wpAny (model prog w) _ (field (.ref z) 2 >>= _) _ _ s
  refine wpAny_bind (wpAny_field tz rfl (x := .bool false) rfl ?_)
  show wpAny (model prog w) _ (field (.ref z) 3 >>= _) _ _ s
  refine wpAny_bind (wpAny_field tz rfl (x := .ref TI) rfl ?_)
  refine wpAny_bind (wpAny_seqItems ti rfl ?_)
  show wpAny (model prog w) _ (Builtin.SmallTypes.ownedTupleIsFree (.ref z) >>= _) _ _ s
  refine wpAny_bind ?_
  unfold Builtin.SmallTypes.ownedTupleIsFree
  refine wpAny_bind (wpAny_field tz rfl (x := .none) rfl (wpAny_pure ?_))
  simp only [if_true]
  refine wpAny_bind (wpAny_rule ?_)
  refine wpAny_bind (wpAny_field tz rfl (x := .ref TO) rfl ?_)
  refine wpAny_bind (wpAny_setField_rec tz (by simp) fun h1 tz1 sb1 => ?_)
  have tz1 : IsZip h1 z TI TO .ellipsis := tz1
  refine wpAny_bind ?_
  simp only [List.zipIdx_cons, List.zipIdx_nil, List.forIn_cons, List.forIn_nil]
  refine wpAny_bind (wpAny_bind (wpAny_onRaise ?_))
  show wpAny (model prog w) _ (Builtin.SmallTypes.nextOf (.ref i1) >>= _) _ _ _
  obtain ⟨hh, o1, vs1, q1, q2, q3⟩ := hot
  refine wpAny_bind (nextOf_end_hot (x1 := x1) ⟨hh, o1, vs1, sb1.extBut _ _ nz q1, q2, q3⟩ (t1.extBut sb1.extBut D.i1z) (tl.extBut sb1.extBut D.l1z) tx n1 fun h2 e kp he => ?_)
  obtain ⟨oe, e1, e2⟩ := he
  have tz2 : IsZip h2 z TI TO .ellipsis := kp _ _ D.i1z.symm tz1
  have ez : e ≠ z := fun x => by
    subst x
    rw [tz2] at e1
    cases e1
    simp at e2
  refine wpAny_setField_rec tz2 (by simp) fun h3 _ sb3 => ?_
  refine wpAny_bind (wpAny_isInstance (T := "StopIteration") (b := true) ⟨oe, sb3.extBut _ _ ez e1, e2⟩ isSubtype_stop ?_)
  exact wpAny_pure (q h3 fun c o c1 c2 x => sb3.extBut _ _ c1 (kp _ _ c2 (sb1.extBut _ _ c1 x)))
end
def ItzH (K : PySem.W.Frag) (a b : Addr) : It := ⟨(Itz K a b).go, (Itz K a b).yld, fun i H => (∃ xs : List V, SqL K H a xs ∧ xs.length ≤ i) ∧ ∃ ys : List V, SqL K H b ys⟩
theorem turn_zipH {P : Program} {w : World} {K : PySem.W.Frag} {es : List Expr} {n : Nat} {p : Pos} {a b z TI TO i1 i2 : Addr} (D : ZipApart z TI TO i1 i2 a b) :
    TurnH P w K (.Tuple es n p) (ItzH K a b) [z, TI, TO, i1, i2] z (fun i h => IsZip h z TI TO .none ∧ IsPair h TI (.ref i1) (.ref i2) ∧ (∃ x y, IsPair h TO x y) ∧ h.IsListIter i1 a i ∧ h.IsListIter i2 b i) where
  mem := List.mem_cons_self
  obj := (turn_zip (P := P) (w := w) (K := K) (elts := es) (kk := n) (tpos := p) D).obj
  keep := (turn_zip (P := P) (w := w) (K := K) (elts := es) (kk := n) (tpos := p) D).keep
  item := by
    intro X eP ew eK hc i pins s σ H E I hf st hg
    subst eP ew eK
    obtain ⟨tz, tI, ⟨x0, y0, tO⟩, t1, t2⟩ := st
    obtain ⟨xs, ys, x, y, sx, sy, gx, gy⟩ := hg
    obtain ⟨us, rs, pl, _⟩ := I.list sx
    obtain ⟨us2, rs2, pl2, _⟩ := I.list sy
    obtain ⟨u, e1, ru⟩ := rs.get gx
    obtain ⟨u2, e2, ru2⟩ := rs2.get gy
    have lz : z < s.heap.objs.size := Heap.lt_size tz
    have mem : ∀ c : Addr, c ∉ [z, TI, TO, i1, i2] → c ≠ z ∧ c ≠ TO ∧ c ≠ i1 ∧ c ≠ i2 := fun c hc => by
      simp only [List.mem_cons, List.not_mem_nil, or_false, not_or] at hc
      exact ⟨hc.1, hc.2.2.1, hc.2.2.2.1, hc.2.2.2.2⟩
    refine wpAny_pyNext_zip_item D tz tI tO t1 t2 pl.isList pl2.isList (x := u) (y := u2) (by simpa using e1) (by simpa using e2) fun h1 z1 O1 r1 r2 T1 sz k1 => ⟨_, rfl, wpAny_letOwnedTupleGo_zip (s := { s with heap := h1 }) z1 fun h2 z2 sb => ?_⟩
    have T2 : h2.get? s.heap.objs.size = some { cls := .type "tuple", data := .seq #[u, u2] } := (sb.2 _ (Nat.ne_of_gt lz)).trans T1
    have J : Inv X pins σ (upd H s.heap.objs.size (.tup [x, y])) { s with heap := h2 } :=
      I.turnedNew (t' := s.toks) (ch := [z, TI, TO, i1, i2]) (fun c o nc e => by obtain ⟨c1, c2, c3, c4⟩ := mem c nc; exact (sb.2 c c1).trans (k1 c o c1 c2 c3 c4 e)) hf (Nat.le_refl _)
        ⟨by show 2 ≤ sizeLine; decide, [u, u2], .cons ru (.cons ru2 .nil), ⟨_, T2, rfl, _, rfl⟩⟩
    refine ⟨.ref s.heap.objs.size, _, J, rfl, ⟨_, x, y, rfl, I.hok.fresh (Nat.le_refl _), rfl, fun l hl => by rw [I.list_inj hl sx]; exact gx, fun l hl => by rw [I.list_inj hl sy]; exact gy⟩,
      ⟨z2, (sb.2 _ D.TIz).trans (k1 _ _ D.TIz D.TITO D.TIi1 D.TIi2 tI), ⟨u, u2, (sb.2 _ D.TOz).trans O1⟩, r1.at fun o e => (sb.2 _ D.i1z).trans e, r2.at fun o e => (sb.2 _ D.i2z).trans e⟩, fun c hc => ?_⟩
    have lt : c < s.heap.objs.size := by
      simp only [List.mem_cons, List.not_mem_nil, or_false] at hc
      obtain ⟨_, f1, _⟩ := t1
      obtain ⟨_, f2, _⟩ := t2
      rcases hc with rfl | rfl | rfl | rfl | rfl
      · exact lz
      · exact Heap.lt_size tI
      · exact Heap.lt_size tO
      · exact Heap.lt_size f1
      · exact Heap.lt_size f2
    rw [upd_ne (Nat.ne_of_lt lt)]
    exact (hf c hc).1
  done := by
    intro X eP ew eK hc i pins s σ H E I hf st hg
    subst eP ew eK
    obtain ⟨tz, tI, _, t1, t2⟩ := st
    obtain ⟨⟨xs, sx, gx⟩, _⟩ := hg
    obtain ⟨us, rs, pl, _⟩ := I.list sx
    obtain ⟨p, ⟨hh, v1, e1, c1⟩, hp⟩ := hc
    have hpin := I.pin p (List.mem_append_left _ hp)
    have ne : ∀ b ∈ [z, TI, TO, i1, i2], p.1 ≠ b := fun b hb => (hf b hb).2.2.2.2.2 p (List.mem_append_left _ hp)
    have hl := rs.length
    refine pyNext_zip_hot (x1 := p.1) ⟨hh, p.2, v1, hpin.1, e1, c1⟩ D (ne z (by simp)) (ne i1 (by simp)) tz tI t1 pl.isList (by simp; omega) fun h' k => ⟨rfl, I.turnedL (t' := s.toks) (ch := [z, TI, TO, i1, i2]) (fun c o nc e => ?_) hf⟩
    simp only [List.mem_cons, List.not_mem_nil, or_false, not_or] at nc
    exact k c o nc.1 nc.2.2.2.1 e
  self := fun A i s Q E st h => wpAny_pyIter_zip st.1 h
def iZipH (K : PySem.W.Frag) (ta : TA) : TI := fun σ H R => ta σ H fun vs H1 => ∃ a b xs ys, vs = [.ref a, .ref b] ∧ SqL K H1 a xs ∧ SqL K H1 b ys ∧ R (ItzH K a b) H1
theorem five_le {c n : Nat} (h : c ∈ [n + 4, n + 2, n + 3, n, n + 1]) : n ≤ c := by
  simp only [List.mem_cons, List.not_mem_nil, or_false] at h
  omega
theorem pi_zipH {X : Cx} {e e2 : Expr} {ta : TA} {p pos tpos : Pos} {es : List Expr} {n : Nat} (hg : Gl X "zip") (hm : X.mg "zip" = none) (ha : PA X [e, e2] ta)
    (st : starEach [e, e2] X.env = (false, eval e X.env) :: starEach [e2] X.env) (pl : (backTo pos (starEach [e2] X.env)).any (·.1) = false) : PIH X (.Tuple es n tpos) (.Call (.Name "zip" p) [e, e2] [] pos) (iZipH X.K ta) := by
  refine ⟨fun pins s σ H R I h => ?_⟩
  refine Call_ (ld_blt I hg hm PyProof.Rows.boot_zip ?_)
  refine PyProof.Rows.callWith_type1 (thn (ha.run pos pins s σ H _ I h) fun us s1 ⟨vs, H1, I1, r1, q1⟩ => ?_) st pl
  obtain ⟨a, b, xs, ys, ev, sx, sy, q⟩ := q1
  subst ev
  cases r1 with
  | cons ra rr =>
    cases rr with
    | cons rb rr =>
      cases rr
      cases ra
      cases rb
      obtain ⟨us1, _, pl1, _⟩ := I1.list sx
      obtain ⟨us2, _, pl2, _⟩ := I1.list sy
      have la : a < s1.heap.objs.size := pl1.lt
      have lb : b < s1.heap.objs.size := pl2.lt
      refine call_zip_2 pl1.isList pl2.isList fun h' tz tI tO t1 t2 sz k => wpAny_pyIter_zip tz ?_
      have J : Inv X pins σ H1 { s1 with heap := h' } := I1.kept (t' := s1.toks) k
      refine ⟨s1.heap.objs.size + 4, [s1.heap.objs.size + 4, s1.heap.objs.size + 2, s1.heap.objs.size + 3, s1.heap.objs.size, s1.heap.objs.size + 1], _, _, H1, rfl, J, turn_zipH (PySem.W.ktu_apart s1.heap.objs.size a b la lb), ⟨tz, tI, ⟨_, _, tO⟩, t1, t2⟩, fun c hc => ?_, q⟩
      exact I1.fpOk (five_le hc) (I1.hok.fresh (five_le hc))
end G
set_option maxHeartbeats 4000000
namespace G
open PySem PySem.Spec PyProof.Rows L2 HotX L2H
abbrev blkH (X : Cx) (s : Shared) (H : Hp) (scope : Scope) (ce : Env) (fp : List Addr) : Cx := { X.blk s H scope ce fp with pn := X.pn }
theorem inv_blkH {X : Cx} {s s' : Shared} {H H' : Hp} {σ' : L2.St} {scope : Scope} {ce : Env} {fp : List Addr} (J : Inv (X.blk s H scope ce fp) [] σ' H' s') (hp : ∀ p ∈ X.pn, s'.heap.get? p.1 = some p.2 ∧ H' p.1 = none ∧ p.1 ≠ ce.locals ∧ p.1 ∉ frs X.stack ∧ ∀ v, p.2.data ≠ .cell v) :
    Inv (blkH X s H scope ce fp) [] σ' H' s' where
  ok := ⟨J.ok.mod, J.ok.kind, J.ok.glob, J.ok.blt, J.ok.above, J.ok.inj, J.ok.has, J.ok.cab, J.ok.hd, J.ok.frames, J.ok.stk, J.ok.exf, J.ok.bs, J.ok.bsz, J.ok.noex, J.ok.exfs, J.ok.funs, J.ok.frf⟩
  os := J.os
  bare := J.bare
  base := J.base
  loc := J.loc
  cell := J.cell
  free := J.free
  freeC := J.freeC
  pin := fun p h => hp p (by rw [List.append_nil] at h; exact h)
  hok := J.hok
  len := J.len
section
variable {X : Cx}
theorem pe_lcH {elt tg iter : Expr} {ifs : List Expr} {scope : Scope} {own : List (Str × Nat)} {pos : Pos} {wi : TI} {g : TG} {tt : TT} {te : TE} (hot : HotC X) (nd : X.N.Nodup) (hi : PIH X tg iter wi) (ok : BlkOk X.N X.env.scope scope own)
    (hg : ∀ (s : Shared) (H : Hp) (C : Addr) (cl : List (Str × Addr)) (fp : List Addr), PG (blkH X s H scope (compEnvC scope cl C X.env) fp) tg g)
    (ht : ∀ (s : Shared) (H : Hp) (C : Addr) (cl : List (Str × Addr)) (fp : List Addr), PTs (blkH X s H scope (compEnvC scope cl C X.env) fp) ifs tt)
    (he : ∀ (s : Shared) (H : Hp) (C : Addr) (cl : List (Str × Addr)) (fp : List Addr), PE (blkH X s H scope (compEnvC scope cl C X.env) fp) elt te) (hs : ∀ x, foldedSetIterable iter X.env x = pure x) :
    PE X (.ListComp elt [⟨tg, iter, ifs, 0⟩] scope pos) (tLc wi g tt te (own.map (·.2))) := by
  refine ⟨fun pins s σ H Q I h => ?_⟩
  rw [eval_ListComp]
  have caps : ∀ y ∈ scope.names, y.2 = .free → ∃ c, X.env.cells.lookup y.1 = some c := fun y hy e => (ok.free y hy e).elim (fun k => I.ok.has _ (.inl k)) fun k => I.ok.has _ (.inr k)
  refine wpAny_comprehension_free (use := none) rfl hs (closure_ok caps) ok.kind (fun y hy e => by rw [ok.uniq y hy, e]) (thn (hi.run pins s σ H _ I h) fun v1 s1 r1 => thn r1 fun v2 s2 r2 => ?_)
  obtain ⟨it, fp, tn, J, H2, ev, I2, Tn, t2, f2, q2⟩ := r2
  subst ev
  refine wpAny_newObj_type (newEnv_comp ?_) (by show 0 ≤ sizeLine; decide)
  generalize eD : s2.heap.objs.size = D
  have nD : H2 D = none := I2.hok.fresh (Nat.le_of_eq eD)
  obtain ⟨W, ⟨m0, w0⟩, turn⟩ := q2 D nD
  generalize e3 : ({ s2 with heap := s2.heap.push { cls := .type "list", data := .seq ([] : List Value).toArray } } : Shared) = s3
  have h3 : s3.heap = s2.heap.push { cls := .type "list", data := .seq ([] : List Value).toArray } := by rw [← e3]
  have I3 : Inv X pins σ (upd H2 D (.lst [])) s3 := by
    rw [← e3]
    exact I2.laid (t' := s2.toks) (fun b o e => Heap.get?_push_of_some _ e) (Nat.le_of_eq eD) ⟨Nat.zero_le _, [], 0, .nil, by rw [← eD]; exact Heap.get?_push_size _ rfl⟩
  have lt2 : ∀ b ∈ fp, b < s2.heap.objs.size := fun b hb => by
    obtain ⟨o, e, _⟩ := Tn.obj _ _ t2 b hb
    exact Heap.lt_size e
  have f3 : ∀ b ∈ fp, FpOk X pins (upd H2 D (.lst [])) b ∧ b < s3.heap.objs.size := fun b hb => by
    refine ⟨⟨?_, (f2 b hb).2⟩, by rw [h3, Heap.size_push]; exact Nat.lt_succ_of_lt (lt2 b hb)⟩
    rw [upd_ne (by rw [← eD]; exact Nat.ne_of_lt (lt2 b hb))]
    exact (f2 b hb).1
  have t3 : tn 0 s3.heap := Tn.keep _ _ _ t2 fun b _ o e => by rw [h3]; exact Heap.get?_push_of_some _ e
  have I4 := block_start I3 ok nd f3
  generalize ecl : cellsFrom (s3.heap.objs.size + 1) scope.names (cloFrom X.env.cells scope.names []) = cl at I4 ⊢
  have pg := hg s3 (upd H2 D (.lst [])) s3.heap.objs.size cl fp
  have pt := ht s3 (upd H2 D (.lst [])) s3.heap.objs.size cl fp
  have pe := he s3 (upd H2 D (.lst [])) s3.heap.objs.size cl fp
  show codeAny _ _ (.compStart (.ListComp elt [⟨tg, iter, ifs, 0⟩] scope pos) 0 (.ref it) (.ref D) (compEnvC scope cl s3.heap.objs.size X.env)) (compPost (model X.prog X.w) X.A X.xe none (EP X pins σ Q) (.ref D) s3.heap.objs.size) { s3 with heap := pushCells (s3.heap.push { cls := .type "dict", data := .dict #[] }) scope.names }
  have n3 : ∀ b ∈ fp, (upd H2 D (.lst [])) b = none := fun b hb => (f3 b hb).1.1
  generalize ece : compEnvC scope cl s3.heap.objs.size X.env = ce at I4 pg pt pe ⊢
  have cL : ce.locals = s3.heap.objs.size := by subst ece; rfl
  generalize eH : upd H2 D (.lst []) = H3 at I3 I4 pg pt pe w0 n3 f3
  have kp4 : ∀ (b : Addr) (o : Obj), s3.heap.get? b = some o → (pushCells (s3.heap.push { cls := .type "dict", data := .dict #[] }) scope.names).get? b = some o := fun b o e => pushCells_keeps _ _ _ _ (Heap.get?_push_of_some _ e)
  generalize e4 : ({ s3 with heap := pushCells (s3.heap.push { cls := .type "dict", data := .dict #[] }) scope.names } : Shared) = s4 at I4 ⊢
  have k4 : ∀ (b : Addr) (o : Obj), s3.heap.get? b = some o → s4.heap.get? b = some o := fun b o e => by rw [← e4]; exact kp4 b o e
  have t4 : tn 0 s4.heap := Tn.keep _ _ _ t3 fun b _ o e => k4 b o e
  have I5 : Inv (blkH X s3 H3 scope ce fp) [] (wipe σ (own.map (·.2))) H3 s4 := inv_blkH I4 fun p hp => by
    obtain ⟨p1, p2, p3, p4, p5⟩ := I3.pin p (List.mem_append_left _ hp)
    refine ⟨k4 _ _ p1, p2, by rw [cL]; exact Nat.ne_of_lt (Heap.lt_size p1), fun hm => ?_, p5⟩
    rcases List.mem_cons.mp (I3.stkSub p.1 hm) with z | z
    · exact p3 z
    · exact p4 z
  have hotB : HotC (blkH X s3 H3 scope ce fp) := hot
  have stat : ∀ {σ' : L2.St} {H' : Hp} {s' : Shared}, Inv (blkH X s3 H3 scope ce fp) [] σ' H' s' → (∀ b ∈ fp, H' b = none) → ∀ b ∈ fp, FpOk (blkH X s3 H3 scope ce fp) [] H' b := fun {σ' H' s'} J hn b hb =>
    ⟨hn b hb, (J.ok.exf b hb).1, J.ok.exfs b hb, .inl hb, fun x c e => (J.ok.exf b hb).2 x c e, fun p hp => (f3 b hb).1.2.2.2.2.2 p (by rw [List.append_nil] at hp; exact List.mem_append_left _ hp)⟩
  refine codeAny_compStart_list ?_ (Tn.self X.A 0 _ _ _ t4 ?_)
  all_goals
    refine compLoop_any (fun n s' => ∃ i H', Inv (blkH X s3 H3 scope ce fp) [] (wipe σ (own.map (·.2))) H' s' ∧ tn i s'.heap ∧ (∀ b ∈ fp, H' b = none) ∧ W i n H') ?_ m0 ⟨0, H3, I5, t4, n3, w0⟩
    rintro n s5 ⟨i, H5, J5, t5, n5, w5⟩
    rcases turn i n H5 w5 with ⟨stop, qq⟩ | ⟨go, Nx, hNx, step⟩
    · refine thnF (Tn.done (blkH X s3 H3 scope ce fp) rfl rfl rfl hotB i [] s5 _ H5 (fun _ _ => False) J5 (stat J5 n5) t5 stop) fun r s6 ⟨er, J6⟩ => ?_
      subst er
      have I7 : Inv X pins σ H5 s6 := I3.call' (ch := fp) J6.os J6.base J6.hok J6.bare fun b hb => ⟨(f3 b hb).1.2.2.2.1, (f3 b hb).1.2.1, (f3 b hb).1.2.2.2.2.1, (f3 b hb).1.2.2.2.2.2⟩
      have nC : H5 s3.heap.objs.size = none := by
        have z : H5 ce.locals = none := J6.free
        rw [cL] at z
        exact z
      obtain ⟨m, hn, _⟩ := J6.loc
      have hn : s6.heap.Ns ce.locals m := hn
      rw [cL] at hn
      refine ⟨m, hn, fun h'' sb => ?_⟩
      obtain ⟨_, g1, g2, g3, g4, g5⟩ := I3.fpOk (b := s3.heap.objs.size) (Nat.le_refl _) nC
      exact ⟨.ref D, H5, I7.turned (t' := s6.toks) (fun b o hb e => (sb.2 b hb).trans e) nC g1 g3 g4 g5, rfl, qq⟩
    · refine thnF (Tn.item (blkH X s3 H3 scope ce fp) rfl rfl rfl hotB i [] s5 _ H5 (fun _ _ => False) J5 (stat J5 n5) t5 go) fun r s6 ⟨u, er, r6⟩ => ?_
      subst er
      refine thnF r6 fun _ s7 ⟨x, H7, J7, r7, y7, t7, n7⟩ => ?_
      have J7' := J7.pinned (stat J7 n7) (Tn.obj _ _ t7)
      refine thnF (pg.run _ s7 _ H7 x u _ J7' r7 (step x H7 y7)) fun _ s8 ⟨σ8, H8, J8, w8, q8⟩ => ?_
      refine thnF (pt.run _ s8 σ8 H8 _ J8 q8) fun b s9 ⟨H9, J9, q9⟩ => ?_
      have fin : ∀ {s' : Shared} {H' : Hp}, Inv (blkH X s3 H3 scope ce fp) ([] ++ pinsAt fp s7.heap) σ8 H' s' → Nx H' → ∃ m, m < n ∧ ∃ i H', Inv (blkH X s3 H3 scope ce fp) [] (wipe σ (own.map (·.2))) H' s' ∧ tn i s'.heap ∧ (∀ b ∈ fp, H' b = none) ∧ W i m H' := fun {s' H'} J nx => by
        obtain ⟨m', lm, w'⟩ := hNx H' nx
        have at' : ∀ b ∈ fp, ∀ o, s7.heap.get? b = some o → s'.heap.get? b = some o ∧ H' b = none := fun b hb o e =>
          have z := J.pin (b, o) (List.mem_append_right _ (List.mem_append_right _ (mem_pinsAt hb e)))
          ⟨z.1, z.2.1⟩
        refine ⟨m', lm, i + 1, H', (J.unpinned (pins := [])).weak (by rw [← w8, wipe_length]) (fun j v e => by rw [← w8] at e; exact (wipe_some e).1), Tn.keep _ _ _ t7 fun b hb o e => (at' b hb o e).1, fun b hb => ?_, w'⟩
        obtain ⟨o, e, _⟩ := Tn.obj _ _ t7 b hb
        exact (at' b hb o e).2
      cases b with
      | false =>
        rw [if_neg Bool.false_ne_true] at q9 ⊢
        exact fin J9 q9
      | true =>
        rw [if_pos rfl] at q9 ⊢
        refine thnF (pe.run _ s9 σ8 H9 _ J9 q9) fun z s10 ⟨yv, H10, J10, r10, acc, d10, z10, nx⟩ => ?_
        exact app_ok (X := blkH X s3 H3 scope ce fp) J10 d10 z10 r10 fun s11 J11 => fin J11 nx
end
end G
set_option maxHeartbeats 4000000
namespace G
open PySem PySem.Spec PyProof.Rows L2 HotX L2H
section
variable {prog : Program} {w : World} {A : Around} {E : Value → Shared → Prop} {s : Shared}
theorem next_tup_hot {it t x1 : Addr} {i : Nat} {items : Array Value} {Q : Option Value → Shared → Prop} (hot : HotAt A x1 s.heap) (ti : IsTupIter s.heap it t i) (tt : IsTup s.heap t items) (tx : items[i]? = none) (ne : x1 ≠ it)
    (k : ∀ h', (∀ b o, b ≠ it → s.heap.get? b = some o → h'.get? b = some o) → Q none { s with heap := h' }) : wpAny (model prog w) A (pyNext (.ref it)) Q E s := by
  obtain ⟨o, g1, g2, g3⟩ := id ti
  obtain ⟨ol, g4, _, nl, g5⟩ := tt
  obtain ⟨hh, o1, vs1, q1, q2, q3⟩ := hot
  unfold pyNext
  refine wpAny_bind (wpAny_attempt (wpAny_callSpecial?_slot (name := Str.ofString "__next__") ti.typeIs slot_tupleiter_next (wpAny_call_entry slot_tupleiter_next ti.typeIs entry_tupleiter_next ?_ (args_tupleiter_next _))))
  show wpAny (model prog w) _ (field (.ref it) 0 >>= _) _ _ s
  refine wpAny_bind (wpAny_field g1 g3 (x := .ref t) rfl ?_)
  show wpAny (model prog w) _ (if (Value.ref t == Value.none) = true then _ else _) _ _ s
  rw [if_neg (show ¬ ((Value.ref t == Value.none) = true) from fun z => Bool.noConfusion z)]
  show wpAny (model prog w) _ (field (.ref it) 1 >>= _) _ _ s
  refine wpAny_bind (wpAny_field g1 g3 (x := .int i 0) rfl ?_)
  show wpAny (model prog w) _ (seqItems? (.ref t) >>= _) _ _ s
  refine wpAny_bind (wpAny_seqItems g4 g5 ?_)
  simp only [Int.toNat_natCast, tx]
  refine wpAny_bind (wpAny_rule (wpAny_bind (wpAny_setField g1 g3 (by simp) ?_)))
  show wpAny (model prog w) _ (newExc (.type "StopIteration") [] >>= _) _ _ _
  refine wpAny_bind ?_
  simp only [newExc, newTuple]
  refine wpAny_bind (wpAny_newObj_type ?_ (by size_fits))
  refine wpAny_bind (m := firstArgMember _ _) (wpAny_of_eq (a := Value.none) (by first | rfl | (simp only [firstArgMember]; rfl)) ?_)
  refine wpAny_newObj_type ?_ (by size_fits)
  have base : ∀ (b : Addr) (ob : Obj), b ≠ it → s.heap.get? b = some ob → ∀ f : Obj → Obj, (s.heap.update it f).get? b = some ob := fun b ob n z f => by
    rw [Heap.get?_update_other _ _ (Ne.symm n)]; exact z
  refine raiseNew_hot (x1 := x1) ⟨hh, o1, vs1, Heap.get?_push_of_some _ (Heap.get?_push_of_some _ (base x1 o1 ne q1 _)), q2, q3⟩ (Nat.ne_of_lt (Heap.lt_size (Heap.get?_push_of_some _ (base x1 o1 ne q1 _)))) (Heap.get?_push_size _ rfl) rfl (by first | (simp; done) | (simp; omega)) ?_
  refine wpAny_bind (wpAny_isInstance (T := "StopIteration") (b := true) ⟨_, Heap.get?_update_self _ (Heap.get?_push_size _ rfl) rfl, rfl⟩ isSubtype_stop ?_)
  refine wpAny_pure (k _ fun b ob n z => ?_)
  rw [Heap.get?_update_other _ _ (Nat.ne_of_gt (Heap.lt_size (Heap.get?_push_of_some _ (base b ob n z _))))]
  exact Heap.get?_push_of_some _ (Heap.get?_push_of_some _ (base b ob n z _))
theorem unpack_hot {t x1 : Addr} {items : Array Value} {targets : List (Bool × (Value → Sem Unit))} {Q : Unit → Shared → Prop} (hot : HotAt A x1 s.heap) (tt : IsTup s.heap t items) (tn : targets.length = items.size) (ts : targets.findIdx? (·.1) = none)
    (k : ∀ h', (∀ b o, b ≠ s.heap.objs.size → s.heap.get? b = some o → h'.get? b = some o) → wpAny (model prog w) A (assignInOrder (targets.map (·.2)) items.toList) Q E { s with heap := h' }) : wpAny (model prog w) A (unpack (.ref t) targets) Q E s := by
  obtain ⟨hh, o1, vs1, q1, q2, q3⟩ := hot
  have ne : t ≠ s.heap.objs.size := by obtain ⟨o, e, _⟩ := tt; exact Nat.ne_of_lt (Heap.lt_size e)
  have ne1 : x1 ≠ s.heap.objs.size := Nat.ne_of_lt (Heap.lt_size q1)
  unfold unpack
  rw [tn, ts]
  refine wpAny_bind (wpAny_holding ?_)
  unfold unpackItems
  refine wpAny_bind ?_
  unfold notIterableAtAll
  refine wpAny_bind (wpAny_specialOf tt.typeIs slot_tuple_iter.lookup (wpAny_pure ?_))
  simp only [Bool.false_eq_true, if_false]
  refine wpAny_bind (wpAny_holding (iter_tuple tt ?_))
  refine wpAny_bind (wpAny_holding (draw_tuple ne items.size 0 _ _ ⟨_, Heap.get?_push_size _ rfl, rfl, rfl⟩ (tt.push _) (by omega) fun h1 it1 sb1 => ?_))
  have full : List.take items.size (List.drop 0 items.toList) = items.toList := by
    rw [List.drop_zero]
    exact List.take_of_length_le (by simp)
  rw [full, if_neg (by simp)]
  have tt1 : IsTup h1 t items := (tt.push _).extBut sb1.extBut ne
  refine wpAny_bind (wpAny_holding (next_tup_hot (x1 := x1) ⟨hh, o1, vs1, sb1.extBut _ _ ne1 (Heap.get?_push_of_some _ q1), q2, q3⟩ it1 tt1 (by simp) ne1 fun h2 kp => ?_))
  simp only [Option.isSome_none, Bool.false_eq_true, if_false]
  exact wpAny_pure (k h2 fun b o nb e => kp b o nb (sb1.extBut b o nb (Heap.get?_push_of_some _ e)))
end
theorem pg_tupH {X : Cx} {es : List Expr} {k n : Nat} {t : TGs} {pos : Pos} (hot : HotC X) (h : PGs X es t) (hn : (assignEach es X.env).length = n) (st : (assignEach es X.env).findIdx? (·.1) = none) : PG X (.Tuple es k pos) (gTup X.K n t) := by
  refine ⟨fun pins s σ H v u Q I r hw => ?_⟩
  obtain ⟨a, xs, ev, sq, hl, hw⟩ := hw
  subst ev
  cases r
  obtain ⟨us, rs, tt, _⟩ := I.tuple sq
  obtain ⟨x1, ha⟩ := hot.at I
  rw [assign_Tuple]
  refine wpAny_bind (wpAny_standAt (unpack_hot ha tt (by simp [hn, ← hl, rs.length]) st fun h' kp => ?_))
  have J : Inv X pins σ H { s with heap := h' } := I.kept (t' := s.toks) fun b o e => kp b o (Nat.ne_of_lt (Heap.lt_size e)) e
  exact h.run pins _ σ H xs _ Q J (by simpa using rs) hw
end G
set_option maxHeartbeats 4000000
namespace G
open PySem PySem.Spec PyProof.Rows L2 HotX L2H
inductive KS where
  | kind (add : Bool) (ns : List Str)
  | word (add : Bool) (ns : List Str)
  | app (n : Str)
def isCallB (n : Str) : Expr → Bool
  | .Call (.Name f _) [.Name x _, .Name c _] [] _ => decide (f = "isinstance") && decide (x = "e") && decide (c = n)
  | _ => false
def isListB : List Str → List Expr → Bool
  | [], [] => true
  | n :: ns, e :: es => isCallB n e && isListB ns es
  | _, _ => false
def txtB : List Str → List Expr → Bool
  | [], [] => true
  | n :: ns, .Constant (.str x) _ _ :: es => decide (x = n) && txtB ns es
  | _, _ => false
def lstB (f : List Str → List Expr → Bool) (add : Bool) (x : Str) (ns : List Str) : Expr → Bool
  | .List es _ => !add && f ns es
  | .BinOp (.Name y _) .Add (.List es _) _ => add && decide (y = x) && f ns es
  | _ => false
def ksB : KS → Stmt → Bool
  | .kind add ns, .Assign [.Name x _] v _ => decide (x = "some") && lstB isListB add "some" ns v
  | .word add ns, .Assign [.Name x _] v _ => decide (x = "words") && lstB txtB add "words" ns v
  | .app n, .Expr (.Call (.Attribute (.Name x _) m apos) [e] [] cpos) _ => decide (x = "some") && decide (m = "append") && (apos.endLine == cpos.line) && isCallB n e
  | _, _ => false
def plL (sc : Scope) (x : Str) : Bool := decide (sc.names.lookup x = some .local)
def kNames : List Str := ["e", "some", "words", "word", "good"]
def retB (sc : Scope) : Stmt → Bool
  | .Return (some (.Call (.Attribute (.Constant (.str b) _ _) m apos) [.ListComp (.Name w _) [⟨.Tuple [.Name w2 _, .Name g _] _ _, .Call (.Name z _) [.Name x _, .Name y _] [] _, [.Name g2 _], as⟩] scope _] [] cpos)) _ =>
      decide (b = " ") && decide (m = "join") && (apos.endLine == cpos.line) && decide (w = "word") && decide (w2 = "word") && decide (g = "good") && decide (g2 = "good") && decide (z = "zip") && decide (x = "words") && decide (y = "some") && decide (as = 0) &&
      blkB ⟨kNames, sc, fun _ => false, fun _ => false, fun _ => false, [], false⟩ scope [3, 4] && plL scope "word" && plL scope "good"
  | _ => false
def kBody (sc : Scope) : List KS → List Stmt → Bool
  | [], [s] => retB sc s
  | k :: ks, s :: ss => ksB k s && kBody sc ks ss
  | _, _ => false
def kScope (sc : Scope) : Bool := decide (sc.kind = .function) && plL sc "e" && plL sc "some" && plL sc "words" && glB sc "isinstance" && glB sc "zip"
theorem call_isP {X : Cx} {a D : Addr} {oe : Obj} (hp : (a, oe) ∈ X.pn) (C : ExcC X.K D) (hz : Zc (.ref D) none oe) (hf : ∃ vs, oe.data = .fields vs) : CallR X (.builtin "isinstance") (rIsE X.K D a) := by
  intro pins s σ H xs us Q I r h
  obtain ⟨c, cv, b, rfl, ec, e, q⟩ := h
  match us, r with
  | [_, _], .cons rx (.cons rt .nil) =>
    cases rx
    have z := ec _ rt
    subst z
    have g := (I.pin (a, oe) (List.mem_append_left _ hp)).1
    obtain ⟨vs, hv⟩ := hf
    have J : PySem.W.InstAt s.heap a oe D none := by
      obtain ⟨oc, od, oda, osl⟩ := oe
      obtain ⟨h1, h2⟩ := hz
      dsimp only at h1 h2 hv
      subst h1 h2 hv
      exact ⟨g, rfl, rfl, trivial⟩
    refine PySem.W.kia_one (PySem.W.handS_kitx_exc C.hg C.hk C.hs C.hd C.ha C.hn C.ht C.hm) I.kIn J e (fun z => nomatch z) fun tk => ⟨.bl b, H, I.kept (t' := tk) fun _ _ z => z, rfl, q⟩
def KIn (K : PySem.W.Frag) (mg : Str → Option Value) (D : Addr) (fl : Str → Bool) (n : Str) : Prop :=
  (∃ C, mg n = some (.ref C) ∧ PySem.W.kitOne K (.ref D) (.ref C) = some (fl n)) ∨ ∃ T, mg n = none ∧ bootBuiltins n = some (.type T) ∧ PySem.W.kitOne K (.ref D) (.type T) = some (fl n)
structure KCx (Y : Cx) (a D : Addr) (oe : Obj) (fl : Str → Bool) (sc : Scope) : Prop where
  hot : HotC Y
  names : Y.N = kNames
  scope : Y.env.scope = sc
  pin : (a, oe) ∈ Y.pn
  ec : ExcC Y.K D
  z : Zc (.ref D) none oe
  f : ∃ vs, oe.data = .fields vs
  isn : Y.mg "isinstance" = none
  zip : Y.mg "zip" = none
  sc : kScope sc = true
def kCls (Y : Cx) (D : Addr) (fl : Str → Bool) (sc : Scope) (n : Str) : Prop := glB sc n = true ∧ nmOk n = true ∧ KIn Y.K Y.mg D fl n
def tKd (a : Addr) (b : Bool) : TE := fun σ H Q => σ[0]? = some (some (.ref a)) ∧ Q (.bl b) H
def tKs (a : Addr) (vs : List V) : TA := fun σ H Q => σ[0]? = some (some (.ref a)) ∧ Q vs H
section
variable {Y : Cx} {a D : Addr} {oe : Obj} {fl : Str → Bool} {sc : Scope} (C : KCx Y a D oe fl sc)
include C
theorem KCx.loc : plL sc "e" = true ∧ plL sc "some" = true ∧ plL sc "words" = true ∧ glB sc "isinstance" = true ∧ glB sc "zip" = true := by
  have h := C.sc
  unfold kScope at h
  simp only [Bool.and_eq_true] at h
  exact ⟨h.1.1.1.1.2, h.1.1.1.2, h.1.1.2, h.1.2, h.2⟩
theorem KCx.gl {x : Str} (h : glB sc x = true) : Gl Y x := by
  show Y.env.scope.names.lookup x = _
  rw [C.scope]
  exact of_decide_eq_true h
theorem KCx.at0 {x : Str} (h : plL sc x = true) : Y.env.scope.names.lookup x = some .local := by
  rw [C.scope]
  exact of_decide_eq_true h
theorem pe_kind {n : Str} {e : Expr} (h : isCallB n e = true) (hn : kCls Y D fl sc n) : PE Y e (tKd a (fl n)) := by
  unfold isCallB at h
  split at h
  · rename_i f p x p2 c p3 pos
    simp only [Bool.and_eq_true, decide_eq_true_eq] at h
    obtain ⟨⟨rfl, rfl⟩, rfl⟩ := h
    obtain ⟨g1, g2, g3⟩ := hn
    obtain ⟨d1, d2, d3⟩ := nm_dbg g2
    obtain ⟨l1, l2, l3, l4, l5⟩ := C.loc
    have he : PE Y (.Name "e" p2) (tVar 0) := pe_var (by rw [C.names]; rfl) (.inl (C.at0 l1))
    rcases g3 with ⟨Cn, m1, k1⟩ | ⟨T, m1, m2, k1⟩
    · refine peImp (pe_callB (call_isP C.pin C.ec C.z C.f) (C.gl l4) C.isn boot_isinstance (pa_cons he (pa_cons (pe_glob (C.gl g1) m1 (v := .ref Cn) rfl d1) pa_nil rfl) rfl) (by decide) (by decide) rfl rfl) fun σ H Q ⟨h0, q⟩ => ⟨.ref a, h0, ?_⟩
      exact ⟨.ref Cn, .ref Cn, fl c, rfl, fun u r => by cases r; rfl, k1, q⟩
    · refine peImp (pe_callB (call_isP C.pin C.ec C.z C.f) (C.gl l4) C.isn boot_isinstance (pa_cons he (pa_cons (pe_bltn (C.gl g1) m1 m2 (v := .ty T) rfl d3 d1) pa_nil rfl) rfl) (by decide) (by decide) rfl rfl) fun σ H Q ⟨h0, q⟩ => ⟨.ref a, h0, ?_⟩
      exact ⟨.ty T, .type T, fl c, rfl, fun u r => by cases r; rfl, k1, q⟩
  · cases h
omit C in
theorem isCall_star {n : Str} {e : Expr} (h : isCallB n e = true) : noStar e = true := by
  cases e <;> first | rfl | cases h
theorem pa_kind : ∀ {ns : List Str} {es : List Expr}, isListB ns es = true → (∀ n ∈ ns, kCls Y D fl sc n) → PA Y es (tKs a (ns.map fun n => .bl (fl n)))
  | [], [], _, _ => paImp pa_nil fun σ H Q ⟨_, q⟩ => q
  | [], _ :: _, h, _ => by cases h
  | _ :: _, [], h, _ => by cases h
  | n :: ns, e :: es, h, hn => by
    simp only [isListB, Bool.and_eq_true] at h
    exact paImp (pa_cons (pe_kind C h.1 (hn n List.mem_cons_self)) (pa_kind h.2 fun m hm => hn m (List.mem_cons_of_mem _ hm)) (star_cons (isCall_star h.1))) fun σ H Q ⟨h0, q⟩ => ⟨h0, h0, q⟩
omit C in
theorem pa_txt : ∀ {ns : List Str} {es : List Expr}, txtB ns es = true → PA Y es (tKs a (ns.map .str))
  | [], [], _ => paImp pa_nil fun σ H Q ⟨_, q⟩ => q
  | [], _ :: _, h => by cases h
  | _ :: _, [], h => by cases h
  | n :: ns, e :: es, h => by
    unfold txtB at h
    split at h
    · rename_i h1 h2; cases h1
    · rename_i n' ns' x j p es' h1 h2
      cases h1
      cases h2
      simp only [Bool.and_eq_true, decide_eq_true_eq] at h
      obtain ⟨rfl, h⟩ := h
      exact paImp (pa_cons pe_str (pa_txt h) rfl) fun σ H Q ⟨h0, q⟩ => ⟨h0, q⟩
    · cases h
structure KI (H0 : Hp) (a : Addr) (l1 l2 : Option (List V)) (σ : L2.St) (H : Hp) : Prop where
  e0 : σ[0]? = some (some (.ref a))
  len : σ.length = 5
  gr : Grow H0 H
  s1 : ∀ l, l1 = some l → ∃ q, σ[1]? = some (some (.ref q)) ∧ H q = some (.lst l) ∧ H0 q = none
  s2 : ∀ l, l2 = some l → ∃ q, σ[2]? = some (some (.ref q)) ∧ H q = some (.lst l) ∧ H0 q = none
omit C in
theorem KI.new1 {H0 H H' : Hp} {l1 l2 : Option (List V)} {σ : L2.St} {p : Addr} {l : List V} (k : KI H0 a l1 l2 σ H) (g : Grow H H') (h0 : H p = none) (hp : H' p = some (.lst l)) : KI H0 a (some l) l2 (σ.set 1 (some (.ref p))) H' where
  e0 := by rw [List.getElem?_set_ne (by decide)]; exact k.e0
  len := by rw [List.length_set]; exact k.len
  gr := k.gr.trans g
  s1 := fun l' e => by
    cases e
    exact ⟨p, List.getElem?_set_self (by rw [k.len]; decide), hp, k.gr.free h0⟩
  s2 := fun l' e => by
    obtain ⟨q, q1, q2, q3⟩ := k.s2 l' e
    exact ⟨q, by rw [List.getElem?_set_ne (by decide)]; exact q1, g _ _ q2, q3⟩
omit C in
theorem KI.new2 {H0 H H' : Hp} {l1 l2 : Option (List V)} {σ : L2.St} {p : Addr} {l : List V} (k : KI H0 a l1 l2 σ H) (g : Grow H H') (h0 : H p = none) (hp : H' p = some (.lst l)) : KI H0 a l1 (some l) (σ.set 2 (some (.ref p))) H' where
  e0 := by rw [List.getElem?_set_ne (by decide)]; exact k.e0
  len := by rw [List.length_set]; exact k.len
  gr := k.gr.trans g
  s1 := fun l' e => by
    obtain ⟨q, q1, q2, q3⟩ := k.s1 l' e
    exact ⟨q, by rw [List.getElem?_set_ne (by decide)]; exact q1, g _ _ q2, q3⟩
  s2 := fun l' e => by
    cases e
    exact ⟨p, List.getElem?_set_self (by rw [k.len]; decide), hp, k.gr.free h0⟩
def stp (fl : Str → Bool) : KS → Option (List V) × Option (List V) → Option (Option (List V) × Option (List V))
  | .kind false ns, (_, l2) => if ns.length ≤ 1000 then some (some (ns.map fun n => .bl (fl n)), l2) else none
  | .kind true ns, (some l, l2) => if l.length + ns.length ≤ 1000 then some (some (l ++ ns.map fun n => .bl (fl n)), l2) else none
  | .word false ns, (l1, _) => if ns.length ≤ 1000 then some (l1, some (ns.map .str)) else none
  | .word true ns, (l1, some l) => if l.length + ns.length ≤ 1000 then some (l1, some (l ++ ns.map .str)) else none
  | .app n, (some l, none) => if l.length ≤ 1000 then some (some (l ++ [.bl (fl n)]), none) else none
  | _, _ => none
def KS.ok (Y : Cx) (D : Addr) (fl : Str → Bool) (sc : Scope) : KS → Prop
  | .kind _ ns => ∀ n ∈ ns, kCls Y D fl sc n
  | .word _ _ => True
  | .app n => kCls Y D fl sc n
def tKd1 (a : Addr) (fl : Str → Bool) (k : KS) : TS := fun E σ H => ∃ H0 l1 l2 l', KI H0 a l1 l2 σ H ∧ stp fl k (l1, l2) = some l' ∧ ∀ σ' H', KI H0 a l'.1 l'.2 σ' H' → E.nx σ' H'
omit C in
theorem le_line {n : Nat} (h : n ≤ 1000) : n ≤ sizeLine := Nat.le_trans h (by decide)
theorem nd_k : Y.N.Nodup := by rw [C.names]; decide
theorem ps_kind {k : KS} {s : Stmt} (h : ksB k s = true) (ok : k.ok Y D fl sc) : PS Y s (tKd1 a fl k) := by
  obtain ⟨l1, l2, l3, l4, l5⟩ := C.loc
  have n1 : Y.N[1]? = some (Str.ofString "some") := by rw [C.names]; rfl
  have n2 : Y.N[2]? = some (Str.ofString "words") := by rw [C.names]; rfl
  unfold ksB at h
  split at h
  · rename_i add ns x p v pos
    simp only [Bool.and_eq_true, decide_eq_true_eq] at h
    obtain ⟨rfl, h⟩ := h
    unfold lstB at h
    split at h
    · rename_i es q
      simp only [Bool.and_eq_true, Bool.not_eq_true'] at h
      obtain ⟨rfl, h⟩ := h
      refine psImp (ps_set (nd_k C) n1 (.inl (C.at0 l2)) (pe_lst (pa_kind C h ok)) rfl (.inr (C.at0 l2))) fun E σ H ⟨H0, m1, m2, l', k, e, q⟩ => ⟨k.e0, ?_⟩
      simp only [stp] at e
      split at e
      · rename_i hz
        cases e
        refine ⟨by rw [List.length_map]; exact le_line hz, fun p hp => q _ _ (k.new1 (grow_new hp) hp upd_same)⟩
      · cases e
    · rename_i y yp es q q2
      simp only [Bool.and_eq_true, decide_eq_true_eq] at h
      obtain ⟨⟨rfl, rfl⟩, h⟩ := h
      refine psImp (ps_set (nd_k C) n1 (.inl (C.at0 l2)) (pe_op op_cat (pe_var n1 (.inl (C.at0 l2)) (by decide) (by decide)) (pe_lst (pa_kind C h ok))) rfl (.inr (C.at0 l2))) fun E σ H ⟨H0, m1, m2, l', k, e, q⟩ => ?_
      cases m1 with
      | none => cases e
      | some l =>
        simp only [stp] at e
        split at e
        · rename_i hz
          cases e
          obtain ⟨r, r1, r2, r3⟩ := k.s1 l rfl
          refine ⟨.ref r, r1, k.e0, by rw [List.length_map]; exact le_line (by omega), fun p hp => ⟨r, p, l, _, rfl, rfl, grow_new hp _ _ r2, upd_same, by rw [List.length_map]; exact le_line hz, fun t ht => ?_⟩⟩
          exact q _ _ (k.new1 ((grow_new hp).trans (grow_new ht)) (Same.free (grow_new hp) ht) upd_same)
        · cases e
    · cases h
  · rename_i add ns x p v pos
    simp only [Bool.and_eq_true, decide_eq_true_eq] at h
    obtain ⟨rfl, h⟩ := h
    unfold lstB at h
    split at h
    · rename_i es q
      simp only [Bool.and_eq_true, Bool.not_eq_true'] at h
      obtain ⟨rfl, h⟩ := h
      refine psImp (ps_set (nd_k C) n2 (.inl (C.at0 l3)) (pe_lst (pa_txt (a := a) h)) rfl (.inr (C.at0 l3))) fun E σ H ⟨H0, m1, m2, l', k, e, q⟩ => ⟨k.e0, ?_⟩
      simp only [stp] at e
      split at e
      · rename_i hz
        cases e
        exact ⟨by rw [List.length_map]; exact le_line hz, fun p hp => q _ _ (k.new2 (grow_new hp) hp upd_same)⟩
      · cases e
    · rename_i y yp es q q2
      simp only [Bool.and_eq_true, decide_eq_true_eq] at h
      obtain ⟨⟨rfl, rfl⟩, h⟩ := h
      refine psImp (ps_set (nd_k C) n2 (.inl (C.at0 l3)) (pe_op op_cat (pe_var n2 (.inl (C.at0 l3)) (by decide) (by decide)) (pe_lst (pa_txt (a := a) h))) rfl (.inr (C.at0 l3))) fun E σ H ⟨H0, m1, m2, l', k, e, q⟩ => ?_
      cases m2 with
      | none => cases e
      | some l =>
        simp only [stp] at e
        split at e
        · rename_i hz
          cases e
          obtain ⟨r, r1, r2, r3⟩ := k.s2 l rfl
          refine ⟨.ref r, r1, k.e0, by rw [List.length_map]; exact le_line (by omega), fun p hp => ⟨r, p, l, _, rfl, rfl, grow_new hp _ _ r2, upd_same, by rw [List.length_map]; exact le_line hz, fun t ht => ?_⟩⟩
          exact q _ _ (k.new2 ((grow_new hp).trans (grow_new ht)) (Same.free (grow_new hp) ht) upd_same)
        · cases e
    · cases h
  · rename_i n x xp m apos e cpos pos
    simp only [Bool.and_eq_true, decide_eq_true_eq] at h
    obtain ⟨⟨⟨rfl, rfl⟩, hl⟩, h⟩ := h
    have st := isCall_star h
    refine psImp (ps_expr (pe_bm PySem.F.plainAttrs_list PySem.F.slot_list_append PySem.F.type_list_append mt_append (pe_var n1 (.inl (C.at0 l2)) (by decide) (by decide)) (pa_cons (pe_kind C h ok) pa_nil (star_cons st)) rfl
      (few_ok (by rw [List.all_cons, st]; rfl) (by show 1 < 29; decide)) hl (star_cons st) rfl) rfl) fun E σ H ⟨H0, m1, m2, l', k, e, q⟩ => ?_
    cases m1 with
    | none => cases e
    | some l =>
      cases m2 with
      | some _ => cases e
      | none =>
        simp only [stp] at e
        split at e
        · rename_i hz
          cases e
          obtain ⟨r, r1, r2, r3⟩ := k.s1 l rfl
          refine ⟨.ref r, r1, .inl ⟨rfl, l, SqL.of r2⟩, k.e0, ⟨r, l, _, rfl, rfl, r2, Nat.lt_of_le_of_lt hz (by decide), ?_⟩⟩
          refine q _ _ ⟨k.e0, k.len, fun b o hb => ?_, fun l' el => ?_, fun l' el => by cases el⟩
          · have nb : b ≠ r := fun z => by rw [z, r3] at hb; cases hb
            rw [upd_ne nb]
            exact k.gr _ _ hb
          · cases el
            exact ⟨r, r1, upd_same, r3⟩
        · cases e
  · cases h
def picked : List Str → List Bool → List Str
  | w :: ws, b :: bs => if b = true then w :: picked ws bs else picked ws bs
  | _, _ => []
omit C in
theorem picked_len : ∀ (ws : List Str) (bs : List Bool), (picked ws bs).length ≤ ws.length
  | [], _ => Nat.le_refl _
  | w :: ws, [] => Nat.zero_le _
  | w :: ws, b :: bs => by
    have h := picked_len ws bs
    unfold picked
    split
    · exact Nat.succ_le_succ h
    · exact Nat.le_succ_of_le h
omit C in
theorem picked_drop {ws : List Str} {bs : List Bool} {i : Nat} {w : Str} {b : Bool} (h1 : ws[i]? = some w) (h2 : bs[i]? = some b) : picked (ws.drop i) (bs.drop i) = if b = true then w :: picked (ws.drop (i + 1)) (bs.drop (i + 1)) else picked (ws.drop (i + 1)) (bs.drop (i + 1)) := by
  obtain ⟨l1, e1⟩ := List.getElem?_eq_some_iff.mp h1
  obtain ⟨l2, e2⟩ := List.getElem?_eq_some_iff.mp h2
  rw [List.drop_eq_getElem_cons l1, List.drop_eq_getElem_cons l2, e1, e2]
  rfl
def tKr (a : Addr) : TS := fun E σ H => ∃ H0 ws bs, KI H0 a (some (bs.map .bl)) (some (ws.map .str)) σ H ∧ ws.length = bs.length ∧ ws.length ≤ 1000 ∧ (((picked ws bs).map (·.length)).sum + (picked ws bs).length * 1 ≤ 16777216) ∧
  ∀ H', Grow H0 H' → E.rt (.str (Txt.join " " (picked ws bs))) H'
theorem ps_kret {s : Stmt} (h : retB sc s = true) : PS Y s (tKr a) := by
  obtain ⟨l1, l2, l3, l4, l5⟩ := C.loc
  have n1 : Y.N[1]? = some (Str.ofString "some") := by rw [C.names]; rfl
  have n2 : Y.N[2]? = some (Str.ofString "words") := by rw [C.names]; rfl
  have n3 : Y.N[3]? = some (Str.ofString "word") := by rw [C.names]; rfl
  have n4 : Y.N[4]? = some (Str.ofString "good") := by rw [C.names]; rfl
  unfold retB at h
  split at h
  · rename_i b j1 q1 m apos w p1 w2 p2 g p3 k1 p4 z p5 x p6 y p7 p8 g2 p9 as scope p10 cpos p11
    simp only [Bool.and_eq_true, decide_eq_true_eq] at h
    obtain ⟨⟨⟨⟨⟨⟨⟨⟨⟨⟨⟨⟨⟨rfl, rfl⟩, hl⟩, rfl⟩, rfl⟩, rfl⟩, rfl⟩, rfl⟩, rfl⟩, rfl⟩, rfl⟩, hb⟩, hw⟩, hg⟩ := h
    have ok : BlkOk Y.N Y.env.scope scope [("word", 3), ("good", 4)] := by
      unfold blkB at hb
      simp only [Bool.and_eq_true, decide_eq_true_eq, List.all_eq_true, Bool.or_eq_true, Bool.not_eq_true', decide_eq_false_iff_not] at hb
      obtain ⟨⟨⟨⟨h1, h2⟩, h3⟩, h4⟩, h5⟩ := hb
      refine ⟨h1, h2, fun p hp => ?_, fun y hy e => ?_, fun y hy e => ?_⟩
      · simp only [List.mem_cons, List.not_mem_nil, or_false] at hp
        rcases hp with rfl | rfl
        · exact n3
        · exact n4
      · rw [C.scope]
        rcases h4 y hy with (h | h) | h
        · exact absurd e h
        · exact .inl h
        · exact .inr h
      · rw [C.names]
        rcases h5 y hy with (h | h) | h
        · rw [Bool.or_eq_false_iff, decide_eq_false_iff_not, decide_eq_false_iff_not] at h
          rcases e with e | e
          · exact absurd e h.1
          · exact absurd e h.2
        · rw [List.any_eq_true] at h
          obtain ⟨p, hp, e⟩ := h
          exact .inl (List.mem_map.mpr ⟨p, hp, of_decide_eq_true e⟩)
        · refine .inr fun hm => ?_
          rw [List.any_eq_false] at h
          exact h y.1 hm (by simp)
    have nd := nd_k C
    have sw : ∀ (x : Str) (s : Shared) (H : Hp) (Cl : Addr) (cl : List (Str × Addr)) (fp : List Addr), plL scope x = true → (blkH Y s H scope (compEnvC scope cl Cl Y.env) fp).env.scope.names.lookup x = some .local := fun x s H Cl cl fp h => by
      show (relS scope Y.env.scope).names.lookup x = some .local
      exact lookup_relS_keep (by decide) (of_decide_eq_true h)
    have hi : PIH Y (.Tuple [.Name "word" p2, .Name "good" p3] k1 p4) (.Call (.Name "zip" p5) [.Name "words" p6, .Name "some" p7] [] p8) (iZipH Y.K (tCons (tVar 2) (tCons (tVar 1) tNil))) :=
      pi_zipH (C.gl l5) C.zip (pa_cons (pe_var n2 (.inl (C.at0 l3)) (by decide) (by decide)) (pa_cons (pe_var n1 (.inl (C.at0 l2)) (by decide) (by decide)) pa_nil rfl) rfl) rfl rfl
    have hlc : PE Y (.ListComp (.Name "word" p1) [⟨.Tuple [.Name "word" p2, .Name "good" p3] k1 p4, .Call (.Name "zip" p5) [.Name "words" p6, .Name "some" p7] [] p8, [.Name "good" p9], 0⟩] scope p10)
      (tLc (iZipH Y.K (tCons (tVar 2) (tCons (tVar 1) tNil))) (gTup Y.K 2 (gCons (gName 3) (gCons (gName 4) gNil))) (tB (tVar 4)) (tVar 3) [3, 4]) := pe_lcH (g := gTup Y.K 2 (gCons (gName 3) (gCons (gName 4) gNil))) (tt := tB (tVar 4)) (te := tVar 3) (pos := p10) (elt := .Name "word" p1) (ifs := [.Name "good" p9]) C.hot (nd_k C) hi ok
      (fun s H Cl cl fp => pg_tupH (X := blkH Y s H scope (compEnvC scope cl Cl Y.env) fp) (n := 2) C.hot (pgs_cons (pg_name (show (blkH Y s H scope (compEnvC scope cl Cl Y.env) fp).N.Nodup from nd) n3 (.inl (sw _ s H Cl cl fp hw)) (.inr (sw _ s H Cl cl fp hw))) (pgs_cons (pg_name (show (blkH Y s H scope (compEnvC scope cl Cl Y.env) fp).N.Nodup from nd) n4 (.inl (sw _ s H Cl cl fp hg)) (.inr (sw _ s H Cl cl fp hg))) pgs_nil rfl) rfl) rfl rfl)
      (fun s H Cl cl fp => pts_one (pt_val (pe_var n4 (.inl (sw _ s H Cl cl fp hg)) (by decide) (by decide)) fun _ => rfl))
      (fun s H Cl cl fp => pe_var n3 (.inl (sw _ s H Cl cl fp hw)) (by decide) (by decide)) (fun _ => rfl)
    refine psImp (ps_ret (pe_bm PySem.F.plainAttrs_str PySem.F.slot_str_join PySem.F.type_str_join mt_join pe_str (pa_cons hlc pa_nil rfl) rfl (few_ok rfl (by show 1 < 29; decide)) hl rfl rfl)) fun E σ H ⟨H0, ws, bs, k, he, hz, hsz, q⟩ => ?_
    obtain ⟨r1, a1, a2, a3⟩ := k.s1 _ rfl
    obtain ⟨r2, b1, b2, b3⟩ := k.s2 _ rfl
    refine ⟨rfl, .ref r2, b1, .ref r1, a1, r2, r1, _, _, rfl, SqL.of b2, SqL.of a2, fun D hD => ?_⟩
    have nD1 : r1 ≠ D := fun z => by rw [z, hD] at a2; cases a2
    have nD2 : r2 ≠ D := fun z => by rw [z, hD] at b2; cases b2
    let Pv : Nat → Hp → Prop := fun i H1 => i ≤ ws.length ∧ (∀ b o, b ≠ D → H b = some o → H1 b = some o) ∧ ∃ acc : List Str, H1 D = some (.lst (acc.map .str)) ∧ acc.length ≤ i ∧ acc ++ picked (ws.drop i) (bs.drop i) = picked ws bs
    refine ⟨fun i m H1 => m = ws.length - i ∧ Pv i H1, ⟨ws.length, by simp, Nat.zero_le _, fun b o nb e => by rw [upd_ne nb]; exact e, [], upd_same, Nat.le_refl _, rfl⟩, ?_⟩
    rintro i m H1 ⟨rfl, hi, kp, acc, hacc, hal, hpk⟩
    have g1 : SqL Y.K H1 r1 (bs.map .bl) := SqL.of (kp _ _ nD1 a2)
    have g2 : SqL Y.K H1 r2 (ws.map .str) := SqL.of (kp _ _ nD2 b2)
    by_cases hlt : i < ws.length
    · have e1 : ws[i]? = some ws[i] := List.getElem?_eq_getElem hlt
      have e2 : bs[i]? = some (bs[i]'(by omega)) := List.getElem?_eq_getElem (by omega)
      refine .inr ⟨⟨_, _, _, _, g2, g1, by rw [List.getElem?_map, e1]; rfl, by rw [List.getElem?_map, e2]; rfl⟩, Pv (i + 1), fun H' p => ⟨ws.length - (i + 1), by omega, rfl, p⟩, fun v H' yl => ?_⟩
      obtain ⟨T, x, y, rfl, hT, rfl, x1, y1⟩ := yl
      have x1 := x1 _ g2
      have y1 := y1 _ g1
      rw [List.getElem?_map, e1] at x1
      rw [List.getElem?_map, e2] at y1
      cases x1
      cases y1
      have nT : ∀ b o, H1 b = some o → b ≠ T := fun b o e z => by rw [z, hT] at e; cases e
      refine ⟨T, _, rfl, SqT.of upd_same, rfl, _, _, rfl, _, _, rfl, rfl, ?_⟩
      have ls : (wipe σ [3, 4]).length = 5 := by rw [wipe_length]; exact k.len
      refine ⟨?_, ⟨_, List.getElem?_set_self (by rw [List.length_set, ls]; decide), bs[i]'(by omega), rfl, ?_⟩⟩
      · refine (wipe_eq (σ := wipe σ [3, 4]) (by rw [List.length_set, List.length_set]) fun j hj => ?_).trans (wipe_wipe σ [3, 4])
        simp only [List.mem_cons, List.not_mem_nil, or_false, not_or] at hj
        rw [List.getElem?_set_ne (Ne.symm hj.2), List.getElem?_set_ne (Ne.symm hj.1)]
      have nTD : D ≠ T := nT D _ hacc
      have pk := picked_drop e1 e2
      have grow1 : ∀ (o : HO) b ob, b ≠ D → H b = some ob → upd (upd H1 T (.tup [.str ws[i], .bl (bs[i]'(by omega))])) D o b = some ob := fun o b ob nb e => by
        have e' := kp b ob nb e
        rw [upd_ne nb, upd_ne (nT b ob e')]
        exact e'
      cases hbi : bs[i]'(by omega) with
      | false =>
        rw [hbi] at pk
        refine iteF ⟨hlt, fun b ob nb e => ?_, acc, by rw [upd_ne nTD]; exact hacc, by omega, ?_⟩
        · have e' := kp b ob nb e
          rw [upd_ne (nT b ob e')]
          exact e'
        · rw [← hpk, pk]
          rfl
      | true =>
        rw [hbi] at pk
        refine iteT ⟨_, (by rw [List.getElem?_set_ne (by decide)]; exact List.getElem?_set_self (by rw [ls]; decide)), acc.map .str, by rw [upd_ne nTD]; exact hacc, by rw [List.length_map]; exact Nat.lt_of_lt_of_le (Nat.lt_of_le_of_lt hal (Nat.lt_of_lt_of_le hlt hz)) (by decide), hlt, fun b ob nb e => ?_, acc ++ [ws[i]], by rw [upd_same, List.map_append]; rfl, by simp; omega, ?_⟩
        · have e' := kp b ob nb e
          rw [upd_ne nb, upd_ne (nT b ob e')]
          exact e'
        · rw [← hpk, pk]
          simp
    · have ei : i = ws.length := by omega
      subst ei
      rw [List.drop_length] at hpk
      have hpk : acc = picked ws bs := by rw [← hpk]; simp [picked]
      subst hpk
      refine .inl ⟨⟨⟨_, g2, by rw [List.length_map]; exact Nat.le_refl _⟩, _, g1⟩, _, D, _, rfl, rfl, .inl (SqL.of hacc), hsz, q _ fun b o e => ?_⟩
      have e' := k.gr b o e
      exact kp b o (fun z => by rw [z, hD] at e'; cases e') e'
  · cases h
end
end G
set_option maxHeartbeats 4000000
namespace G
open PySem PySem.Spec PyProof.Rows L2 HotX L2H
def tKb (a : Addr) (fl : Str → Bool) : List KS → TS
  | [] => tKr a
  | k :: ks => tSeq (tKd1 a fl k) (tKb a fl ks)
def runK (fl : Str → Bool) : List KS → Option (List V) × Option (List V) → Option (Option (List V) × Option (List V))
  | [], s => some s
  | k :: ks, s => (stp fl k s).bind (runK fl ks)
section
variable {Y : Cx} {a D : Addr} {oe : Obj} {fl : Str → Bool} {sc : Scope}
theorem pss_kind (C : KCx Y a D oe fl sc) : ∀ {ks : List KS} {ss : List Stmt}, kBody sc ks ss = true → (∀ k ∈ ks, KS.ok Y D fl sc k) → PSs Y ss (tKb a fl ks)
  | [], [], h, _ => by cases h
  | [], [s], h, _ => pss_one (ps_kret C h)
  | [], _ :: _ :: _, h, _ => by cases h
  | _ :: _, [], h, _ => by cases h
  | k :: ks, s :: ss, h, ok => by
    have h : (ksB k s && kBody sc ks ss) = true := h
    rw [Bool.and_eq_true] at h
    exact pss_cons (ps_kind C h.1 (ok k List.mem_cons_self)) (pss_kind C h.2 fun j hj => ok j (List.mem_cons_of_mem _ hj))
theorem tKb_run {H0 : Hp} {ws : List Str} {bs : List Bool} {E : Ends} (h1 : ws.length = bs.length) (h2 : ws.length ≤ 1000) (h3 : ((picked ws bs).map (·.length)).sum + (picked ws bs).length * 1 ≤ 16777216) (q : ∀ H', Grow H0 H' → E.rt (.str (Txt.join " " (picked ws bs))) H') :
    ∀ (ks : List KS) (l1 l2 : Option (List V)) (σ : L2.St) (H : Hp), KI H0 a l1 l2 σ H → runK fl ks (l1, l2) = some (some (bs.map .bl), some (ws.map .str)) → tKb a fl ks E σ H
  | [], l1, l2, σ, H, k, e => by
    cases e
    exact ⟨H0, ws, bs, k, h1, h2, h3, q⟩
  | c :: ks, l1, l2, σ, H, k, e => by
    obtain ⟨l', e1, e2⟩ := Option.bind_eq_some_iff.mp e
    exact ⟨H0, l1, l2, l', k, e1, fun σ' H' k' => tKb_run h1 h2 h3 q ks l'.1 l'.2 σ' H' k' e2⟩
end
theorem run_hot {CX : CXT} {P : Program} {w : World} {K : PySem.W.Frag} {mg : Str → Option Value} {base : Heap} {k : Nat} {f : Addr} {name qual : Str} {params : Arguments} {body : List Stmt} {scope : Scope} {dV kV doc pm cdv ct oc : Value} {an od : Option Addr}
    {osl : Array (Option Value)} {N ps : List Str} {A : Around} {outer : List Env} {s : Shared} {H : Hp} {args : Args} {us : List Value} {vs : List V} {Q : VK} {E : XK} {p : Addr × Obj}
    (lk : K.lookup f = some ⟨oc, od, .func (PySem.W.fnOf name qual params body scope dV kV doc pm an cdv ct), osl⟩) (hcd : PySem.W.codeIn K cdv qual = true) (S : FnScope N ps scope) (hr : RoomH (k + 1) A) (hp : PinOk outer H s p) (e0 : Env0 P w K mg base A outer s H)
    (hb : BindsTo s (PySem.W.fnOf name qual params body scope dV kV doc pm an cdv ct) args (ps.zip us)) (r : Vals vs us) (hl : vs.length = ps.length)
    (run : ∃ t, PSs (cxH CX P w K mg base N qual scope f cdv A outer s H E p) body t ∧ t { nx := fun _ H' => Q .non H', rt := Q } (L2.start N vs) H) : codeAny (model P w) A (.call (.ref f) args) (L2.CR CX outer P w H s Q E) s := by
  have KX : K.In s.heap := e0.mod.kin.keeps fun b o e => (e0.bs b o e).1
  have lim : s.heap.NoLimit := e0.mod.nolimit.keeps fun b o e => (e0.bs b o e).1
  have kinds : ∀ y ∈ ps.zip us, scope.names.lookup y.1 = some .local ∨ (scope.names.lookup y.1 = some .cell ∧ ((cellsFrom (s.heap.objs.size + 1) scope.names []).lookup y.1).isSome = true) := fun y hy =>
    (S.par y.1 (List.of_mem_zip (show (y.1, y.2) ∈ ps.zip us from hy)).1).elim .inl fun q => .inr ⟨q, PySem.W.cellsFrom_some _ _ _ (.inl q)⟩
  refine codeAny_call_function hr.depth (KX _ _ lk) rfl S.co S.gen rfl (PySem.W.codeRec_of KX hcd) (hb _ _ _ _ (wpAny_newFunctionEnv_cells S.kind kinds fun env he s1 x => ?_))
  subst he
  refine ⟨lim.keeps x.toInCall.keep, codeAny_func ?_⟩
  obtain ⟨t, ht, hq⟩ := run
  have I : Inv (cxH CX P w K mg base N qual scope f cdv A outer s H E p) [] (L2.start N vs) H s1 := inv_startH S hp e0 hl r x
  refine wpAny_mono (ht.run [] s1 (L2.start N vs) H _ I hq) (fun fl s' hs => ?_) fun e s' hs => hs
  cases fl with
  | ret u =>
    obtain ⟨v, σ', H', J, rv, q⟩ := hs
    exact ⟨v, H', J.os, J.bare, J.base, J.hok, rv, q⟩
  | next =>
    obtain ⟨σ', H', J, q⟩ := hs
    exact ⟨V.non, H', J.os, J.bare, J.base, J.hok, rfl, q⟩
  | brk =>
    obtain ⟨_, _, _, z⟩ := hs
    exact False.elim z
  | cont =>
    obtain ⟨_, _, _, z⟩ := hs
    exact False.elim z
structure KDef (K : PySem.W.Frag) (mg : Str → Option Value) (ks : List KS) : Prop where
  ex : ∃ (g : Addr) (gd : FuncData) (st : Stmt), mg "_law_kinds" = some (.ref g) ∧ L2.Fun K "_law_kinds" "_law_kinds" st g gd ∧ L2.Binds K gd ["e"] [] ∧ FnScope kNames ["e"] (defScope st) ∧ kScope (defScope st) = true ∧ kBody (defScope st) ks (defBody st) = true ∧
    ∀ k ∈ ks, match k with
      | .kind _ ns => ∀ n ∈ ns, glB (defScope st) n = true ∧ nmOk n = true
      | .word _ _ => True
      | .app n => glB (defScope st) n = true ∧ nmOk n = true
  isn : mg "isinstance" = none
  zip : mg "zip" = none
structure KExc (K : PySem.W.Frag) (mg : Str → Option Value) (ks : List KS) (x : Str) (C : Addr) : Prop where
  ec : ExcC K C
  ex : ∃ (fl : Str → Bool) (ws : List Str) (bs : List Bool), (∀ k ∈ ks, match k with
      | .kind _ ns => ∀ n ∈ ns, KIn K mg C fl n
      | .word _ _ => True
      | .app n => KIn K mg C fl n) ∧ runK fl ks (none, none) = some (some (bs.map .bl), some (ws.map .str)) ∧ ws.length = bs.length ∧ ws.length ≤ 1000 ∧ ((picked ws bs).map (·.length)).sum + (picked ws bs).length * 1 ≤ 16777216 ∧ Txt.join " " (picked ws bs) = x ++ " +"
theorem pe_kinds {Z : Cx} {a C : Addr} {oe : Obj} {ks : List KS} {x e : Str} {i k : Nat} {p p2 pos : Pos} (KD : KDef Z.K Z.mg ks) (KE : KExc Z.K Z.mg ks x C) (hp : (a, oe) ∈ Z.pn) (ho : Hot1 Z.A (a, oe)) (hz : Zc (.ref C) none oe) (hf : ∃ vs, oe.data = .fields vs) (hr : RoomH (k + 1) Z.A)
    (hg : Gl Z "_law_kinds") (hn : Z.N[i]? = some e) (hv : Vis Z.env.scope e) (hd : (e == ("__debug__" : Str)) = false) (hcd : (e == ("__classdict__" : Str)) = false) :
    PE Z (.Call (.Name "_law_kinds" p) [.Name e p2] [] pos) (fun σ H Q => σ[i]? = some (some (.ref a)) ∧ ∀ H', Grow H H' → Q (.str (x ++ " +")) H') := by
  obtain ⟨g, gd, st, g1, g2, g3, g4, g5, g6, g7⟩ := KD.ex
  obtain ⟨fl, ws, bs, k1, k2, k3, k4, k5, k6⟩ := KE.ex
  obtain ⟨c1, c2, c3, c4, c5, c6, c7, c8, c9, rfl, q1, q2⟩ := g2.ex
  refine ⟨fun pins s σ H Q I ⟨h0, q⟩ => ?_⟩
  refine wpAny_Call_Name_kw (ld_glob I hg g1 ?_ (by decide))
  refine PySem.W.callWith_K (h₀ := Z.base) I.ok.mod.kin g2.kp (thn ((pa_cons (pe_var (pos := p2) hn hv hd hcd) pa_nil rfl).run pos pins s σ H (fun vs H1 => vs = [.ref a] ∧ H1 = H) I ⟨.ref a, h0, rfl, rfl⟩) fun us s1 ⟨vs, H1, I1, r1, ev, eH⟩ => ⟨I1.kIn, ?_⟩) rfl rfl
  subst ev
  subst eH
  have P1 := I1.pin (a, oe) (List.mem_append_left _ hp)
  have hpin : PinOk Z.stack H1 s1 (a, oe) := ⟨P1.1, P1.2.1, fun hm => (List.mem_cons.mp (I1.stkSub a hm)).elim P1.2.2.1 P1.2.2.2.1, P1.2.2.2.2⟩
  have hl : us.length = 1 := by rw [← r1.length]; rfl
  have b := g3 s1 us I1.kIn (by rw [List.append_nil]; exact hl)
  rw [List.append_nil] at b
  refine wpAny_call (codeAny_mono (run_hot (k := k) (CX := CX0) (E := E0) (Q := Q) q1 q2 g4 hr hpin I1.env0 b r1 rfl ?_) fun r s' hq => ?_)
  · let Y := cxH CX0 Z.prog Z.w Z.K Z.mg Z.base kNames "_law_kinds" (defScope st) g c7 Z.A Z.stack s1 H1 E0 (a, oe)
    have CY : KCx Y a C oe fl (defScope st) := ⟨⟨(a, oe), ho, List.mem_cons_self⟩, rfl, rfl, List.mem_cons_self, KE.ec, hz, hf, KD.isn, KD.zip, g5⟩
    refine ⟨_, pss_kind CY g6 fun j hj => ?_, tKb_run k3 k4 k5 (fun H' g => ?_) ks none none _ H1 ⟨rfl, rfl, Same.refl _, (fun l z => nomatch z), (fun l z => nomatch z)⟩ k2⟩
    · have z1 := g7 j hj
      have z2 := k1 j hj
      cases j with
      | kind add ns => exact fun n hn => ⟨(z1 n hn).1, (z1 n hn).2, z2 n hn⟩
      | word add ns => exact trivial
      | app n => exact ⟨z1.1, z1.2, z2⟩
    · show Q _ H'
      rw [k6]
      exact q H' g
  · cases r with
    | error e => exact (show False from hq).elim
    | ok fl =>
      cases fl with
      | ret u => exact I1.after hq
      | next => exact False.elim hq
      | brk => exact False.elim hq
      | cont => exact False.elim hq
end G
set_option maxHeartbeats 4000000
namespace G
open PySem PySem.Spec PyProof.Rows L2 HotX L2H
abbrev Cl := Value × (Addr → Value → Option Addr → TS)
def wCl (K : PySem.W.Frag) (n i : Nat) (E : Ends) : List Cl → WX
  | [] => fun _ _ _ _ => False
  | (c, ts) :: r => fun cls d σ H => ∃ b, PySem.W.exmOne K cls c = some b ∧ (b = false → wCl K n i E r cls d σ H) ∧
      (b = true → σ.length = n → ∀ a, H a = none → ts a cls d { nx := fun σ' H' => E.nx (σ'.set i none) H', rt := E.rt, bk := fun σ' H' => E.bk (σ'.set i none) H', ct := fun σ' H' => E.ct (σ'.set i none) H' } (σ.set i (some (.ref a))) H)
inductive ClOk (X : Cx) (n : Str) : List ExceptHandler → List Cl → Prop
  | nil : ClOk X n [] []
  | cons {x : Str} {c : Value} {ts : Addr → Value → Option Addr → TS} {s₀ : Stmt} {ss : List Stmt} {p q : Pos} {hs : List ExceptHandler} {l : List Cl} (names : Names X x c)
      (suite : ∀ (a : Addr) (oe : Obj) (cls : Value) (d : Option Addr) (pn : List (Addr × Obj)), L2N.Zn cls d oe → (∃ vs, oe.data = .fields vs) → PSs (X.suite a ((a, oe) :: pn)) (s₀ :: ss) (ts a cls d)) (rest : ClOk X n hs l) :
      ClOk X n (.ExceptHandler (some (.Name x p)) (some n) (s₀ :: ss) q :: hs) ((c, ts) :: l)
section
variable {X : Cx} {n : Str} {i : Nat} {body : List Stmt} {h₀ : ExceptHandler} {hds : List ExceptHandler} {l : List Cl} {pos : Pos} {tb : WX → TS}
theorem ps_try_cl (es : X.stack = X.env :: X.outer) (ef : X.env.frame = some X.env.locals) (nd : X.N.Nodup) (en : X.N[i]? = some n) (el : X.env.kindOf n = some .local)
    (hb : ∀ (W : WX) (pn : List (Addr × Obj)) (xe : Value → Shared → Prop), L2N.Takes (X.tr pn xe) W → PassesOwn (model X.prog X.w) X.A X.env xe → PSs (X.tr pn xe) body (tb W)) (hh : ClOk X n (h₀ :: hds) l) :
    PS X (.Try body (h₀ :: hds) [] [] pos) (fun E σ H => tb (wCl X.K X.N.length i E l) E σ H) := by
  refine ⟨fun pins s σ H E I h => ?_⟩
  have ok := I.ok
  have fr : X.A.frames = some (X.env :: X.outer) := by rw [ok.frames, es]
  let catch' : Value → Shared → Prop := fun e s₁ => wpAny (model X.prog X.w) X.A (noteFrame e X.env) (fun _ s₂ => wpAny (model X.prog X.w) X.A (setFlight e none) (fun _ s₃ => wpAny (model X.prog X.w) X.A (handleBy e X.env (h₀ :: hds)) (SP X pins E) X.xe s₃) X.xe s₂) X.xe s₁
  have takes : L2N.Takes (X.tr (X.pn ++ pins) catch') (wCl X.K X.N.length i E l) := fun u s' xx => by
    obtain ⟨a, B, sI, pins', σ', H', cls, d, rfl, J', nb, up, sky, na, os, ag, w⟩ := xx
    have J : Inv X pins σ' H' sI := J'.ofTry ok
    have sky : Sky B (X.env :: X.outer) a (L2N.Zn cls d) X.env.locals s'.heap := by rw [← es]; exact sky
    show wpAny (model X.prog X.w) X.A (noteFrame (.ref a) X.env) _ _ _
    refine L2N.Sky.land L2N.Zn.steady fr ef sky fun h3 fl up3 => ?_
    have J3 : Inv X pins σ' H' { s' with heap := h3 } := J.landed nb fl.1 (up.trans up3) os ag
    obtain ⟨oe, vs, he, hz, hd⟩ := fl.there
    have out : a ∉ frs (X.env :: X.outer) := fun hm => by
      obtain ⟨_, o', e', nf⟩ := fl.2.2.1.mem hm
      rw [he] at e'
      cases e'
      exact nf _ hd
    have nL : a ≠ X.env.locals := fun z => out (List.mem_filterMap.mpr ⟨X.env, List.mem_cons_self, by rw [ef, z]⟩)
    have nF : a ∉ X.fs := fun hm => by
      obtain ⟨e, e1, e2⟩ := List.mem_filterMap.mp hm
      exact out (List.mem_filterMap.mpr ⟨e, List.mem_cons_of_mem _ e1, e2⟩)
    have S3 := J3.suite he hd na nL nF
    have LT : PySem.W.Looks (model X.prog X.w) h3 (typeOf (.ref a)) cls := fun A Q E s k q => wpAny_typeOf_ref (k _ _ he) (by rw [hz.1]; exact q)
    have go : ∀ {hs : List ExceptHandler} {l : List Cl}, ClOk X n hs l → wCl X.K X.N.length i E l cls d σ' H' → wpAny (model X.prog X.w) X.A (handleBy (.ref a) X.env hs) (SP X pins E) X.xe { s' with heap := h3 } := by
      intro hs l hk
      induction hk with
      | nil => exact fun z => z.elim
      | @cons x c ts s₀ ss p q hs l names suite rest ih =>
        intro w
        obtain ⟨b, w1, w2, w3⟩ := w
        refine wpAny_handleBy_cons (codeAny_handlers_test ?_) (by intro z; cases z)
        have test : ∀ {Q : Value → Shared → Prop} {E : Value → Shared → Prop}, Q c { s' with heap := h3 } → wpAny (model X.prog X.w) (X.A.mark (some (.ref a))) (eval (.Name x p) X.env) Q E { s' with heap := h3 } := fun {Q E} z => by
          obtain ⟨g1, g2, g3⟩ := names
          rcases g3 with m | ⟨m, v, nn⟩
          · exact ld_glob (X := X.suite a ((a, oe) :: (X.pn ++ pins))) S3 g1 m z g2
          · exact ld_blt (X := X.suite a ((a, oe) :: (X.pn ++ pins))) S3 g1 m v z nn g2
        refine test ((PySem.W.exm_one (M := model X.prog X.w) J3.kIn LT w1).here ?_)
        cases b with
        | false =>
          show wpAny (model X.prog X.w) X.A (handleBy (.ref a) X.env hs) _ _ _
          exact ih (w2 rfl)
        | true =>
          refine codeAny_handlers_suite_as (HandSPX.lands_againZ fl fun h4 fl4 up4 => ?_)
          have J4 : Inv X pins σ' H' { s' with heap := h4 } := J.landed nb fl4.1 ((up.trans up3).trans up4) os ag
          obtain ⟨oe4, vs4, he4, hz4, hd4⟩ := fl4.there
          have S4 := J4.suite he4 hd4 na nL nF
          refine store_ok (X := X.suite a ((a, oe4) :: (X.pn ++ pins))) (v := .ref a) S4 nd en (.inl el) rfl (fun s5 S5 => ?_) (.inr el)
          refine wpAny_mono ((suite a oe4 cls d (X.pn ++ pins) hz4 ⟨_, hd4⟩).run [] s5 _ H' _ S5 (w3 rfl J.len a na)) (fun f s6 hsp => ?_) (fun _ _ z => False.elim z)
          have fin : ∀ {σ6 : L2.St} {H6 : Hp} {Q : Shared → Prop}, Inv (X.suite a ((a, oe4) :: (X.pn ++ pins))) [] σ6 H6 s6 → (∀ s7, Inv X pins (σ6.set i none) H6 s7 → Q s7) → wpAny (model X.prog X.w) X.A (do bindName X.env n .none; unbindBehindTheSuite X.env n q) (fun _ s7 => Q s7) X.xe s6 :=
            fun {σ6 H6 Q} S6 hq => gone_ok (S6.unsuite ok) nd en el hq
          cases f with
          | next =>
            obtain ⟨σ6, H6, S6, q6⟩ := hsp
            exact fin S6 fun s7 J7 => ⟨_, _, J7, q6⟩
          | brk =>
            obtain ⟨σ6, H6, S6, q6⟩ := hsp
            exact fin S6 fun s7 J7 => ⟨_, _, J7, q6⟩
          | cont =>
            obtain ⟨σ6, H6, S6, q6⟩ := hsp
            exact fin S6 fun s7 J7 => ⟨_, _, J7, q6⟩
          | ret u =>
            obtain ⟨v6, σ6, H6, S6, r6, q6⟩ := hsp
            exact fin S6 fun s7 J7 => ⟨_, _, _, J7, r6, q6⟩
    exact go hh w
  refine wpAny_Try_except (wpAny_mono ((hb _ (X.pn ++ pins) catch' takes PassesOwn.looking).run [] s σ H E (I.toTry _) h) (fun f s1 hsp => ?_) fun e s1 he => he)
  cases f with
  | next =>
    obtain ⟨σ', H', J', q⟩ := hsp
    exact wpAny_execs_nil ⟨σ', H', J'.ofTry ok, q⟩
  | brk =>
    obtain ⟨σ', H', J', q⟩ := hsp
    exact ⟨σ', H', J'.ofTry ok, q⟩
  | cont =>
    obtain ⟨σ', H', J', q⟩ := hsp
    exact ⟨σ', H', J'.ofTry ok, q⟩
  | ret u =>
    obtain ⟨v, σ', H', J', r, q⟩ := hsp
    exact ⟨v, σ', H', J'.ofTry ok, r, q⟩
end
end G
set_option maxHeartbeats 4000000
namespace G
open PySem PySem.Spec PyProof.Rows L2 HotX L2H LamX
theorem peWeak {X : Cx} {e : Expr} {t : TE} (h : PE X e t) : PE X e (fun σ H Q => ∃ Q', t σ H Q' ∧ ∀ v H', Q' v H' → Q v H') :=
  ⟨fun pins s σ H Q I ⟨Q', q, i⟩ => thn (h.run pins s σ H Q' I q) fun v s' ⟨x, H1, I1, r, q1⟩ => ⟨x, H1, I1, r, i x H1 q1⟩⟩
def tNames : List Str := ["call_so", "found", "e"]
def kindCall : Expr → Bool
  | .Call (.Name x _) [.Name e _] [] _ => decide (x = "_law_kinds") && decide (e = "e")
  | _ => false
def toldB (sc : Scope) : List Stmt → Bool
  | [.Assign [.Name a _] (.Constant .none _ _) _, .Try [.Assign [.Name b _] (.Tuple [.Constant (.str t) _ _, .Call (.Name cs _) [] [] _] _ _) _]
      [.ExceptHandler (some (.Name x _)) (some e1) (_ :: _) _, .ExceptHandler (some (.Name y _)) (some e2) [.Assign [.Name d _] (.Tuple [k] _ _) _] _] [] [] _, .Return (some (.Name r _)) _] =>
    decide (a = "found") && decide (b = "found") && decide (t = "told") && decide (cs = "call_so") && decide (x = "TooMany") && decide (e1 = "e") && decide (y = "MakeError") && decide (e2 = "e") && decide (d = "found") && kindCall k && decide (r = "found") &&
      plL sc "found" && plL sc "e" && plL sc "call_so" && glB sc "TooMany" && glB sc "MakeError" && glB sc "_law_kinds"
  | _ => false
structure ToldS (K : PySem.W.Frag) (mg : Str → Option Value) (exc : Str → Bool) (ks : List KS) : Prop where
  ex : ∃ (g : Addr) (gd : FuncData) (st : Stmt), mg "_law_told" = some (.ref g) ∧ L2.Fun K "_law_told" "_law_told" st g gd ∧ L2.Binds K gd ["call_so"] [] ∧ FnScope tNames ["call_so"] (defScope st) ∧ toldB (defScope st) (defBody st) = true
  kd : KDef K mg ks
  cl : ∃ (CT CM : Addr), mg "TooMany" = some (.ref CT) ∧ mg "MakeError" = some (.ref CM) ∧ ∀ (x : Str) (C : Addr), exc x = true → mg x = some (.ref C) → KExc K mg ks x C ∧ PySem.W.exmOne K (.ref C) (.ref CT) = some false ∧ PySem.W.exmOne K (.ref C) (.ref CM) = some true
theorem told_ok {P : Program} {w : World} {K : PySem.W.Frag} {mg : Str → Option Value} {base : Heap} {exc : Str → Bool} {ks : List KS} (T : ToldS K mg exc ks) : ToldR P w K mg base exc := by
  obtain ⟨g, gd, st, g1, g2, g3, g4, g5⟩ := T.ex
  obtain ⟨CT, CM, m1, m2, cls⟩ := T.cl
  unfold toldB at g5
  split at g5
  · rename_i a p1 j1 q1 p2 b p3 t j2 q2 cs p4 p5 j3 q3 p6 x p7 e1 s0 ss p8 y p9 e2 d p10 kx j4 q4 p11 p12 p13 r p14 p15 eqb
    simp only [Bool.and_eq_true, decide_eq_true_eq] at g5
    obtain ⟨⟨⟨⟨⟨⟨⟨⟨⟨⟨⟨⟨⟨⟨⟨⟨rfl, rfl⟩, rfl⟩, rfl⟩, rfl⟩, rfl⟩, rfl⟩, rfl⟩, rfl⟩, hk⟩, rfl⟩, l1⟩, l2⟩, l3⟩, l4⟩, l5⟩, l6⟩ := g5
    have loc : ∀ {x : Str}, plL (defScope st) x = true → (defScope st).names.lookup x = some .local := fun h => of_decide_eq_true h
    have glo : ∀ {x : Str}, glB (defScope st) x = true → (defScope st).names.lookup x = some .globalImplicit := fun h => of_decide_eq_true h
    refine ⟨g, gd, st, tNames, "call_so", g1, g2, g3, g4, rfl, .inl (loc l3), rfl, rfl, fun cd A outer f c' q s H Q tl k hr act co told => ?_⟩
    rw [eqb]
    let Z := (cxOf CX0 P w K mg base tNames "_law_told" (defScope st) g cd A outer s H E0).nox
    have nd : Z.N.Nodup := (by decide : tNames.Nodup)
    have vis : ∀ {x : Str}, plL (defScope st) x = true → Vis (defScope st) x := fun h => .inl (loc h)
    have lo : ∀ {x : Str}, plL (defScope st) x = true → Loc (defScope st) x := fun h => .inl (loc h)
    let tb : WX → TS := fun W D σ H => ∃ (Ech : XK) (Q' : VK), (∀ cls d σ' H', Ech cls d H' → W cls d σ' H') ∧ σ[0]? = some (some (.ref f)) ∧ H c' = some (LamX.CodeO c' q) ∧ tl Ech H Q' ∧ ∀ v H1, Q' v H1 → ∀ p, H1 p = none → D.nx (σ.set 1 (some (.ref p))) (upd H1 p (.tup [.str "told", v]))
    let ts : Addr → Value → Option Addr → TS := fun a cls d D σ H => ∃ (x : Str) (C : Addr), exc x = true ∧ mg x = some (.ref C) ∧ cls = .ref C ∧ d = none ∧ σ[2]? = some (some (.ref a)) ∧ ∀ H', Grow H H' → ∀ p, H' p = none → D.nx (σ.set 1 (some (.ref p))) (upd H' p (.tup [.str (x ++ " +")]))
    have body : ∀ (W : WX) (pn : List (Addr × Obj)) (xe : Value → Shared → Prop), L2N.Takes (Z.tr pn xe) W → PassesOwn (model Z.prog Z.w) Z.A Z.env xe → PSs (Z.tr pn xe) [.Assign [.Name "found" p3] (.Tuple [.Constant (.str "told") j2 q2, .Call (.Name "call_so" p4) [] [] p5] j3 q3) p6] (tb W) := fun W pn xe tk po =>
      by
        have h1 : PE (Z.tr pn xe) (.Constant (.str "told") j2 q2) (tC (.str "told")) := pe_str
        refine ⟨fun pins s σ H D I ⟨Ech, Q', hE, h0, hc, ht, hi⟩ => ?_⟩
        have h2 : PE (Z.tr pn xe) (.Call (.Name "call_so" p4) [] [] p5) _ := peWeak (act W pn xe Ech p4 p5 tk hE)
        have h3 : PS (Z.tr pn xe) (.Assign [.Name "found" p3] (.Tuple [.Constant (.str "told") j2 q2, .Call (.Name "call_so" p4) [] [] p5] j3 q3) p6) _ := ps_set (X := Z.tr pn xe) (i := 1) nd rfl (lo l1) (pe_tup (pa_cons h1 (pa_cons h2 pa_nil rfl) rfl)) rfl (.inr (loc l1))
        exact (pss_one h3).run pins s σ H D I ⟨Q', ⟨h0, hc, ht⟩, fun v H1 z => ⟨(by decide : 2 ≤ sizeLine), hi v H1 z⟩⟩
    have clauses : ClOk Z "e" [.ExceptHandler (some (.Name "TooMany" p7)) (some "e") (s0 :: ss) p8, .ExceptHandler (some (.Name "MakeError" p9)) (some "e") [.Assign [.Name "found" p10] (.Tuple [kx] j4 q4) p11] p12] [(.ref CT, fun _ _ _ => tNever), (.ref CM, ts)] := by
      refine .cons ⟨glo l4, by decide, .inl m1⟩ (fun a oe cls d pn hz hf => pss_never) (.cons ⟨glo l5, by decide, .inl m2⟩ (fun a oe cls d pn hz hf => ⟨fun pins s' σ H' D I ⟨x, C, e1, e2, e3, e4, h2, hq⟩ => ?_⟩) .nil)
      subst e3
      subst e4
      obtain ⟨fv, hf⟩ := hf
      unfold kindCall at hk
      split at hk
      · rename_i xk pk ek pk2 pk3
        simp only [Bool.and_eq_true, decide_eq_true_eq] at hk
        obtain ⟨rfl, rfl⟩ := hk
        have KE := (cls x C e1 e2).1
        have h2' : PE (Z.suite a ((a, oe) :: pn)) (.Call (.Name "_law_kinds" pk) [.Name "e" pk2] [] pk3) _ := pe_kinds (i := 2) (k := k) T.kd KE List.mem_cons_self ⟨rfl, fv, hf, hz.2.2 fv hf⟩ hz.zc ⟨fv, hf⟩ ⟨hr.dp, hr.un⟩ (glo l6) rfl (vis l2) (by decide) (by decide)
        have h3 : PS (Z.suite a ((a, oe) :: pn)) (.Assign [.Name "found" p10] (.Tuple [.Call (.Name "_law_kinds" pk) [.Name "e" pk2] [] pk3] j4 q4) p11) _ := ps_set (X := Z.suite a ((a, oe) :: pn)) (i := 1) nd rfl (lo l1) (pe_tup (pa_cons h2' pa_nil rfl)) rfl (.inr (loc l1))
        exact (pss_one h3).run pins s' σ H' D I ⟨h2, fun H'' g => ⟨(by decide : 1 ≤ sizeLine), hq H'' g⟩⟩
      · cases hk
    have h1 : PS Z (.Assign [.Name "found" p1] (.Constant .none j1 q1) p2) _ := ps_set (X := Z) (i := 1) nd rfl (lo l1) pe_non rfl (.inr (loc l1))
    have h2 : PS Z (.Try _ _ [] [] p13) _ := ps_try_cl (X := Z) (i := 2) (tb := tb) rfl rfl nd rfl (loc l2) body clauses
    have h3 : PS Z (.Return (some (.Name "found" p14)) p15) _ := ps_ret (pe_var (i := 1) rfl (vis l1))
    refine ⟨_, pss_cons h1 (pss_cons h2 (pss_one h3)), ?_⟩
    refine ⟨_, _, ?_, rfl, co, told, fun v H1 hv p hp => ⟨_, rfl, hv p hp⟩⟩
    intro cls' d σ' H' ⟨x, C, e1, e2, e3, e4, hq⟩
    subst e3
    obtain ⟨_, x1, x2⟩ := cls x C e1 e2
    refine ⟨false, x1, fun _ => ⟨true, x2, fun z => Bool.noConfusion z, fun _ hl a ha => ⟨x, C, e1, e2, rfl, e4, ?_, fun H'' g p hp => ?_⟩⟩, fun z => Bool.noConfusion z⟩
    · have hl : σ'.length = 3 := hl
      match σ', hl with
      | [_, _, _], _ => rfl
    · have hl : σ'.length = 3 := hl
      match σ', hl with
      | [_, _, _], _ => exact ⟨_, rfl, hq H'' p g hp⟩
  · cases g5
end G
set_option maxHeartbeats 4000000
namespace G
open PySem PySem.Spec PyProof.Rows L2 He
structure GD where
  x : Str
  st : Stmt
  ps : List Str
  N : List Str
  f : MF
  told : Bool
def GD.dd (g : GD) : DefD := ⟨(g.x, none), g.x, g.x, defArgs g.st, defBody g.st, defScope g.st, [], []⟩
structure GDok (pres exc : Str → Bool) (g : GD) : Prop where
  sc : FnScope g.N g.ps (defScope g.st)
  np : g.f.np = g.ps.length
  nn : g.f.nn = g.N.length
  bind : ∀ (kV doc pm : Value) (an : Option Addr) (cdv ct : Value) (us : List Value), us.length = g.ps.length → bindArgs (PySem.W.fnOf g.x g.x (defArgs g.st) (defBody g.st) (defScope g.st) .none kV doc pm an cdv ct) ⟨us, []⟩ = pure (g.ps.zip us)
  ck : ∀ tb, ckB ⟨g.N, defScope g.st, pres, exc, fun _ => true, tb, g.told⟩ g.f.body (defBody g.st) = true
inductive GC where
  | str (z : Str)
  | int (i : Int)
  | tup (zs : List Str)
  | kd (kvs : List (Str × Str))
def kvOf (e : DictEntry) : Option (Str × Str) := match e.key, e.val with
  | .str x _, .str y _ => some (x, y)
  | _, _ => none
def kdB (K : PySem.W.Frag) (a : Addr) (kvs : List (Str × Str)) : Bool := match K.lookup a with
  | some ⟨_, _, .dict es _, _⟩ => decide (es.toList.map kvOf = kvs.map some)
  | _ => false
theorem kd_find : ∀ {es : List DictEntry} {kvs : List (Str × Str)}, es.map kvOf = kvs.map some → ∀ (z : Str) (o : Option D), dfind (kvs.map fun p => (.str p.1, .str p.2)) z = some o →
    (∀ e ∈ es, e.refKey = false) ∧ ((es.find? (·.key.isStr z)).map (·.val)).isSome = o.isSome ∧ ∀ d, o = some d → ∃ y u, d = .str y ∧ (es.find? (·.key.isStr z)).map (·.val) = some u ∧ RelV (.str y) u
  | [], [], _, z, o, h => by
    cases h
    exact ⟨(fun e he => by cases he), rfl, (fun d hd => by cases hd)⟩
  | [], _ :: _, e, _, _, _ => by cases e
  | _ :: _, [], e, _, _, _ => by cases e
  | e :: es, p :: kvs, he, z, o, h => by
    simp only [List.map_cons, List.cons.injEq] at he
    obtain ⟨h1, h2⟩ := he
    simp only [List.map_cons, dfind, Option.map_eq_some_iff] at h
    obtain ⟨o', h3, rfl⟩ := h
    obtain ⟨i1, i2, i3⟩ := kd_find h2 z o' h3
    unfold kvOf at h1
    split at h1
    · rename_i x t y t2 ek ev
      cases h1
      have er : e.refKey = false := by unfold DictEntry.refKey; rw [ek]
      have es' : e.key.isStr z = decide (x = z) := by
        rw [ek]
        show (x == z) = decide (x = z)
        by_cases q : x = z <;> simp [q]
      refine ⟨fun e' he' => ?_, ?_⟩
      · rcases List.mem_cons.mp he' with rfl | he'
        · exact er
        · exact i1 e' he'
      · by_cases q : x = z
        · rw [List.find?_cons, es', decide_eq_true q, if_pos q]
          refine ⟨rfl, fun d hd => ?_⟩
          cases hd
          exact ⟨y, e.val, rfl, rfl, by rw [ev]; exact ⟨t2, rfl⟩⟩
        · rw [List.find?_cons, es', decide_eq_false q, if_neg q]
          exact ⟨i2, i3⟩
    · cases h1
theorem kdB_ok {K : PySem.W.Frag} {a : Addr} {kvs : List (Str × Str)} (h : kdB K a kvs = true) (z : Str) (o : Option D) (e : dfind (kvs.map fun p => (.str p.1, .str p.2)) z = some o) :
    ∃ r, PySem.W.nsIn K a z = some r ∧ r.isSome = o.isSome ∧ ∀ d, o = some d → ∃ y u, d = .str y ∧ r = some u ∧ RelV (.str y) u := by
  unfold kdB at h
  split at h
  · rename_i q
    obtain ⟨i1, i2, i3⟩ := kd_find (of_decide_eq_true h) z o e
    refine ⟨_, ?_, i2, i3⟩
    unfold PySem.W.nsIn
    rw [q]
    rename_i es _ _
    show (match es.toList.find? (·.key.isStr z) with
      | some e => some (some e.val)
      | none => if (es.toList.any fun x => x.refKey) = true then none else some none) = some ((es.toList.find? (·.key.isStr z)).map (·.val))
    cases qf : es.toList.find? (·.key.isStr z) with
    | some e => rfl
    | none =>
      have : ¬ (es.toList.any fun x => x.refKey) = true := by
        rw [Bool.not_eq_true, List.any_eq_false]
        intro e he
        rw [i1 e he]
        exact fun z => by cases z
      exact if_neg this
  · cases h
def GC.d : GC → D
  | .str z => .str z
  | .int i => .int i
  | .tup zs => .tuple (zs.map .str)
  | .kd kvs => dctD kvs
def GC.ok (K : PySem.W.Frag) (x : Str) : GC → Bool
  | .str z => (Fa.str x z).ok K
  | .int i => (Fa.int x i).ok K
  | .tup zs => (Fa.glo x).ok K && tupB K x (zs.map Dv.str)
  | .kd kvs => (Fa.glo x).ok K && kdB K (ga K x) kvs
theorem rp_strs {K : PySem.W.Frag} {mg : Str → Option Value} {H : Hp} {F : Fz} : ∀ zs : List Str, RpAll K mg H F (zs.map V.str) (zs.map PyData.str)
  | [] => .nil
  | z :: zs => .cons (.str z) (rp_strs zs)
theorem GC.cst {K : PySem.W.Frag} {h : Heap} {mg : Str → Option Value} (X : K.In h) (G : h.Ns mainGlobals mg) {w : World} {x : Str} {g : GC} (hd : ∀ kvs, g = .kd kvs → ∃ es n, KDict K w (ga K x) es n) (c : g.ok K x = true) : CstW w K mg x g.d := by
  cases g with
  | kd kvs =>
    obtain ⟨es, n, D⟩ := hd kvs rfl
    obtain ⟨c1, c2⟩ := ba c
    exact .inl ⟨_, rfl, ga K x, es, n, glo_ok X G c1, D, kdB_ok c2⟩
  | str z =>
    obtain ⟨t, e⟩ := str_ok X G (z := z) c
    exact .inr ⟨(fun _ z => by cases z), .str z, _, e, ⟨t, rfl⟩, fun H F => .str z⟩
  | int i =>
    obtain ⟨t, e⟩ := int_ok X G (i := i) c
    exact .inr ⟨(fun _ z => by cases z), .int i, _, e, ⟨t, rfl⟩, fun H F => .int i⟩
  | tup zs =>
    obtain ⟨c1, c2⟩ := ba c
    refine .inr ⟨(fun _ z => by cases z), .ref (ga K x), _, glo_ok X G c1, rfl, fun H F => .tup (tupB_ok c2 H) ?_⟩
    have e : (zs.map Dv.str).map (Dv.v K) = zs.map V.str := by rw [List.map_map]; rfl
    rw [e]
    exact rp_strs zs
def constG (cs : List (Str × GC)) (x : Str) : Option D := ((cs.find? fun c => decide (c.1 = x)).map (·.2)).map GC.d
theorem constG_mem {cs : List (Str × GC)} {x : Str} {d : D} (h : constG cs x = some d) : ∃ g, (x, g) ∈ cs ∧ d = g.d := by
  unfold constG at h
  rw [Option.map_map] at h
  obtain ⟨c, h1, h2⟩ := Option.map_eq_some_iff.mp h
  have h3 := List.find?_some h1
  have h4 := List.mem_of_find?_eq_some h1
  have h5 : c.1 = x := of_decide_eq_true h3
  subst h5
  exact ⟨c.2, h4, h2.symm⟩
def exfl (x n : Str) : Bool := decide (n = x) || decide (n = "ValueError")
def ksNames (ks : List KS) : List Str := ks.flatMap fun
  | .kind _ ns => ns
  | .word _ _ => []
  | .app n => [n]
def excCB (K : PySem.W.Frag) (D : Addr) : Bool :=
  eqO (PySem.W.findIn K (.ref D) "__getattribute__") (some (some (.builtin "BaseException.__getattribute__"))) && eqO (PySem.W.findIn K (.ref D) "__getattr__") (some none) && decide (PySem.W.subIn K (.ref D) (.type "BaseException") = some true) && PySem.W.hasDictIn K D &&
  eqO (PySem.W.findIn K (.ref D) "__class__") (some (some (.builtin "object.__class__"))) && eqO (PySem.W.specialIn K (.builtin "object.__class__") "__get__") (some (some (.builtin "getset_descriptor.__get__"))) && decide (PySem.W.takesIn K (.builtin "object.__class__") = some true) &&
  decide (PySem.W.mroIn K D (.type "object") = some true)
theorem excCB_ok {K : PySem.W.Frag} {D : Addr} (h : excCB K D = true) : ExcC K D := by
  unfold excCB at h
  simp only [Bool.and_eq_true] at h
  obtain ⟨⟨⟨⟨⟨⟨⟨h1, h2⟩, h3⟩, h4⟩, h5⟩, h6⟩, h7⟩, h8⟩ := h
  exact ⟨eqO_ok h1, eqO_ok h2, of_decide_eq_true h3, h4, eqO_ok h5, eqO_ok h6, of_decide_eq_true h7, of_decide_eq_true h8⟩
def excB (K : PySem.W.Frag) (ks : List KS) (x : Str) : Bool :=
  (Fa.glo x).ok K && (Fa.exc x).ok K && excCB K (ga K x) && (Fa.exm x "TooMany" false).ok K && (Fa.exm x "MakeError" true).ok K &&
  (ksNames ks).all fun n => if n = "ValueError" then decide (PySem.W.kitOne K (.ref (ga K x)) (.type "ValueError") = some (exfl x n)) else (Fa.glo n).ok K && decide (PySem.W.kitOne K (.ref (ga K x)) (.ref (ga K n)) = some (exfl x n))
def blsOf : List V → Option (List Bool)
  | [] => some []
  | .bl b :: r => (blsOf r).map (b :: ·)
  | _ => none
def strsOf : List V → Option (List Str)
  | [] => some []
  | .str b :: r => (strsOf r).map (b :: ·)
  | _ => none
theorem blsOf_ok : ∀ {vs : List V} {bs : List Bool}, blsOf vs = some bs → vs = bs.map .bl
  | [], _, h => by cases h; rfl
  | v :: r, bs, h => by
    cases v <;> first | (cases h; done) | skip
    obtain ⟨m, e, rfl⟩ := Option.map_eq_some_iff.mp h
    rw [blsOf_ok e]; rfl
theorem strsOf_ok : ∀ {vs : List V} {bs : List Str}, strsOf vs = some bs → vs = bs.map .str
  | [], _, h => by cases h; rfl
  | v :: r, bs, h => by
    cases v <;> first | (cases h; done) | skip
    obtain ⟨m, e, rfl⟩ := Option.map_eq_some_iff.mp h
    rw [strsOf_ok e]; rfl
def kindB (ks : List KS) (x : Str) : Bool := match runK (exfl x) ks (none, none) with
  | some (some vs, some us) => match blsOf vs, strsOf us with
    | some bs, some ws => decide (ws.length = bs.length) && decide (ws.length ≤ 1000) && decide (((picked ws bs).map (·.length)).sum + (picked ws bs).length * 1 ≤ 16777216) && decide (Txt.join " " (picked ws bs) = x ++ " +")
    | _, _ => false
  | _ => false
theorem kindB_ok {ks : List KS} {x : Str} (h : kindB ks x = true) : ∃ (ws : List Str) (bs : List Bool), runK (exfl x) ks (none, none) = some (some (bs.map .bl), some (ws.map .str)) ∧ ws.length = bs.length ∧ ws.length ≤ 1000 ∧ ((picked ws bs).map (·.length)).sum + (picked ws bs).length * 1 ≤ 16777216 ∧ Txt.join " " (picked ws bs) = x ++ " +" := by
  unfold kindB at h
  split at h
  · rename_i vs us e
    split at h
    · rename_i bs ws e1 e2
      simp only [Bool.and_eq_true, decide_eq_true_eq] at h
      exact ⟨ws, bs, by rw [e, blsOf_ok e1, strsOf_ok e2], h.1.1.1, h.1.1.2, h.1.2, h.2⟩
    · cases h
  · cases h
structure GRow where
  defs : List GD
  consts : List (Str × GC)
  excs : List Str
  tell : Option (GD × GD × List KS)
  k : Nat
namespace GRow
variable (R : GRow)
def pres (x : Str) : Bool := R.defs.any fun g => decide (g.x = x)
def exc (x : Str) : Bool := R.excs.any fun e => decide (e = x)
def T (x : Str) : Option MF := (R.defs.find? fun g => decide (g.x = x)).map (·.f)
def Γ : Str → Option D := constG R.consts
def helpers : List GD := match R.tell with
  | none => []
  | some (a, b, _) => [a, b]
def ks : List KS := match R.tell with
  | none => []
  | some (_, _, ks) => ks
def fn : List DefD := (R.defs ++ R.helpers).map GD.dd
def fa : List Fa := ((R.defs ++ R.helpers).map fun g => Fa.glo g.x) ++ bltNames.map Fa.free ++ (if R.tell.isSome then [Fa.glo "TooMany", Fa.glo "MakeError", Fa.free "ValueError"] else [])
def tf : List Defn := (R.defs.filter (·.told)).map fun g => (g.x, none)
def kds : List (Str × List (Str × Str)) := R.consts.filterMap fun c => match c.2 with
  | .kd kvs => some (c.1, kvs)
  | _ => none
def ts : List Tab := R.kds.map fun c => (fun K => ga K c.1, c.2.map (·.1))
def ex (K : PySem.W.Frag) : Bool := (R.consts.all fun c => c.2.ok K c.1) && (if R.tell.isSome then R.excs.all fun x => excB K R.ks x else R.excs.all fun x => (Fa.glo x).ok K && (Fa.exc x).ok K)
def hook (n : Nat) : PySem.W.Hook := hookX n R.fa R.fn R.ts R.tf R.ex
structure Ok : Prop where
  defs : ∀ g ∈ R.defs, GDok R.pres R.exc g
  uniq : ∀ g ∈ R.defs, R.T g.x = some g.f
  tell : match R.tell with
    | none => ∀ g ∈ R.defs, g.told = false
    | some (t, kd, ks) => t.x = "_law_told" ∧ t.ps = [("call_so" : Str)] ∧ FnScope tNames [("call_so" : Str)] (defScope t.st) ∧ toldB (defScope t.st) (defBody t.st) = true ∧
      (∀ (kV doc pm : Value) (an : Option Addr) (cdv ct : Value) (us : List Value), us.length = 1 → bindArgs (PySem.W.fnOf t.x t.x (defArgs t.st) (defBody t.st) (defScope t.st) .none kV doc pm an cdv ct) ⟨us, []⟩ = pure ([("call_so" : Str)].zip us)) ∧
      kd.x = "_law_kinds" ∧ FnScope kNames [("e" : Str)] (defScope kd.st) ∧ kScope (defScope kd.st) = true ∧ kBody (defScope kd.st) ks (defBody kd.st) = true ∧
      (∀ (kV doc pm : Value) (an : Option Addr) (cdv ct : Value) (us : List Value), us.length = 1 → bindArgs (PySem.W.fnOf kd.x kd.x (defArgs kd.st) (defBody kd.st) (defScope kd.st) .none kV doc pm an cdv ct) ⟨us, []⟩ = pure ([("e" : Str)].zip us)) ∧
      ((ksNames ks).all fun n => glB (defScope kd.st) n && nmOk n) = true ∧ (R.excs.all fun x => kindB ks x) = true
  told : ∀ g ∈ R.defs, g.told = true → g.x = "law"
  kpos : 1 ≤ R.k
end GRow
theorem fun_ofD {K : PySem.W.Frag} {x qual : Str} {st : Stmt} {f : Addr} {fd : FuncData} (F : FunD K x qual (defArgs st) (defBody st) (defScope st) [] [] f fd) : L2.Fun K x qual st f fd := by
  obtain ⟨oc, od, dV, kV, doc, pm, an, cdv, ct, osl, rfl, lk, hcd, hD, hK⟩ := F.ex
  rcases hD with ⟨_, rfl⟩ | ⟨e, _⟩
  · exact ⟨⟨oc, od, kV, doc, pm, an, cdv, ct, osl, rfl, lk, hcd⟩, F.kp⟩
  · exact absurd rfl e
section
variable {R : GRow} {w : World} {h : Heap} {K : PySem.W.Frag} {mg : Str → Option Value}
theorem GRow.def_ (c : SaysX R.fa R.fn R.ts R.tf R.ex w h K) {g : GD} (hg : g ∈ R.defs ++ R.helpers) : ∃ fd, FunD K g.x g.x (defArgs g.st) (defBody g.st) (defScope g.st) [] [] (ga K g.x) fd := by
  obtain ⟨fd, F⟩ := c.t.d.defs (d := g.dd) (List.mem_map.mpr ⟨g, hg, rfl⟩)
  exact ⟨fd, F⟩
theorem GRow.fact (c : SaysX R.fa R.fn R.ts R.tf R.ex w h K) {f : Fa} (hf : f ∈ R.fa) : f.ok K = true := c.t.d.facts hf
theorem GRow.glo (X : K.In h) (G : h.Ns mainGlobals mg) (c : SaysX R.fa R.fn R.ts R.tf R.ex w h K) {g : GD} (hg : g ∈ R.defs ++ R.helpers) : mg g.x = some (.ref (ga K g.x)) :=
  glo_ok X G (GRow.fact c (List.mem_append_left _ (List.mem_append_left _ (List.mem_map.mpr ⟨g, hg, rfl⟩))))
theorem GRow.free (X : K.In h) (G : h.Ns mainGlobals mg) (c : SaysX R.fa R.fn R.ts R.tf R.ex w h K) {y : Str} (hy : y ∈ bltNames) : mg y = none :=
  free_ok X G (GRow.fact c (List.mem_append_left _ (List.mem_append_right _ (List.mem_map.mpr ⟨y, hy, rfl⟩))))
theorem GRow.exx (c : SaysX R.fa R.fn R.ts R.tf R.ex w h K) {x : Str} (hx : R.exc x = true) : (Fa.glo x).ok K = true ∧ (Fa.exc x).ok K = true ∧ (R.tell.isSome = true → excB K R.ks x = true) := by
  obtain ⟨c1, c2⟩ := ba c.more
  unfold GRow.exc at hx
  rw [List.any_eq_true] at hx
  obtain ⟨y, hy, e⟩ := hx
  have e := of_decide_eq_true e
  subst e
  split at c2
  · have c3 := List.all_eq_true.mp c2 y hy
    refine ⟨?_, ?_, fun _ => c3⟩
    all_goals
      unfold excB at c3
      simp only [Bool.and_eq_true] at c3
    · exact c3.1.1.1.1.1
    · exact c3.1.1.1.1.2
  · rename_i q
    obtain ⟨c3, c4⟩ := ba (List.all_eq_true.mp c2 y hy)
    exact ⟨c3, c4, fun z => absurd z q⟩
theorem GRow.told (O : R.Ok) (X : K.In h) (G : h.Ns mainGlobals mg) (c : SaysX R.fa R.fn R.ts R.tf R.ex w h K) {t kd : GD} {ks : List KS} (e : R.tell = some (t, kd, ks)) : ToldS K mg R.exc ks := by
  have OT := O.tell
  rw [e] at OT
  obtain ⟨t1, t2, t3, t4, t5, k1, k2, k3, k4, k5, k6, k7⟩ := OT
  have eh : R.helpers = [t, kd] := by unfold GRow.helpers; rw [e]
  have ek : R.ks = ks := by unfold GRow.ks; rw [e]
  have mt : t ∈ R.defs ++ R.helpers := List.mem_append_right _ (by rw [eh]; exact List.mem_cons_self)
  have mk : kd ∈ R.defs ++ R.helpers := List.mem_append_right _ (by rw [eh]; exact List.mem_cons_of_mem _ List.mem_cons_self)
  have mf : ∀ f ∈ [Fa.glo "TooMany", Fa.glo "MakeError", Fa.free "ValueError"], f ∈ R.fa := fun f hf => List.mem_append_right _ (by rw [e]; exact hf)
  obtain ⟨fd, F⟩ := GRow.def_ c mt
  obtain ⟨kfd, KF⟩ := GRow.def_ c mk
  have gt := GRow.glo X G c mt
  have gk := GRow.glo X G c mk
  have bt : L2.Binds K fd [("call_so" : Str)] [] := F.bindsN fun kV doc pm an cdv ct us hl => t5 kV doc pm an cdv ct us hl
  have bk : L2.Binds K kfd [("e" : Str)] [] := KF.bindsN fun kV doc pm an cdv ct us hl => k5 kV doc pm an cdv ct us hl
  have Ft : L2.Fun K t.x t.x t.st (ga K t.x) fd := fun_ofD F
  have Fk : L2.Fun K kd.x kd.x kd.st (ga K kd.x) kfd := fun_ofD KF
  rw [t1] at gt Ft
  rw [k1] at gk Fk
  have kn : ∀ n ∈ ksNames ks, glB (defScope kd.st) n = true ∧ nmOk n = true := fun n hn => ba (List.all_eq_true.mp k6 n hn)
  refine ⟨⟨_, fd, t.st, gt, Ft, bt, t3, t4⟩, ⟨⟨_, kfd, kd.st, gk, Fk, bk, k2, k3, k4, fun k hk => ?_⟩, GRow.free X G c (by decide), GRow.free X G c (by decide)⟩, ?_⟩
  · cases k with
    | kind a ns => exact fun n hn => kn n (List.mem_flatMap.mpr ⟨_, hk, hn⟩)
    | word a ns => trivial
    | app n => exact kn n (List.mem_flatMap.mpr ⟨_, hk, List.mem_singleton_self n⟩)
  · refine ⟨ga K "TooMany", ga K "MakeError", glo_ok X G (GRow.fact c (mf _ (by simp))), glo_ok X G (GRow.fact c (mf _ (by simp))), fun x C hx hC => ?_⟩
    obtain ⟨x1, x2, x3⟩ := GRow.exx c hx
    have x3 := x3 (by rw [e]; rfl)
    have eC := (glo_ok X G x1).symm.trans hC
    cases eC
    unfold excB at x3
    simp only [Bool.and_eq_true] at x3
    obtain ⟨⟨⟨⟨⟨_, _⟩, y1⟩, y2⟩, y3⟩, y4⟩ := x3
    have hx' : x ∈ R.excs := by
      unfold GRow.exc at hx
      rw [List.any_eq_true] at hx
      obtain ⟨y, hy, e⟩ := hx
      rw [← of_decide_eq_true e]
      exact hy
    obtain ⟨ws, bs, z1, z2, z3, z4, z5⟩ := kindB_ok (List.all_eq_true.mp k7 x hx')
    have ki : ∀ n ∈ ksNames ks, KIn K mg (ga K x) (exfl x) n := fun n hn => by
      have q := List.all_eq_true.mp y4 n (by rw [ek]; exact hn)
      split at q
      · rename_i en
        subst en
        exact .inr ⟨"ValueError", free_ok X G (GRow.fact c (mf _ (by simp))), by decide +kernel, of_decide_eq_true q⟩
      · obtain ⟨q1, q2⟩ := ba q
        exact .inl ⟨_, glo_ok X G q1, of_decide_eq_true q2⟩
    refine ⟨⟨excCB_ok y1, exfl x, ws, bs, fun k hk => ?_, z1, z2, z3, z4, z5⟩, exm_ok y2, exm_ok y3⟩
    cases k with
    | kind a ns => exact fun n hn => ki n (List.mem_flatMap.mpr ⟨_, hk, hn⟩)
    | word a ns => trivial
    | app n => exact ki n (List.mem_flatMap.mpr ⟨_, hk, List.mem_singleton_self n⟩)
theorem GRow.lawAt {l : PySem.W.OpenLaw} (O : R.Ok) (X : K.In h) (G : h.Ns mainGlobals mg) (c : SaysX R.fa R.fn R.ts R.tf R.ex w h K) {g : GD} (hg : g ∈ R.defs) (gx : g.x = "law") (gp : g.ps = [("script" : Str)]) {fa : Addr} (hfa : mg "law" = some (.ref fa))
    (main : ∀ ns : List Int, ns.length ≤ 63 → Phi R.T R.Γ R.exc R.k "law" [.val (scrD ns)] = .ok (.val (.bool true), [])) (tl : g.told = true ↔ R.tell.isSome = true) : LamX.LawAtS l w K (L2N.CX l.prog w) R.k 63 "script" mg fa h := by
  have hm : g ∈ R.defs ++ R.helpers := List.mem_append_left _ hg
  obtain ⟨fd, F⟩ := GRow.def_ c hm
  have gg := GRow.glo X G c hm
  have og := O.defs g hg
  rw [gx] at gg
  have efa := gg.symm.trans hfa
  cases efa
  let cs : List (Addr × Addr) := R.tf.map fun p => cT K p
  let P := (cT K ("law", none)).2
  let tb : List (Addr × Str) := if R.tell.isSome then [(P, "law" ++ ".<locals>." ++ "<lambda>")] else []
  have hb : ∀ (s : Shared) (u : Value), BindsTo s fd ⟨[u], []⟩ [("script", u)] := fun s u => by
    have := F.bindsA (ps := [("script" : Str)]) (fun kV doc pm an cdv ct us hl => by
      have := og.bind kV doc pm an cdv ct us (by rw [gp]; exact hl)
      rw [gp] at this
      exact this) s [u] rfl
    exact this
  have lawT : R.tell.isSome = true → (("law" : Str), (none : Option Str)) ∈ R.tf := fun ht => List.mem_map.mpr ⟨g, List.mem_filter.mpr ⟨hg, tl.mpr ht⟩, by rw [gx]⟩
  refine ⟨fd, cs, spOf K mg tb (Phi R.T R.Γ R.exc R.k "law"), fun p hp => ?_, fun p hp => ?_, fun p hp => ?_, hb, fun H a ns hl _ hT hS => ?_, fun base KB GB TB => ?_⟩
  · obtain ⟨q, hq, rfl⟩ := List.mem_map.mp hp
    exact c.empty q hq
  · obtain ⟨q, hq, rfl⟩ := List.mem_map.mp hp
    exact c.out q hq
  · obtain ⟨q, hq, rfl⟩ := List.mem_map.mp hp
    exact PySem.W.codeHd_of_K X (c.hd q hq)
  · have tabs : LamX.Tabs tb H := by
      intro p hp
      show LamX.TabS H p.1 p.2
      by_cases ht : R.tell.isSome = true
      · have e0 : tb = [(P, ("law" : Str) ++ ".<locals>." ++ "<lambda>")] := if_pos ht
        rw [e0] at hp
        have e := List.mem_singleton.mp hp
        subst e
        exact LamX.TabS.nil (hT _ (List.mem_map.mpr ⟨_, lawT ht, rfl⟩))
      · have e0 : tb = [] := if_neg ht
        rw [e0] at hp
        cases hp
    have hs : ScrAt K H (fun b => b = a ∧ ∃ xs, H b = some (.lst xs)) a ns := by
      rcases hS with (h1 | ⟨o, h1⟩) | h1
      · exact .inl ⟨⟨rfl, _, h1⟩, h1⟩
      · exact .inr (.inl ⟨o, h1⟩)
      · obtain ⟨o, its, n, h⟩ := h1
        exact .inr (.inr ⟨o, its, n, h⟩)
    refine ⟨_, [.val (scrD ns)], fun b hb => hb.2, tabs, .cons (.scr hs) .nil, fun i j b xs ys e1 => ?_, ?_⟩
    · match i, e1 with
      | 0, e1 => cases e1
      | i + 1, e1 => simp at e1
    · rw [main ns hl]
      intro v H' F' _ _ r
      cases r
      rfl
  · have lam : R.tell.isSome = true → LamAt base mg fd.code (("law" : Str) ++ ".<locals>.") tb := fun ht => by
      have e0 : tb = [(P, ("law" : Str) ++ ".<locals>." ++ "<lambda>")] := if_pos ht
      refine ⟨(cT K ("law", none)).1, P, TB _ (List.mem_map.mpr ⟨_, lawT ht, rfl⟩), ?_, by rw [e0]; exact List.mem_singleton_self _, fun p hp _ => ?_⟩
      · obtain ⟨oc, od, dV, kV, doc, pm, an, cdv, ct, osl, e1, lk, hcd, _⟩ := F.ex
        subst e1
        obtain ⟨cc, rfl⟩ := codeIn_ref hcd
        have := codeOf_eq (p := (g.x, none)) lk rfl
        rw [gx] at this
        exact congrArg Value.ref this.symm
      · rw [e0] at hp
        rw [List.mem_singleton.mp hp]
    have tr : ToldR l.prog w K mg base R.exc ∨ tb = [] := by
      cases e : R.tell with
      | none => exact .inr (if_neg (by rw [e]; exact fun z => by cases z))
      | some q =>
        obtain ⟨t, kd, ks⟩ := q
        exact .inl (told_ok (GRow.told O X G c e))
    have dS : ∀ y, R.pres y = true → ∃ f, R.T y = some f ∧ DefS K mg base R.pres R.exc tb y f := fun y hy => by
      unfold GRow.pres at hy
      rw [List.any_eq_true] at hy
      obtain ⟨q, hq, e⟩ := hy
      have e := of_decide_eq_true e
      subst e
      have oq := O.defs q hq
      obtain ⟨qd, QF⟩ := GRow.def_ c (List.mem_append_left _ hq)
      refine ⟨q.f, O.uniq q hq, ⟨_, qd, q.st, q.ps, q.N, q.told, fun z => ?_, GRow.glo X G c (List.mem_append_left _ hq), fun_ofD QF, QF.bindsN oq.bind, oq.sc, oq.np, oq.nn, oq.ck tb⟩⟩
      have ex := O.told q hq z
      have e2 : qd = fd := by
        obtain ⟨_, _, _, _, _, _, _, _, _, _, _, lk1, _⟩ := QF.ex
        obtain ⟨_, _, _, _, _, _, _, _, _, _, _, lk2, _⟩ := F.ex
        rw [ex, ← gx, lk2] at lk1
        cases lk1
        rfl
      rw [e2, ex]
      refine lam ?_
      cases e3 : R.tell with
      | some _ => rfl
      | none =>
        have OT := O.tell
        rw [e3] at OT
        rw [OT q hq] at z
        cases z
    have cst : ∀ y d, R.Γ y = some d → CstW w K mg y d := fun y d e => by
      obtain ⟨gc, h1, rfl⟩ := constG_mem e
      refine GC.cst X G (fun kvs ek => ?_) (List.all_eq_true.mp (ba c.more).1 _ h1)
      subst ek
      have hm : (y, kvs) ∈ R.kds := List.mem_filterMap.mpr ⟨_, h1, rfl⟩
      have hm2 : ((fun K => ga K y, kvs.map (·.1)) : Tab) ∈ R.ts := List.mem_map.mpr ⟨_, hm, rfl⟩
      obtain ⟨i, hi, e⟩ := List.mem_iff_getElem.mp hm2
      exact c.t.tab i (t := (fun K => ga K y, kvs.map (·.1))) (by rw [List.getElem?_eq_getElem hi, e])
    have exs : ∀ y, R.exc y = true → ExcS K mg y := fun y hy => by
      obtain ⟨x1, x2, _⟩ := GRow.exx c hy
      obtain ⟨e1, e2, e3, e4⟩ := exc_ok x2
      exact ⟨_, _, _, _, _, PySem.F.excBase_ValueError, glo_ok X G x1, e2, e1, e3, e4⟩
    have all := fnS_all (P := l.prog) (w := w) (T := R.T) (Γ := R.Γ) dS tr cst (fun y hy => GRow.free X G c hy) exs
    have hk : R.T "law" = some g.f := by
      have := O.uniq g hg
      rw [gx] at this
      exact this
    obtain ⟨k, ek⟩ : ∃ k, R.k = k + 1 := ⟨R.k - 1, by have := O.kpos; omega⟩
    have ff : L2.Fun K "law" "law" g.st (ga K "law") fd := by
      have := fun_ofD F
      rw [gx] at this
      exact this
    have ck := og.ck tb
    rw [ek, Phi_succ hk]
    have := fnOk_succ (P := l.prog) (w := w) (mg := mg) (base := base) (Γ := R.Γ) (fun z => lam (tl.mp z)) ff og.sc og.np og.nn ck (Phi R.T R.Γ R.exc k) (Phi2 R.T R.Γ R.exc k) (fun Ψ h => by
      obtain ⟨j, e1, e2⟩ := Phi2_low h
      exact ⟨j, e1, fun z hz => by rw [e2]; exact all j z hz⟩) (all k) (fun z => tr.elim id fun e0 => by
        have : tb = [(P, ("law" : Str) ++ ".<locals>." ++ "<lambda>")] := if_pos (tl.mp z)
        rw [this] at e0
        cases e0) cst (fun y hy => GRow.free X G c hy) exs
    rw [gp] at this
    exact this
end
end G
namespace G
open PySem
theorem bind_ok {α β : Type} (a : α) (f : α → Out β) : (Out.ok a).bind f = f a := (rfl)
theorem bind_exc {α β : Type} (e : Str) (l : Option Int) (f : α → Out β) : (Out.exc e l).bind f = .exc e l := (rfl)
theorem bind_stuck {α β : Type} (f : α → Out β) : (Out.stuck : Out α).bind f = .stuck := (rfl)
theorem bind_ite {α β : Type} (c : Prop) [Decidable c] (a b : Out α) (f : α → Out β) : (if c then a else b).bind f = if c then a.bind f else b.bind f := by split <;> rfl
theorem bind_assoc {α β γ : Type} (x : Out α) (f : α → Out β) (g : β → Out γ) : (x.bind f).bind g = x.bind fun a => (f a).bind g := by cases x <;> rfl
theorem ite_ap {α β : Type} (c : Prop) [Decidable c] (f g : α → β) (x : α) : (if c then f else g) x = if c then f x else g x := by split <;> rfl
theorem use_val (d : D) (ρ : Rho) : M.use (.val d) ρ = .ok (d, ρ) := (rfl)
theorem use_fresh (d : List D) (ρ : Rho) : M.use (.fresh d) ρ = .ok (.list d, ρ) := (rfl)
def ownD : Option (Option Cell) → Option D
  | some (some (.own ds)) => some (.list ds)
  | some (some (.val d)) => some d
  | _ => none
theorem ownD_own (ds : List D) : ownD (some (some (.own ds))) = some (.list ds) := (rfl)
theorem ownD_val (d : D) : ownD (some (some (.val d))) = some d := (rfl)
theorem look_own (i : Nat) (ρ : Rho) : M.look ρ (.own i) = ownD ρ[i]? := by
  unfold M.look ownD
  rfl
theorem look_val (d : D) (ρ : Rho) : M.look ρ (.val d) = some d := (rfl)
theorem look_fresh (d : List D) (ρ : Rho) : M.look ρ (.fresh d) = some (.list d) := (rfl)
theorem use_own (i : Nat) (ρ : Rho) : M.use (.own i) ρ = (M.opt (ownD ρ[i]?) ρ) := by
  unfold M.use
  rw [look_own]
  cases ownD ρ[i]? <;> rfl
theorem settle_val (d : D) : M.settle (.val d) = .val d := (rfl)
theorem settle_fresh (d : List D) : M.settle (.fresh d) = .val (.list d) := (rfl)
theorem settle_own (i : Nat) : M.settle (.own i) = .own i := (rfl)
def getC (i : Nat) : Option (Option Cell) → Option RV
  | some (some (.val d)) => some (.val d)
  | some (some (.own _)) => some (.own i)
  | _ => none
theorem getC_val (i : Nat) (d : D) : getC i (some (some (.val d))) = some (.val d) := (rfl)
theorem getC_own (i : Nat) (d : List D) : getC i (some (some (.own d))) = some (.own i) := (rfl)
theorem get_eq (i : Nat) (ρ : Rho) : M.get i ρ = M.opt (getC i ρ[i]?) ρ := by
  unfold M.get getC
  cases ρ[i]? with
  | none => rfl
  | some o => cases o with
    | none => rfl
    | some c => cases c <;> rfl
theorem keep_val (ios : List Nat) (d : D) (ρ : Rho) : M.keep ios (.val d) ρ = .ok (d, ρ) := (rfl)
theorem keep_fresh (ios : List Nat) (d : List D) (ρ : Rho) : M.keep ios (.fresh d) ρ = .ok (.list d, ρ) := (rfl)
theorem keep_own {ios : List Nat} {i : Nat} {ρ : Rho} {ds : List D} (h : ρ[i]? = some (some (.own ds))) (hi : i ∉ ios) : M.keep ios (.own i) ρ = .ok (.list ds, ρ.set i (some (.val (.list ds)))) := by
  show (match ρ[i]? with | some (some (.own ds)) => if i ∈ ios then (Out.stuck : Out (D × Rho)) else .ok (.list ds, ρ.set i (some (.val (.list ds)))) | some (some (.val d)) => .ok (d, ρ) | _ => .stuck) = _
  rw [h]
  exact if_neg hi
def keepC (b : Bool) (i : Nat) (ρ : Rho) : Option (Option Cell) → Out (D × Rho)
  | some (some (.own ds)) => if b then .stuck else .ok (.list ds, ρ.set i (some (.val (.list ds))))
  | some (some (.val d)) => .ok (d, ρ)
  | _ => .stuck
theorem keepC_own (i : Nat) (ρ : Rho) (ds : List D) : keepC false i ρ (some (some (.own ds))) = .ok (.list ds, ρ.set i (some (.val (.list ds)))) := (rfl)
theorem keepC_val (b : Bool) (i : Nat) (ρ : Rho) (d : D) : keepC b i ρ (some (some (.val d))) = .ok (d, ρ) := (rfl)
theorem keep_ownC (ios : List Nat) (i : Nat) (ρ : Rho) : M.keep ios (.own i) ρ = keepC (ios.any fun j => decide (i = j)) i ρ ρ[i]? := by
  show (match ρ[i]? with | some (some (.own ds)) => if i ∈ ios then (Out.stuck : Out (D × Rho)) else .ok (.list ds, ρ.set i (some (.val (.list ds)))) | some (some (.val d)) => .ok (d, ρ) | _ => .stuck) = _
  unfold keepC
  have e : (ios.any fun j => decide (i = j)) = decide (i ∈ ios) := by
    induction ios with
    | nil => rfl
    | cons j r ih => simp [List.any_cons, ih, List.mem_cons]
  rw [e]
  split <;> simp
theorem give_val (ios : List Nat) (d : D) (ρ : Rho) : M.give ios (.val d) ρ = .ok (.val d, ρ) := (rfl)
theorem give_fresh (ios : List Nat) (d : List D) (ρ : Rho) : M.give ios (.fresh d) ρ = .ok (.fresh d, ρ) := (rfl)
def giveC (b : Bool) (i : Nat) (ρ : Rho) : Option (Option Cell) → Out (Rs × Rho)
  | some (some (.own ds)) => if b then .stuck else .ok (.fresh ds, ρ.set i none)
  | some (some (.val d)) => .ok (.val d, ρ)
  | _ => .stuck
theorem giveC_own (i : Nat) (ρ : Rho) (ds : List D) : giveC false i ρ (some (some (.own ds))) = .ok (.fresh ds, ρ.set i none) := (rfl)
theorem giveC_val (b : Bool) (i : Nat) (ρ : Rho) (d : D) : giveC b i ρ (some (some (.val d))) = .ok (.val d, ρ) := (rfl)
theorem give_ownC (ios : List Nat) (i : Nat) (ρ : Rho) : M.give ios (.own i) ρ = giveC (ios.any fun j => decide (i = j)) i ρ ρ[i]? := by
  show (match ρ[i]? with | some (some (.own ds)) => if i ∈ ios then Out.stuck else .ok (Rs.fresh ds, ρ.set i none) | some (some (.val d)) => .ok (.val d, ρ) | _ => .stuck) = _
  unfold giveC
  have e : (ios.any fun j => decide (i = j)) = decide (i ∈ ios) := by
    induction ios with
    | nil => rfl
    | cons j r ih => simp [List.any_cons, ih, List.mem_cons]
  rw [e]
  split <;> simp
theorem store_val (ios : List Nat) (i : Nat) (h : Bool) (d : D) (ρ : Rho) : M.store ios i h (.val d) ρ = .ok ((), ρ.set i (some (.val d))) := by cases h <;> rfl
theorem store_freshF (ios : List Nat) (i : Nat) (d : List D) (ρ : Rho) : M.store ios i false (.fresh d) ρ = .ok ((), ρ.set i (some (.val (.list d)))) := (rfl)
theorem store_freshT (ios : List Nat) (i : Nat) (d : List D) (ρ : Rho) : M.store ios i true (.fresh d) ρ = if ios.any (fun j => decide (i = j)) = true then .stuck else .ok ((), ρ.set i (some (.own d))) := by
  show (if i ∈ ios then Out.stuck else .ok ((), ρ.set i (some (.own d)))) = _
  have e : (ios.any fun j => decide (i = j)) = decide (i ∈ ios) := by
    induction ios with
    | nil => rfl
    | cons j r ih => simp [List.any_cons, ih, List.mem_cons]
  rw [e]
  simp
theorem store_own (ios : List Nat) (i j : Nat) (h : Bool) (ρ : Rho) : M.store ios i h (.own j) ρ = (M.keep ios (.own j) ρ).bind fun p => .ok ((), p.2.set i (some (.val p.1))) := by cases h <;> rfl
section
variable (C : Cfg) (ρ : Rho)
theorem opt_some (α : Type) (a : α) : M.opt (some a) ρ = .ok (a, ρ) := (rfl)
theorem den_slot (i : Nat) : den C (.slot i) ρ = M.opt (getC i ρ[i]?) ρ := get_eq i ρ
theorem den_cst (d : D) : den C (.cst d) ρ = .ok (.val d, ρ) := (rfl)
theorem den_glob (x : Str) : den C (.glob x) ρ = (M.opt (gval (C.Γ x)) ρ).bind fun p => .ok (.val p.1, p.2) := (rfl)
theorem gval_tup (d : List D) : gval (some (.tuple d)) = some (.tuple d) := (rfl)
theorem gval_str (d : Str) : gval (some (.str d)) = some (.str d) := (rfl)
theorem gval_int (d : Int) : gval (some (.int d)) = some (.int d) := (rfl)
theorem gdct_dct (kvs : List (D × D)) : gdct (some (.dict kvs)) = some kvs := (rfl)
theorem ginV_str (kvs : List (D × D)) (z : Str) : ginV kvs (.str z) = (dfind kvs z).map (·.isSome) := (rfl)
theorem gixV_str (kvs : List (D × D)) (z : Str) : gixV kvs (.str z) = (dfind kvs z).bind id := (rfl)
theorem den_gin (a : ME) (x : Str) : den C (.gin a x) ρ = (M.opt (gdct (C.Γ x)) ρ).bind fun k => (den C a k.2).bind fun p => (M.use p.1 p.2).bind fun d => (M.opt (ginV k.1 d.1) d.2).bind fun r => .ok (.val (.bool r.1), r.2) := (rfl)
theorem denT_gin (a : ME) (x : Str) : denT C (.gin a x) ρ = (M.opt (gdct (C.Γ x)) ρ).bind fun k => (den C a k.2).bind fun p => (M.use p.1 p.2).bind fun d => M.opt (ginV k.1 d.1) d.2 := (rfl)
theorem den_gix (a : ME) (x : Str) : den C (.gix x a) ρ = (M.opt (gdct (C.Γ x)) ρ).bind fun k => (den C a k.2).bind fun p => (M.use p.1 p.2).bind fun d => (M.opt (gixV k.1 d.1) d.2).bind fun r => .ok (.val r.1, r.2) := (rfl)
def two2 (a b : ME) (C : Cfg) (ρ : Rho) : Out ((D × D) × Rho) := (den C a ρ).bind fun p => (den C b p.2).bind fun q => (M.use (M.settle p.1) q.2).bind fun x => (M.use q.1 x.2).bind fun y => .ok ((x.1, y.1), y.2)
theorem op2_eq {α : Type} (a b : ME) (g : D → D → M α) : op2 (den C a) (den C b) g ρ = (two2 a b C ρ).bind fun p => g p.1.1 p.1.2 p.2 := by
  unfold two2 op2
  simp only [M.bind_ap, bind_assoc, bind_ok]
theorem two2_eq (a b : ME) : two2 a b C ρ = (den C a ρ).bind fun p => (den C b p.2).bind fun q => (M.use (M.settle p.1) q.2).bind fun x => (M.use q.1 x.2).bind fun y => .ok ((x.1, y.1), y.2) := (rfl)
theorem den_bin (op : Bop) (a b : ME) : den C (.bin op a b) ρ = (two2 a b C ρ).bind fun p => (M.opt (bin op p.1.1 p.1.2) p.2).bind fun r => .ok (r.1.rv, r.2) := by
  show op2 (den C a) (den C b) (fun x y => rsRV (bin op x y)) ρ = _
  rw [op2_eq]
  refine congrArg _ (funext fun p => ?_)
  unfold rsRV
  cases bin op p.1.1 p.1.2 <;> rfl
theorem den_neg (a : ME) : den C (.neg a) ρ = (den C a ρ).bind fun p => (M.use p.1 p.2).bind fun x => (asInt x.1 x.2).bind fun i => .ok (.val (.int (-i.1)), i.2) := (rfl)
theorem asInt_int (i : Int) : asInt (.int i) ρ = .ok (i, ρ) := (rfl)
theorem asBool_bool (i : Bool) : asBool (.bool i) ρ = .ok (i, ρ) := (rfl)
theorem den_cmp (op : Cop) (a b : ME) : den C (.cmp op a b) ρ = (two2 a b C ρ).bind fun p => (M.opt (cmp op p.1.1 p.1.2) p.2).bind fun r => .ok (.val (.bool r.1), r.2) := by
  show op2 (den C a) (den C b) (fun x y => M.bind (M.opt (cmp op x y)) bV) ρ = _
  rw [op2_eq]
  rfl
theorem denT_cmp (op : Cop) (a b : ME) : denT C (.cmp op a b) ρ = (two2 a b C ρ).bind fun p => M.opt (cmp op p.1.1 p.1.2) p.2 := op2_eq C ρ a b _
def chn1 {α : Type} (o p : Cop) (a b d : ME) (C : Cfg) (kf : M α) (kt : Bool → M α) (ρ : Rho) : Out (α × Rho) :=
  (den C a ρ).bind fun ra => (den C b ra.2).bind fun rb => (M.use (M.settle ra.1) rb.2).bind fun x => (M.use (M.settle rb.1) x.2).bind fun y => (M.opt (cmp o x.1 y.1) y.2).bind fun t =>
    if t.1 = true then (den C d t.2).bind fun rc => (M.use (M.settle rb.1) rc.2).bind fun y => (M.use rc.1 y.2).bind fun z => (M.opt (cmp p y.1 z.1) z.2).bind fun u => kt u.1 u.2 else kf t.2
theorem chn_eq {α : Type} (o p : Cop) (a b d : ME) (kf : M α) (kt : Bool → M α) : chn o p (den C a) (den C b) (den C d) kf kt ρ = chn1 o p a b d C kf kt ρ := by
  unfold chn chn1
  simp only [M.bind_ap]
  refine congrArg _ (funext fun ra => congrArg _ (funext fun rb => congrArg _ (funext fun x => congrArg _ (funext fun y => congrArg _ (funext fun t => ?_)))))
  obtain ⟨t, ρ'⟩ := t
  cases t <;> rfl
theorem den_chain (o p : Cop) (a b d : ME) : den C (.chain o p a b d) ρ = chn1 o p a b d C (bV false) bV ρ := chn_eq C ρ o p a b d _ _
theorem denT_chain (o p : Cop) (a b d : ME) : denT C (.chain o p a b d) ρ = chn1 o p a b d C (M.pure false) M.pure ρ := chn_eq C ρ o p a b d _ _
theorem chn1_eq {α : Type} (o p : Cop) (a b d : ME) (kf : M α) (kt : Bool → M α) : chn1 o p a b d C kf kt ρ = (den C a ρ).bind fun ra => (den C b ra.2).bind fun rb => (M.use (M.settle ra.1) rb.2).bind fun x => (M.use (M.settle rb.1) x.2).bind fun y => (M.opt (cmp o x.1 y.1) y.2).bind fun t =>
    if t.1 = true then (den C d t.2).bind fun rc => (M.use (M.settle rb.1) rc.2).bind fun y => (M.use rc.1 y.2).bind fun z => (M.opt (cmp p y.1 z.1) z.2).bind fun u => kt u.1 u.2 else kf t.2 := (rfl)
theorem bV_ap (b : Bool) : bV b ρ = .ok (.val (.bool b), ρ) := (rfl)
theorem den_bool (conj : Bool) (a b : ME) : den C (.bool conj a b) ρ = (den C a ρ).bind fun p => (M.use p.1 p.2).bind fun x => (asBool x.1 x.2).bind fun k => if k.1 = conj then den C b k.2 else .ok (.val (.bool k.1), k.2) := by
  show (M.bind (den C a) fun ra => M.bind (M.use ra) fun x => M.bind (asBool x) fun k => if k = conj then den C b else bV k) ρ = _
  simp only [M.bind_ap, ite_ap, bV_ap]
theorem denT_bool (conj : Bool) (a b : ME) : denT C (.bool conj a b) ρ = (denT C a ρ).bind fun k => if k.1 = conj then denT C b k.2 else .ok (k.1, k.2) := by
  show (M.bind (denT C a) fun k => if k = conj then denT C b else M.pure k) ρ = _
  simp only [M.bind_ap, ite_ap, M.pure_ap]
theorem den_not (a : ME) : den C (.not a) ρ = (den C a ρ).bind fun p => (M.use p.1 p.2).bind fun x => (asBool x.1 x.2).bind fun k => .ok (.val (.bool (!k.1)), k.2) := (rfl)
theorem denT_not (a : ME) : denT C (.not a) ρ = (denT C a ρ).bind fun k => .ok (!k.1, k.2) := (rfl)
theorem den_ite (c a b : ME) : den C (.ite c a b) ρ = (denT C c ρ).bind fun k => if k.1 = true then den C a k.2 else den C b k.2 := by
  show (M.bind (denT C c) fun k => if k = true then den C a else den C b) ρ = _
  simp only [M.bind_ap, ite_ap]
theorem denT_ite (c a b : ME) : denT C (.ite c a b) ρ = (denT C c ρ).bind fun k => if k.1 = true then denT C a k.2 else denT C b k.2 := by
  show (M.bind (denT C c) fun k => if k = true then denT C a else denT C b) ρ = _
  simp only [M.bind_ap, ite_ap]
theorem den_tup (es : MEs) : den C (.tup es) ρ = (denK C es ρ).bind fun p => if lines p.1.length = true then .ok (.val (.tuple p.1), p.2) else .stuck := by
  show (M.bind (denK C es) fun ds => if lines ds.length then M.pure (RV.val (.tuple ds)) else M.stuck) ρ = _
  simp only [M.bind_ap, ite_ap, M.pure_ap, M.stuck_ap]
theorem den_lst (es : MEs) : den C (.lst es) ρ = (denK C es ρ).bind fun p => if lines p.1.length = true then .ok (.fresh p.1, p.2) else .stuck := by
  show (M.bind (denK C es) fun ds => if lines ds.length then M.pure (RV.fresh ds) else M.stuck) ρ = _
  simp only [M.bind_ap, ite_ap, M.pure_ap, M.stuck_ap]
theorem den_ix (a b : ME) : den C (.ix a b) ρ = (two2 a b C ρ).bind fun p => (M.opt (pix p.1.1 p.1.2) p.2).bind fun r => .ok (.val r.1, r.2) := by
  show op2 (den C a) (den C b) (fun x y => M.bind (M.opt (pix x y)) fun r => M.pure (RV.val r)) ρ = _
  rw [op2_eq]
  rfl
theorem den_sl (a : ME) (lo hi : MO) : den C (.sl a lo hi) ρ = (den C a ρ).bind fun p => (denO C lo p.2).bind fun l => (denO C hi l.2).bind fun h => (M.use (M.settle p.1) h.2).bind fun x => (M.opt (psl x.1 l.1 h.1) x.2).bind fun r => .ok (r.1.rv, r.2) := by
  show (M.bind (den C a) fun ra => M.bind (denO C lo) fun l => M.bind (denO C hi) fun h => M.bind (M.use (M.settle ra)) fun x => rsRV (psl x l h)) ρ = _
  simp only [M.bind_ap]
  refine congrArg _ (funext fun ra => congrArg _ (funext fun rb => congrArg _ (funext fun x => congrArg _ (funext fun y => ?_))))
  unfold rsRV
  cases psl y.1 rb.1 x.1 <;> rfl
theorem den_rev (a : ME) : den C (.rev a) ρ = (den C a ρ).bind fun p => (M.use p.1 p.2).bind fun x => (M.opt (prev x.1) x.2).bind fun r => .ok (r.1.rv, r.2) := by
  show (M.bind (den C a) fun ra => M.bind (M.use ra) fun x => rsRV (prev x)) ρ = _
  simp only [M.bind_ap]
  refine congrArg _ (funext fun ra => congrArg _ (funext fun y => ?_))
  unfold rsRV
  cases prev y.1 <;> rfl
theorem den_call (f : Str) (es : MEs) : den C (.call f es) ρ = (denA C es ρ).bind fun p => callF (C.Φ f) p.1 p.2 := (rfl)
theorem den_blt (b : Bi) (es : MEs) : den C (.blt b es) ρ = (denA C es ρ).bind fun p => (M.opt (lookAll p.2 p.1) p.2).bind fun ds => (M.opt (blt b ds.1) ds.2).bind fun r => .ok (r.1.rv, r.2) := by
  show (M.bind (denA C es) fun rs => M.bind (useAll rs) fun ds => rsRV (blt b ds)) ρ = _
  simp only [M.bind_ap]
  refine congrArg _ (funext fun p => ?_)
  unfold useAll rsRV
  cases lookAll p.2 p.1 with
  | none => rfl
  | some ds => show (M.opt ((blt b ds).map Rs.rv) p.2) = (M.opt (blt b ds) p.2).bind _; cases blt b ds <;> rfl
theorem den_isi (a : ME) (t : String) : den C (.isi a t) ρ = (den C a ρ).bind fun p => (M.use p.1 p.2).bind fun x => (M.opt (isInst x.1 t) x.2).bind fun r => .ok (.val (.bool r.1), r.2) := (rfl)
theorem den_isi2 (a : ME) (t u : String) : den C (.isi2 a t u) ρ = (den C a ρ).bind fun p => (M.use p.1 p.2).bind fun x => (M.opt (isInst x.1 t) x.2).bind fun r => (M.opt (isInst x.1 u) r.2).bind fun q => .ok (.val (.bool (r.1 || q.1)), q.2) := (rfl)
theorem den_meth (m : Mt) (o : ME) (es : MEs) : den C (.meth m o es) ρ = (den C o ρ).bind fun p => (M.use (M.settle p.1) p.2).bind fun x0 => if mtOk m x0.1 = true then (denA C es x0.2).bind fun rs => (M.use (M.settle p.1) rs.2).bind fun x => (M.opt (lookAll x.2 rs.1) x.2).bind fun ds => (M.opt (meth m x.1 ds.1) ds.2).bind fun r => .ok (r.1.rv, r.2) else .stuck := by
  show (M.bind (den C o) fun ro => M.bind (M.use (M.settle ro)) fun x0 => if mtOk m x0 = true then M.bind (denA C es) fun rs => M.bind (M.use (M.settle ro)) fun x => M.bind (useAll rs) fun ds => rsRV (meth m x ds) else M.stuck) ρ = _
  simp only [M.bind_ap, ite_ap, M.stuck_ap]
  refine congrArg _ (funext fun p => congrArg _ (funext fun x0 => ?_))
  by_cases h : mtOk m x0.1 = true
  · rw [if_pos h, if_pos h]
    refine congrArg _ (funext fun rs => congrArg _ (funext fun x => ?_))
    unfold useAll rsRV
    cases lookAll x.2 rs.1 with
    | none => rfl
    | some ds => show (M.opt ((meth m x.1 ds).map Rs.rv) x.2) = (M.opt (meth m x.1 ds) x.2).bind _; cases meth m x.1 ds <;> rfl
  · rw [if_neg h, if_neg h]
def lmC (m : Lm) (i : Nat) (ds : List D) (ρ : Rho) : Option (Option Cell) → Out (RV × Rho)
  | some (some (.own xs)) => (M.opt (lmeth m xs ds) ρ).bind fun r => .ok (.val r.1.1, ρ.set i (some (.own r.1.2)))
  | _ => .stuck
theorem lmC_own (m : Lm) (i : Nat) (ds xs : List D) : lmC m i ds ρ (some (some (.own xs))) = (M.opt (lmeth m xs ds) ρ).bind fun r => .ok (.val r.1.1, ρ.set i (some (.own r.1.2))) := (rfl)
def ownB : Option (Option Cell) → Bool
  | some (some (.own _)) => true
  | _ => false
theorem ownB_own (xs : List D) : ownB (some (some (.own xs))) = true := (rfl)
theorem den_lmeth (m : Lm) (i : Nat) (es : MEs) : den C (.lmeth m i es) ρ = if ownB ρ[i]? = true then (denK C es ρ).bind fun p => lmC m i p.1 p.2 p.2[i]? else .stuck := by
  show (M.bind (isOwn i) fun _ => M.bind (denK C es) fun ds => lmGo m i ds) ρ = _
  simp only [M.bind_ap]
  have e : ∀ p : List D × Rho, lmGo m i p.1 p.2 = lmC m i p.1 p.2 p.2[i]? := fun p => by
    unfold lmGo lmC
    cases p.2[i]? with
    | none => rfl
    | some o => cases o with
      | none => rfl
      | some c => cases c with
        | val d => rfl
        | own xs => cases q : lmeth m xs p.1 <;> simp [q, M.opt, M.pure, M.stuck, Out.bind]
  unfold isOwn ownB
  cases ρ[i]? with
  | none => rfl
  | some o => cases o with
    | none => rfl
    | some c => cases c with
      | val d => rfl
      | own xs =>
        show (denK C es ρ).bind (fun p => lmGo m i p.1 p.2) = _
        rw [if_pos rfl]
        exact congrArg _ (funext e)
def comp (C : Cfg) (own : List Nat) (tg : Tg) (cond : MO) (el : ME) (xs : List D) (ρ : Rho) : Out (List D × Rho) := lcGo own tg (denC C cond) (M.bind (den C el) fun r => M.keep C.ios r) xs ρ
theorem den_lc (own : List Nat) (tg : Tg) (it : MI) (cond : MO) (el : ME) : den C (.lc own tg it cond el) ρ = (denI C it ρ).bind fun p => if lines p.1.length = true then lcEnd own p.2 (comp C own tg cond el p.1 p.2) else .stuck := by
  show (M.bind (denI C it) fun xs => fun ρ => if lines xs.length then lcEnd own ρ (lcGo own tg (denC C cond) (M.bind (den C el) fun r => M.keep C.ios r) xs ρ) else .stuck) ρ = _
  rfl
theorem lcEnd_ok (own : List Nat) (p : List D × Rho) : lcEnd own ρ (.ok p) = .ok (.fresh p.1, M.restore own ρ p.2) := (rfl)
theorem den_told (f : ME) : den C (.told f) ρ = match C.Φ2 with | none => .stuck | some Φ2 => toldV C.exc ρ (den ⟨Φ2, C.Γ, C.ios, C.exc, none⟩ f (hide ρ)) := by
  show (match C.Φ2 with
    | none => (M.stuck : M RV)
    | some Φ2 => fun ρ => toldV C.exc ρ ((dP f ⟨Φ2, C.Γ, C.ios, C.exc, none⟩).1 (hide ρ))) ρ = _
  cases C.Φ2 <;> rfl
theorem den_dct (kvs : List (Str × Str)) : den C (.dct kvs) ρ = .ok (.val (dctD kvs), ρ) := (rfl)
theorem den_dget (a : ME) (i : Nat) : den C (.dget a i) ρ = (den C a ρ).bind fun p => (M.use p.1 p.2).bind fun x => (M.opt (getC i x.2[i]?) x.2).bind fun k => (M.use k.1 k.2).bind fun y => (M.opt (dgetD x.1 y.1) y.2).bind fun r => .ok (.val r.1, r.2) := by
  show (M.bind (den C a) fun ra => M.bind (M.use ra) fun x => M.bind (M.get i) fun rk => M.bind (M.use rk) fun y => M.bind (M.opt (dgetD x y)) fun r => M.pure (RV.val r)) ρ = _
  simp only [M.bind_ap, get_eq, M.pure_ap]
theorem denT_tr {e : ME} (h : denT C e = tr (den C e)) : denT C e ρ = (den C e ρ).bind fun p => (M.use p.1 p.2).bind fun x => M.opt (truth x.1) x.2 := by rw [h]; rfl
theorem denT_slot (i : Nat) : denT C (.slot i) ρ = (den C (.slot i) ρ).bind fun p => (M.use p.1 p.2).bind fun x => M.opt (truth x.1) x.2 := (rfl)
theorem denT_cst (d : D) : denT C (.cst d) ρ = M.opt (truth d) ρ := (rfl)
theorem denT_ix (a b : ME) : denT C (.ix a b) ρ = (den C (.ix a b) ρ).bind fun p => (M.use p.1 p.2).bind fun x => M.opt (truth x.1) x.2 := (rfl)
theorem denT_call (f : Str) (es : MEs) : denT C (.call f es) ρ = (den C (.call f es) ρ).bind fun p => (M.use p.1 p.2).bind fun x => M.opt (truth x.1) x.2 := (rfl)
theorem denT_blt (b : Bi) (es : MEs) : denT C (.blt b es) ρ = (den C (.blt b es) ρ).bind fun p => (M.use p.1 p.2).bind fun x => M.opt (truth x.1) x.2 := (rfl)
theorem denT_isi (a : ME) (t : String) : denT C (.isi a t) ρ = (den C (.isi a t) ρ).bind fun p => (M.use p.1 p.2).bind fun x => M.opt (truth x.1) x.2 := (rfl)
theorem denT_isi2 (a : ME) (t u : String) : denT C (.isi2 a t u) ρ = (den C (.isi2 a t u) ρ).bind fun p => (M.use p.1 p.2).bind fun x => M.opt (truth x.1) x.2 := (rfl)
theorem denT_meth (m : Mt) (o : ME) (es : MEs) : denT C (.meth m o es) ρ = (den C (.meth m o es) ρ).bind fun p => (M.use p.1 p.2).bind fun x => M.opt (truth x.1) x.2 := (rfl)
theorem truth_bool (b : Bool) : truth (.bool b) = some b := (rfl)
theorem truth_int (i : Int) : truth (.int i) = some (i != 0) := (rfl)
theorem denK_nil : denK C .nil ρ = .ok ([], ρ) := (rfl)
theorem denK_cons (e : ME) (es : MEs) : denK C (.cons e es) ρ = (den C e ρ).bind fun p => (M.keep C.ios p.1 p.2).bind fun d => (denK C es d.2).bind fun ds => .ok (d.1 :: ds.1, ds.2) := (rfl)
theorem denA_nil' : denA C .nil ρ = .ok ([], ρ) := (rfl)
theorem denA_cons (e : ME) (es : MEs) : denA C (.cons e es) ρ = (den C e ρ).bind fun p => (denA C es p.2).bind fun ds => .ok (M.settle p.1 :: ds.1, ds.2) := (rfl)
theorem denO_none : denO C .none ρ = .ok (none, ρ) := (rfl)
theorem denO_some (e : ME) : denO C (.some e) ρ = (den C e ρ).bind fun p => (M.use p.1 p.2).bind fun x => (asInt x.1 x.2).bind fun i => .ok (some i.1, i.2) := (rfl)
theorem denC_none : denC C .none ρ = .ok (true, ρ) := (rfl)
theorem denC_some (e : ME) : denC C (.some e) ρ = denT C e ρ := (rfl)
theorem denI_ex (a : ME) : denI C (.ex a) ρ = (den C a ρ).bind fun p => (M.keep C.ios p.1 p.2).bind fun d => M.opt (walkOf d.1) d.2 := (rfl)
theorem denI_range (es : MEs) : denI C (.range es) ρ = (denK C es ρ).bind fun p => M.opt (rangeI p.1) p.2 := (rfl)
theorem denI_enum (es : MEs) : denI C (.enum es) ρ = (denK C es ρ).bind fun p => M.opt (enumI p.1) p.2 := (rfl)
theorem denI_zip (es : MEs) : denI C (.zip es) ρ = (denK C es ρ).bind fun p => M.opt (zipI p.1) p.2 := (rfl)
def loop (C : Cfg) (clear : List Nat) (tg : Tg) (body : MSs) (xs : List D) (ρ : Rho) : Out (Fl × Rho) := forGo clear tg (denB C body) xs ρ
def wloop (C : Cfg) (c : ME) (body : MSs) (n : Nat) (ρ : Rho) : Out (Fl × Rho) := whlGo (denT C c) (denB C body) n ρ
theorem loop_nil (clear : List Nat) (tg : Tg) (body : MSs) : loop C clear tg body [] ρ = .ok (.nx, ρ) := (rfl)
def after (C : Cfg) (clear : List Nat) (tg : Tg) (body : MSs) (xs : List D) : Fl × Rho → Out (Fl × Rho)
  | (.nx, ρ) => loop C clear tg body xs (M.wipe clear ρ)
  | (.ct, ρ) => loop C clear tg body xs (M.wipe clear ρ)
  | (.bk, ρ) => .ok (.nx, M.wipe clear ρ)
  | (.rt v, ρ) => .ok (.rt v, ρ)
theorem loop_cons (clear : List Nat) (tg : Tg) (body : MSs) (x : D) (xs : List D) : loop C clear tg body (x :: xs) ρ = (M.target tg x ρ).bind fun p => (denB C body p.2).bind (after C clear tg body xs) := by
  show (M.target tg x ρ).bind (fun p => (denB C body p.2).bind fun q => match q.1 with
      | .nx => forGo clear tg (denB C body) xs (M.wipe clear q.2)
      | .ct => forGo clear tg (denB C body) xs (M.wipe clear q.2)
      | .bk => .ok (.nx, M.wipe clear q.2)
      | .rt v => .ok (.rt v, q.2)) = _
  refine congrArg _ (funext fun p => congrArg _ (funext fun q => ?_))
  obtain ⟨fl, ρ'⟩ := q
  cases fl <;> rfl
theorem after_nx (clear : List Nat) (tg : Tg) (body : MSs) (xs : List D) : after C clear tg body xs (.nx, ρ) = loop C clear tg body xs (M.wipe clear ρ) := (rfl)
theorem after_ct (clear : List Nat) (tg : Tg) (body : MSs) (xs : List D) : after C clear tg body xs (.ct, ρ) = loop C clear tg body xs (M.wipe clear ρ) := (rfl)
theorem after_bk (clear : List Nat) (tg : Tg) (body : MSs) (xs : List D) : after C clear tg body xs (.bk, ρ) = .ok (.nx, M.wipe clear ρ) := (rfl)
theorem after_rt (clear : List Nat) (tg : Tg) (body : MSs) (xs : List D) (v : Rs) : after C clear tg body xs (.rt v, ρ) = .ok (.rt v, ρ) := (rfl)
theorem wloop_succ (c : ME) (body : MSs) (n : Nat) : wloop C c body (n + 1) ρ = (denT C c ρ).bind fun k => if k.1 = true then (denB C body k.2).bind fun q => match q with
      | (.nx, ρ) => wloop C c body n ρ
      | (.ct, ρ) => wloop C c body n ρ
      | (.bk, ρ) => .ok (.nx, ρ)
      | (.rt v, ρ) => .ok (.rt v, ρ) else .ok (.nx, k.2) := by
  show (denT C c ρ).bind (fun k => match k.1 with
      | false => Out.ok (Fl.nx, k.2)
      | true => (denB C body k.2).bind fun q => match q.1 with
        | .nx => whlGo (denT C c) (denB C body) n q.2
        | .ct => whlGo (denT C c) (denB C body) n q.2
        | .bk => .ok (.nx, q.2)
        | .rt v => .ok (.rt v, q.2)) = _
  refine congrArg _ (funext fun k => ?_)
  obtain ⟨k, ρ'⟩ := k
  cases k
  · rfl
  · show (denB C body ρ').bind _ = _
    rw [if_pos rfl]
    refine congrArg _ (funext fun q => ?_)
    obtain ⟨fl, ρ''⟩ := q
    cases fl <;> rfl
theorem denS_asg (i : Nat) (hold : Bool) (e : ME) : denS C (.asg i hold e) ρ = (den C e ρ).bind fun p => (M.store C.ios i hold p.1 p.2).bind fun q => .ok (.nx, q.2) := (rfl)
theorem denS_asgT (is : List Nat) (e : ME) : denS C (.asgT is e) ρ = (den C e ρ).bind fun p => (M.keep C.ios p.1 p.2).bind fun d => (M.target (.tup is) d.1 d.2).bind fun q => .ok (.nx, q.2) := (rfl)
theorem denS_par (is : List Nat) (es : MEs) : denS C (.par is es) ρ = (denK C es ρ).bind fun p => if is.length = p.1.length then .ok (.nx, M.setAll is p.1 p.2) else .stuck := by
  show (M.bind (denK C es) fun ds => if is.length = ds.length then fun ρ => .ok (Fl.nx, M.setAll is ds ρ) else M.stuck) ρ = _
  simp only [M.bind_ap, ite_ap, M.stuck_ap]
def sixC (i : Nat) (j : Int) (d : D) (ρ : Rho) : Option (Option Cell) → Out (Fl × Rho)
  | some (some (.own xs)) => match L2.ixN xs.length j with
    | some n => .ok (.nx, ρ.set i (some (.own (xs.set n d))))
    | none => .stuck
  | _ => .stuck
theorem sixC_own {xs : List D} {j : Int} {n : Nat} (i : Nat) (d : D) (h : L2.ixN xs.length j = some n) : sixC i j d ρ (some (some (.own xs))) = .ok (.nx, ρ.set i (some (.own (xs.set n d)))) := by
  unfold sixC
  simp only [h]
theorem denS_setIx (i : Nat) (k e : ME) : denS C (.setIx i k e) ρ = (den C e ρ).bind fun p => (M.keep C.ios p.1 p.2).bind fun d => if ownB d.2[i]? = true then (den C k d.2).bind fun rk => (M.use rk.1 rk.2).bind fun x => (asInt x.1 x.2).bind fun j => sixC i j.1 d.1 j.2 j.2[i]? else .stuck := by
  show (M.bind (den C e) fun r => M.bind (M.keep C.ios r) fun d => M.bind (isOwn i) fun _ => M.bind (den C k) fun rk => M.bind (M.use rk) fun x => M.bind (asInt x) fun j => fun ρ => match ρ[i]? with
      | some (some (.own xs)) => match L2.ixN xs.length j with
        | some n => .ok (Fl.nx, ρ.set i (some (.own (xs.set n d))))
        | none => .stuck
      | _ => .stuck) ρ = _
  simp only [M.bind_ap]
  refine congrArg _ (funext fun p => congrArg _ (funext fun d => ?_))
  unfold isOwn ownB
  cases d.2[i]? with
  | none => rfl
  | some o => cases o with
    | none => rfl
    | some c => cases c with
      | val d => rfl
      | own xs =>
        rw [if_pos rfl]
        show (den C k d.2).bind _ = _
        refine congrArg _ (funext fun rk => congrArg _ (funext fun x => congrArg _ (funext fun j => ?_)))
        unfold sixC
        rfl
theorem denS_setSl (i : Nat) (lo hi e : ME) : denS C (.setSl i lo hi e) ρ = (den C e ρ).bind fun p => (M.keep C.ios p.1 p.2).bind fun d => if ownB d.2[i]? = true then (denO C (.some lo) d.2).bind fun l => (denO C (.some hi) l.2).bind fun h => spliceAt i d.1 l.1 h.1 h.2 else .stuck := by
  show (M.bind (den C e) fun r => M.bind (M.keep C.ios r) fun d => M.bind (isOwn i) fun _ => M.bind (denO C (.some lo)) fun l => M.bind (denO C (.some hi)) fun h => spliceAt i d l h) ρ = _
  simp only [M.bind_ap]
  refine congrArg _ (funext fun p => congrArg _ (funext fun d => ?_))
  unfold isOwn ownB
  cases d.2[i]? with
  | none => rfl
  | some o => cases o with
    | none => rfl
    | some c => cases c with
      | val d => rfl
      | own xs =>
        rw [if_pos rfl]
        rfl
theorem denS_ex (e : ME) : denS C (.ex e) ρ = (den C e ρ).bind fun p => .ok (.nx, p.2) := (rfl)
theorem denS_ret (e : ME) : denS C (.ret e) ρ = (den C e ρ).bind fun p => (M.give C.ios p.1 p.2).bind fun v => .ok (.rt v.1, v.2) := (rfl)
theorem denS_retN : denS C .retN ρ = .ok (.rt (.val .none), ρ) := (rfl)
theorem denS_ite (c : ME) (a b : MSs) : denS C (.ite c a b) ρ = (denT C c ρ).bind fun k => if k.1 = true then denB C a k.2 else denB C b k.2 := by
  show (M.bind (denT C c) fun k => if k = true then denB C a else denB C b) ρ = _
  simp only [M.bind_ap, ite_ap]
theorem denS_for (clear : List Nat) (tg : Tg) (it : MI) (body : MSs) : denS C (.for clear tg it body) ρ = (denI C it ρ).bind fun p => loop C clear tg body p.1 p.2 := (rfl)
theorem denS_whl (c : ME) (body : MSs) : denS C (.whl c body) ρ = wloop C c body fuel ρ := (rfl)
theorem denS_raise (x : Str) : denS C (.raise x) ρ = .exc x none := (rfl)
theorem denS_pass : denS C .pass ρ = .ok (.nx, ρ) := (rfl)
theorem denS_brk : denS C .brk ρ = .ok (.bk, ρ) := (rfl)
theorem denS_cont : denS C .cont ρ = .ok (.ct, ρ) := (rfl)
theorem denB_nil : denB C .nil ρ = .ok (.nx, ρ) := (rfl)
def next (C : Cfg) (r : MSs) : Fl × Rho → Out (Fl × Rho)
  | (.nx, ρ) => denB C r ρ
  | (f, ρ) => .ok (f, ρ)
theorem denB_cons (s : MS) (r : MSs) : denB C (.cons s r) ρ = (denS C s ρ).bind (next C r) := by
  show (M.bind (denS C s) fun
      | .nx => denB C r
      | f => M.pure f) ρ = _
  simp only [M.bind_ap]
  refine congrArg _ (funext fun p => ?_)
  obtain ⟨fl, ρ'⟩ := p
  cases fl <;> rfl
theorem next_nx (r : MSs) : next C r (.nx, ρ) = denB C r ρ := (rfl)
theorem next_rt (r : MSs) (v : Rs) : next C r (.rt v, ρ) = .ok (.rt v, ρ) := (rfl)
theorem next_bk (r : MSs) : next C r (.bk, ρ) = .ok (.bk, ρ) := (rfl)
theorem next_ct (r : MSs) : next C r (.ct, ρ) = .ok (.ct, ρ) := (rfl)
end
def argC (i : Nat) : Option (Option Cell) → Option Arg
  | some (some (.own ds)) => some (.lent i ds)
  | some (some (.val d)) => some (.val d)
  | _ => none
theorem argC_own (i : Nat) (ds : List D) : argC i (some (some (.own ds))) = some (.lent i ds) := (rfl)
theorem argC_val (i : Nat) (d : D) : argC i (some (some (.val d))) = some (.val d) := (rfl)
theorem argOf_val (ρ : Rho) (d : D) : argOf ρ (.val d) = some (.val d) := (rfl)
theorem argOf_fresh (ρ : Rho) (d : List D) : argOf ρ (.fresh d) = some (.val (.list d)) := (rfl)
theorem argOf_own (ρ : Rho) (i : Nat) : argOf ρ (.own i) = argC i ρ[i]? := by
  unfold argOf argC
  rfl
theorem argsOf_nil (ρ : Rho) : argsOf ρ [] = some [] := (rfl)
theorem argsOf_cons (ρ : Rho) (r : RV) (rs : List RV) : argsOf ρ (r :: rs) = (argOf ρ r).bind fun a => (argsOf ρ rs).map (a :: ·) := (rfl)
theorem lookAll_nil (ρ : Rho) : lookAll ρ [] = some [] := (rfl)
theorem lookAll_cons (ρ : Rho) (r : RV) (rs : List RV) : lookAll ρ (r :: rs) = (M.look ρ r).bind fun d => (lookAll ρ rs).map (d :: ·) := (rfl)
def callA (m : FM) (as : List Arg) (ρ : Rho) : Out (RV × Rho) := if apart as then (m (as.map Arg.cell)).bind fun p => (M.opt (back as p.2 ρ) ρ).bind fun q => .ok (p.1.rv, q.1) else .stuck
theorem callF_eq (m : FM) (rs : List RV) (ρ : Rho) : callF m rs ρ = (M.opt (argsOf ρ rs) ρ).bind fun p => callA m p.1 ρ := by
  unfold callF
  cases argsOf ρ rs with
  | none => rfl
  | some as =>
    show (if apart as = true then _ else _) = callA m as ρ
    unfold callA
    split
    · refine congrArg _ (funext fun p => ?_)
      cases back as p.2 ρ <;> rfl
    · rfl
theorem callA_ok {m : FM} {as : List Arg} {ρ ρ' : Rho} {v : Rs} {os : List (List D)} (ha : apart as = true) (h : m (as.map Arg.cell) = .ok (v, os)) (hb : back as os ρ = some ρ') : callA m as ρ = .ok (v.rv, ρ') := by
  unfold callA
  rw [if_pos ha, h]
  show (M.opt (back as os ρ) ρ).bind _ = _
  rw [hb]
  rfl
theorem den_callL (C : Cfg) (ρ : Rho) (f : Str) (a b : Nat) (ds : List D) (z : D) : den C (.callL f a b ds z) ρ = if lines ds.length = true then (M.opt (argC a ρ[a]?) ρ).bind fun x => (M.opt (argC b ρ[b]?) ρ).bind fun y => callA (C.Φ f) [x.1, y.1, .temp ds, .val z] ρ else .stuck := by
  show callLF (C.Φ f) a b ds z ρ = _
  unfold callLF
  rw [argOf_own, argOf_own]
  by_cases h : lines ds.length = true
  · rw [if_pos h]
    cases argC a ρ[a]? with
    | none => rfl
    | some x => cases argC b ρ[b]? with
      | none => rfl
      | some y =>
        simp only [if_pos h]
        show callAs (C.Φ f) [x, y, .temp ds, .val z] ρ = callA (C.Φ f) [x, y, .temp ds, .val z] ρ
        unfold callAs callA
        split
        · refine congrArg _ (funext fun p => ?_)
          cases back [x, y, .temp ds, .val z] p.2 ρ <;> rfl
        · rfl
  · rw [if_neg h]
    split
    · rw [if_neg h]
    · rfl
def fin (cs : List Cell) : Out (Fl × Rho) → Out (Rs × List (List D))
  | .ok (.rt v, ρ) => (match outs cs 0 ρ with | some os => .ok (v, os) | none => .stuck)
  | .ok (.nx, ρ) => (match outs cs 0 ρ with | some os => .ok (.val .none, os) | none => .stuck)
  | .ok _ => .stuck
  | .exc e l => .exc e l
  | .stuck => .stuck
theorem fin_rt {cs : List Cell} {ρ : Rho} {v : Rs} {os : List (List D)} (h : outs cs 0 ρ = some os) : fin cs (.ok (.rt v, ρ)) = .ok (v, os) := by
  unfold fin
  simp only [h]
theorem fin_nx {cs : List Cell} {ρ : Rho} {os : List (List D)} (h : outs cs 0 ρ = some os) : fin cs (.ok (.nx, ρ)) = .ok (.val .none, os) := by
  unfold fin
  simp only [h]
def finO (v : Rs) : Option (List (List D)) → Out (Rs × List (List D))
  | some os => .ok (v, os)
  | none => .stuck
theorem finO_some (v : Rs) (os : List (List D)) : finO v (some os) = .ok (v, os) := (rfl)
theorem fin_rtE (cs : List Cell) (ρ : Rho) (v : Rs) : fin cs (.ok (.rt v, ρ)) = finO v (outs cs 0 ρ) := (rfl)
theorem fin_nxE (cs : List Cell) (ρ : Rho) : fin cs (.ok (.nx, ρ)) = finO (.val .none) (outs cs 0 ρ) := (rfl)
theorem fin_exc (cs : List Cell) (e : Str) (l : Option Int) : fin cs (.exc e l) = .exc e l := (rfl)
theorem fin_ite (cs : List Cell) (c : Prop) [Decidable c] (a b : Out (Fl × Rho)) : fin cs (if c then a else b) = if c then fin cs a else fin cs b := by split <;> rfl
theorem denF_eq (Φ : Str → FM) (Φ2 : Option (Str → FM)) (Γ : Str → Option D) (exc : Str → Bool) (f : MF) (cs : List Cell) (h : cs.length = f.np) :
    denF Φ Φ2 Γ exc f cs = fin cs (denB ⟨Φ, Γ, iosOf cs 0, exc, Φ2⟩ f.body (cs.map some ++ List.replicate (f.nn - f.np) none)) := by
  unfold denF
  rw [if_pos h]
  cases denB ⟨Φ, Γ, iosOf cs 0, exc, Φ2⟩ f.body (cs.map some ++ List.replicate (f.nn - f.np) none) with
  | ok q =>
    obtain ⟨fl, ρ⟩ := q
    cases fl <;> cases q : outs cs 0 ρ <;> simp [fin, q]
  | exc e l => rfl
  | stuck => rfl
section
variable {T : Str → Option MF} {Γ : Str → Option D} {exc : Str → Bool}
theorem phi_at {n : Nat} {x : Str} {f : MF} {cs : List Cell} (h : T x = some f) (hl : cs.length = f.np) :
    Phi T Γ exc (n + 1) x cs = fin cs (denB ⟨Phi T Γ exc n, Γ, iosOf cs 0, exc, Phi2 T Γ exc n⟩ f.body (cs.map some ++ List.replicate (f.nn - f.np) none)) := by
  rw [Phi_succ h, denF_eq _ _ _ _ _ _ hl]
end
theorem outs_val (d : D) (cs : List Cell) (k : Nat) (ρ : Rho) : outs (.val d :: cs) k ρ = outs cs (k + 1) ρ := (rfl)
theorem outs_nil (k : Nat) (ρ : Rho) : outs [] k ρ = some [] := (rfl)
def outC (o : Option (List (List D))) : Option (Option Cell) → Option (List (List D))
  | some (some (.own ds)) => o.map (ds :: ·)
  | _ => none
theorem outC_own (o : Option (List (List D))) (ds : List D) : outC o (some (some (.own ds))) = o.map (ds :: ·) := (rfl)
theorem outs_own (ds : List D) (cs : List Cell) (k : Nat) (ρ : Rho) : outs (.own ds :: cs) k ρ = outC (outs cs (k + 1) ρ) ρ[k]? := by
  show (match ρ[k]? with
    | some (some (.own ds)) => (outs cs (k + 1) ρ).map (ds :: ·)
    | _ => none) = _
  unfold outC
  rfl
def MSs.at : MSs → Nat → MS
  | .cons s _, 0 => s
  | .cons _ r, n + 1 => r.at n
  | .nil, _ => .pass
def MSs.rest : MSs → Nat → MSs
  | r, 0 => r
  | .cons _ r, n + 1 => r.rest n
  | .nil, _ => .nil
def MS.body : MS → MSs
  | .for _ _ _ b => b
  | .whl _ b => b
  | _ => .nil
def MS.thn : MS → MSs
  | .ite _ a _ => a
  | _ => .nil
def MS.els : MS → MSs
  | .ite _ _ b => b
  | _ => .nil
end G
namespace G
open PySem
open PyData (strOk)
theorem wipe_len : ∀ (own : List Nat) (ρ : Rho), (M.wipe own ρ).length = ρ.length
  | [], _ => rfl
  | i :: own, ρ => by
    show (M.wipe own (ρ.set i none)).length = _
    rw [wipe_len own, List.length_set]
theorem wipe_get : ∀ (own : List Nat) (ρ : Rho) (j : Nat), (M.wipe own ρ)[j]? = if j ∈ own ∧ j < ρ.length then some none else ρ[j]?
  | [], _, _ => by simp [M.wipe]
  | i :: own, ρ, j => by
    show (M.wipe own (ρ.set i none))[j]? = _
    rw [wipe_get own, List.length_set, List.getElem?_set]
    by_cases h1 : j ∈ own ∧ j < ρ.length
    · rw [if_pos h1, if_pos ⟨List.mem_cons_of_mem _ h1.1, h1.2⟩]
    · rw [if_neg h1]
      by_cases h2 : i = j
      · subst h2
        rw [if_pos rfl]
        by_cases h3 : i < ρ.length
        · rw [if_pos h3, if_pos ⟨List.mem_cons_self, h3⟩]
        · rw [if_neg h3, if_neg (fun z => h3 z.2)]
          simp [List.getElem?_eq_none (Nat.le_of_not_lt h3)]
      · rw [if_neg h2]
        by_cases h3 : j ∈ i :: own ∧ j < ρ.length
        · rcases List.mem_cons.mp h3.1 with h4 | h4
          · exact absurd h4.symm h2
          · exact absurd ⟨h4, h3.2⟩ h1
        · rw [if_neg h3]
theorem restore_len : ∀ (own : List Nat) (ρ₀ ρ : Rho), (M.restore own ρ₀ ρ).length = ρ.length
  | [], _, _ => rfl
  | i :: own, ρ₀, ρ => by
    show (M.restore own ρ₀ (ρ.set i _)).length = _
    rw [restore_len own, List.length_set]
def cleanC : Option (Option Cell) → Bool
  | some (some (.own _)) => false
  | _ => true
def valOr : Option (Option Cell) → Option Cell
  | some (some (.val d)) => some (.val d)
  | _ => none
theorem restore_get : ∀ (own : List Nat) (ρ₀ ρ : Rho) (j : Nat), (M.restore own ρ₀ ρ)[j]? = if j ∈ own ∧ j < ρ.length then some (valOr ρ₀[j]?) else ρ[j]?
  | [], _, _, _ => by simp [M.restore]
  | i :: own, ρ₀, ρ, j => by
    show (M.restore own ρ₀ (ρ.set i (valOr ρ₀[i]?)))[j]? = _
    rw [restore_get own, List.length_set, List.getElem?_set]
    by_cases h1 : j ∈ own ∧ j < ρ.length
    · rw [if_pos h1, if_pos ⟨List.mem_cons_of_mem _ h1.1, h1.2⟩]
    · rw [if_neg h1]
      by_cases h2 : i = j
      · subst h2
        rw [if_pos rfl]
        by_cases h3 : i < ρ.length
        · rw [if_pos h3, if_pos ⟨List.mem_cons_self, h3⟩]
        · rw [if_neg h3, if_neg (fun z => h3 z.2)]
          simp [List.getElem?_eq_none (Nat.le_of_not_lt h3)]
      · rw [if_neg h2]
        by_cases h3 : j ∈ i :: own ∧ j < ρ.length
        · rcases List.mem_cons.mp h3.1 with h4 | h4
          · exact absurd h4.symm h2
          · exact absurd ⟨h4, h3.2⟩ h1
        · rw [if_neg h3]
theorem restore_eq {own : List Nat} {ρ₀ ρ : Rho} (h : M.wipe own ρ = M.wipe own ρ₀) (c : (own.all fun i => cleanC ρ₀[i]?) = true) : M.restore own ρ₀ ρ = ρ₀ := by
  have hl : ρ.length = ρ₀.length := by rw [← wipe_len own ρ, h, wipe_len]
  apply List.ext_getElem?
  intro j
  rw [restore_get]
  have hg := congrArg (fun z : Rho => z[j]?) h
  simp only [wipe_get, hl] at hg
  by_cases h1 : j ∈ own ∧ j < ρ.length
  · rw [if_pos h1]
    have c := List.all_eq_true.mp c j h1.1
    rw [hl] at h1
    have : ρ₀[j]? = some ρ₀[j] := List.getElem?_eq_getElem h1.2
    rw [this] at c ⊢
    cases q : ρ₀[j] with
    | none => rfl
    | some x => cases x with
      | val d => rfl
      | own d => rw [q] at c; cases c
  · rw [if_neg h1]
    rw [hl] at h1
    rw [if_neg h1, if_neg h1] at hg
    exact hg
theorem comp_go {C : Cfg} {own : List Nat} {tg : Tg} {cond : MO} {el : ME} {ρw : Rho} {g : D → Option D} : ∀ (xs : List D) (ρ : Rho), M.wipe own ρ = ρw →
    (∀ x ∈ xs, ∃ ρ1, M.target tg x ρw = .ok ((), ρ1) ∧ M.wipe own ρ1 = ρw ∧ ((denC C cond ρ1 = .ok (true, ρ1) ∧ ∃ r d, den C el ρ1 = .ok (r, ρ1) ∧ M.keep C.ios r ρ1 = .ok (d, ρ1) ∧ g x = some d) ∨ (denC C cond ρ1 = .ok (false, ρ1) ∧ g x = none))) →
    ∃ ρ', comp C own tg cond el xs ρ = .ok (xs.filterMap g, ρ') ∧ M.wipe own ρ' = ρw
  | [], ρ, hw, _ => ⟨ρ, rfl, hw⟩
  | x :: xs, ρ, hw, h => by
    obtain ⟨ρ1, h1, h2, h3⟩ := h x List.mem_cons_self
    have h' := fun y hy => h y (List.mem_cons_of_mem _ hy)
    rcases h3 with ⟨h3, r, d, h4, h5, h6⟩ | ⟨h3, h6⟩
    · obtain ⟨ρ', e, e2⟩ := comp_go xs ρ1 h2 h'
      refine ⟨ρ', ?_, e2⟩
      show lcGo own tg (denC C cond) (M.bind (den C el) fun r => M.keep C.ios r) (x :: xs) ρ = _
      unfold lcGo
      rw [hw, h1]
      simp only [bind_ok]
      rw [h3]
      simp only [bind_ok]
      rw [M.bind_ap, h4]
      simp only [bind_ok]
      rw [h5]
      simp only [bind_ok]
      have e' : lcGo own tg (denC C cond) (M.bind (den C el) fun r => M.keep C.ios r) xs ρ1 = .ok (xs.filterMap g, ρ') := e
      rw [e']
      simp only [bind_ok, List.filterMap_cons, h6]
    · obtain ⟨ρ', e, e2⟩ := comp_go xs ρ1 h2 h'
      refine ⟨ρ', ?_, e2⟩
      show lcGo own tg (denC C cond) (M.bind (den C el) fun r => M.keep C.ios r) (x :: xs) ρ = _
      unfold lcGo
      rw [hw, h1]
      simp only [bind_ok]
      rw [h3]
      simp only [bind_ok]
      have e' : lcGo own tg (denC C cond) (M.bind (den C el) fun r => M.keep C.ios r) xs ρ1 = .ok (xs.filterMap g, ρ') := e
      rw [e']
      simp only [List.filterMap_cons, h6]
theorem comp_ok {C : Cfg} {own : List Nat} {tg : Tg} {cond : MO} {el : ME} {g : D → Option D} {xs : List D} {ρ : Rho} (ρw : Rho) (hw : M.wipe own ρ = ρw) (c : (own.all fun i => cleanC ρ[i]?) = true)
    (h : ∀ x ∈ xs, ∃ ρ1, M.target tg x ρw = .ok ((), ρ1) ∧ M.wipe own ρ1 = ρw ∧ ((denC C cond ρ1 = .ok (true, ρ1) ∧ ∃ r d, den C el ρ1 = .ok (r, ρ1) ∧ M.keep C.ios r ρ1 = .ok (d, ρ1) ∧ g x = some d) ∨ (denC C cond ρ1 = .ok (false, ρ1) ∧ g x = none))) :
    lcEnd own ρ (comp C own tg cond el xs ρ) = .ok (.fresh (xs.filterMap g), ρ) := by
  obtain ⟨ρ', e, e2⟩ := comp_go xs ρ hw h
  rw [e, lcEnd_ok, restore_eq (e2.trans hw.symm) c]
theorem comp_map {C : Cfg} {own : List Nat} {tg : Tg} {el : ME} {g : D → D} {xs : List D} {ρ : Rho} (ρw : Rho) (hw : M.wipe own ρ = ρw) (c : (own.all fun i => cleanC ρ[i]?) = true)
    (h : ∀ x ∈ xs, ∃ ρ1, M.target tg x ρw = .ok ((), ρ1) ∧ M.wipe own ρ1 = ρw ∧ ∃ r, den C el ρ1 = .ok (r, ρ1) ∧ M.keep C.ios r ρ1 = .ok (g x, ρ1)) :
    lcEnd own ρ (comp C own tg .none el xs ρ) = .ok (.fresh (xs.map g), ρ) := by
  have := comp_ok (C := C) (own := own) (tg := tg) (cond := .none) (el := el) (g := fun x => some (g x)) (xs := xs) (ρ := ρ) ρw hw c fun x hx => by
    obtain ⟨ρ1, h1, h2, r, h3, h4⟩ := h x hx
    exact ⟨ρ1, h1, h2, .inl ⟨rfl, r, g x, h3, h4, rfl⟩⟩
  rw [this]
  simp [List.filterMap_eq_map']
theorem loop_run {C : Cfg} {cl : List Nat} {tg : Tg} {body : MSs} {P : List D → Rho → Prop}
    (step : ∀ x r ρ, P (x :: r) ρ → ∃ ρ1 ρ2, M.target tg x ρ = .ok ((), ρ1) ∧ denB C body ρ1 = .ok (.nx, ρ2) ∧ P r (M.wipe cl ρ2)) : ∀ (xs : List D) (ρ : Rho), P xs ρ → ∃ ρ', loop C cl tg body xs ρ = .ok (.nx, ρ') ∧ P [] ρ'
  | [], ρ, h => ⟨ρ, rfl, h⟩
  | x :: r, ρ, h => by
    obtain ⟨ρ1, ρ2, h1, h2, h3⟩ := step x r ρ h
    obtain ⟨ρ', h4, h5⟩ := loop_run step r _ h3
    refine ⟨ρ', ?_, h5⟩
    rw [loop_cons, h1, bind_ok, h2, bind_ok, after_nx, h4]
theorem shaped_int (i : Int) : SeqAt.shaped (.int i) = true := by simp [SeqAt.shaped, PyData.canLay0, PyData.depth]
theorem shaped_bool (i : Bool) : SeqAt.shaped (.bool i) = true := by simp [SeqAt.shaped, PyData.canLay0, PyData.depth]
theorem shaped_none : SeqAt.shaped .none = true := by simp [SeqAt.shaped, PyData.canLay0, PyData.depth]
theorem shaped_str {x : Str} (h : strOk x = true) : SeqAt.shaped (.str x) = true := by simp [SeqAt.shaped, PyData.canLay0, PyData.depth, h]
def Sh (n : Nat) (d : D) : Prop := d.canLay0 = true ∧ d.depth ≤ n
theorem Sh.mono {m n : Nat} {d : D} (h : Sh m d) (le : m ≤ n) : Sh n d := ⟨h.1, Nat.le_trans h.2 le⟩
theorem Sh.shaped {n : Nat} {d : D} (h : Sh n d) (le : n ≤ 64) : SeqAt.shaped d = true := by
  unfold SeqAt.shaped
  rw [h.1, decide_eq_true (Nat.le_trans h.2 le)]
  rfl
theorem sh_int (n : Nat) (i : Int) : Sh n (.int i) := ⟨by simp [PyData.canLay0], by simp [PyData.depth]⟩
theorem sh_bool (n : Nat) (i : Bool) : Sh n (.bool i) := ⟨by simp [PyData.canLay0], by simp [PyData.depth]⟩
theorem sh_none (n : Nat) : Sh n .none := ⟨by simp [PyData.canLay0], by simp [PyData.depth]⟩
theorem sh_str (n : Nat) {x : Str} (h : strOk x = true) : Sh n (.str x) := ⟨by simp [PyData.canLay0, h], by simp [PyData.depth]⟩
theorem canAll : ∀ {xs : List D}, PyData.canLayAll0 xs = true ↔ ∀ x ∈ xs, x.canLay0 = true
  | [] => by simp [PyData.canLayAll0]
  | x :: xs => by simp [PyData.canLayAll0, canAll (xs := xs)]
theorem depAll {n : Nat} : ∀ {xs : List D}, PyData.depthAll xs ≤ n ↔ ∀ x ∈ xs, x.depth ≤ n
  | [] => by simp [PyData.depthAll]
  | x :: xs => by simp [PyData.depthAll, depAll (xs := xs), Nat.max_le]
theorem sh_tup {n : Nat} {xs : List D} : Sh (n + 1) (.tuple xs) ↔ ∀ x ∈ xs, Sh n x := by
  unfold Sh
  simp only [PyData.canLay0, PyData.depth, canAll, Nat.add_le_add_iff_right, depAll]
  exact ⟨fun h x hx => ⟨h.1 x hx, h.2 x hx⟩, fun h => ⟨fun x hx => (h x hx).1, fun x hx => (h x hx).2⟩⟩
theorem sh_lst {n : Nat} {xs : List D} : Sh (n + 1) (.list xs) ↔ ∀ x ∈ xs, Sh n x := by
  unfold Sh
  simp only [PyData.canLay0, PyData.depth, canAll, Nat.add_le_add_iff_right, depAll]
  exact ⟨fun h x hx => ⟨h.1 x hx, h.2 x hx⟩, fun h => ⟨fun x hx => (h x hx).1, fun x hx => (h x hx).2⟩⟩
theorem sh_strs {n : Nat} {xs : List Str} (h : ∀ x ∈ xs, strOk x = true) : ∀ x ∈ xs.map PyData.str, Sh n x := fun x hx => by
  obtain ⟨y, hy, rfl⟩ := List.mem_map.mp hx
  exact sh_str n (h y hy)
theorem cmp_eq {x y : D} (hx : SeqAt.shaped x = true) (hy : SeqAt.shaped y = true) : cmp .eq x y = some (PyData.eqv x y) := by
  show peq x y = _
  unfold peq
  rw [hx, hy]
  rfl
theorem cmp_ne {x y : D} (hx : SeqAt.shaped x = true) (hy : SeqAt.shaped y = true) : cmp .ne x y = some (!PyData.eqv x y) := by
  show (peq x y).map (!·) = _
  unfold peq
  rw [hx, hy]
  rfl
theorem eqv_int (i j : Int) : PyData.eqv (.int i) (.int j) = decide (i = j) := by
  unfold PyData.eqv
  by_cases h : i = j <;> simp [h]
theorem eqv_str (i j : Str) : PyData.eqv (.str i) (.str j) = decide (i = j) := by
  unfold PyData.eqv
  by_cases h : i = j <;> simp [h]
theorem cmp_eq_int (i j : Int) : cmp .eq (.int i) (.int j) = some (decide (i = j)) := by rw [cmp_eq (shaped_int i) (shaped_int j), eqv_int]
theorem cmp_ne_int (i j : Int) : cmp .ne (.int i) (.int j) = some (!decide (i = j)) := by rw [cmp_ne (shaped_int i) (shaped_int j), eqv_int]
theorem cmp_eq_str {i j : Str} (hi : strOk i = true) (hj : strOk j = true) : cmp .eq (.str i) (.str j) = some (decide (i = j)) := by rw [cmp_eq (shaped_str hi) (shaped_str hj), eqv_str]
theorem cmp_ne_str {i j : Str} (hi : strOk i = true) (hj : strOk j = true) : cmp .ne (.str i) (.str j) = some (!decide (i = j)) := by rw [cmp_ne (shaped_str hi) (shaped_str hj), eqv_str]
theorem ok_int (i j : Int) : cmpOk (.int i) (.int j) = true := by
  unfold cmpOk
  rw [shaped_int, shaped_int]
  simp [notNone, PySem.W.alike]
theorem cmp_lt_int (i j : Int) : cmp .lt (.int i) (.int j) = some (decide (i < j)) := by
  show (if cmpOk (.int i) (.int j) then some _ else none) = _
  rw [if_pos (ok_int i j), PySem.W.dataLt_int]
theorem cmp_gt_int (i j : Int) : cmp .gt (.int i) (.int j) = some (decide (i > j)) := by
  show (if cmpOk (.int i) (.int j) then some _ else none) = _
  rw [if_pos (ok_int i j), PySem.W.dataLt_int]
theorem cmp_le_int (i j : Int) : cmp .le (.int i) (.int j) = some (decide (i ≤ j)) := by
  show (if cmpOk (.int i) (.int j) then some _ else none) = _
  rw [if_pos (ok_int i j), PySem.W.dataLt_int]
  congr 1
  by_cases h : i ≤ j
  · rw [decide_eq_true h, decide_eq_false (by omega)]; rfl
  · rw [decide_eq_false h, decide_eq_true (by omega)]; rfl
theorem cmp_ge_int (i j : Int) : cmp .ge (.int i) (.int j) = some (decide (i ≥ j)) := by
  show (if cmpOk (.int i) (.int j) then some _ else none) = _
  rw [if_pos (ok_int i j), PySem.W.dataLt_int]
  congr 1
  by_cases h : i ≥ j
  · rw [decide_eq_true h, decide_eq_false (by omega)]; rfl
  · rw [decide_eq_false h, decide_eq_true (by omega)]; rfl
theorem bin_add_int (i j : Int) : bin .add (.int i) (.int j) = some (.val (.int (i + j))) := (rfl)
theorem bin_sub_int (i j : Int) : bin .sub (.int i) (.int j) = some (.val (.int (i - j))) := (rfl)
theorem bin_add_str {i j : Str} (h : i.length + j.length ≤ sizeLine) : bin .add (.str i) (.str j) = some (.val (.str (i ++ j))) := if_pos h
theorem bin_add_tup {i j : List D} (h : i.length + j.length ≤ sizeLine) : bin .add (.tuple i) (.tuple j) = some (.val (.tuple (i ++ j))) := if_pos h
theorem bin_add_lst {i j : List D} (h : i.length + j.length ≤ sizeLine) : bin .add (.list i) (.list j) = some (.fresh (i ++ j)) := if_pos h
theorem line_big : 16777216 = sizeLine := (rfl)
theorem lines_small {n : Nat} (h : n ≤ 1000) : lines n = true := decide_eq_true (Nat.le_trans h (by decide))
theorem lines_ok {n : Nat} (h : n ≤ 16777216) : lines n = true := decide_eq_true h
theorem blt_len_tup (xs : List D) : blt .len [.tuple xs] = some (.val (.int xs.length)) := (rfl)
theorem blt_len_t0 : blt .len [.tuple []] = some (.val (.int 0)) := (rfl)
theorem blt_len_t1 (a : D) : blt .len [.tuple [a]] = some (.val (.int 1)) := (rfl)
theorem blt_len_t2 (a b : D) : blt .len [.tuple [a, b]] = some (.val (.int 2)) := (rfl)
theorem blt_len_t3 (a b c : D) : blt .len [.tuple [a, b, c]] = some (.val (.int 3)) := (rfl)
theorem blt_len_t4 (a b c d : D) : blt .len [.tuple [a, b, c, d]] = some (.val (.int 4)) := (rfl)
theorem blt_len_lst (xs : List D) : blt .len [.list xs] = some (.val (.int xs.length)) := (rfl)
theorem blt_len_str {s : Str} (h : s.length ≤ sizeLine) : blt .len [.str s] = some (.val (.int s.length)) := by
  show (if s.length ≤ sizeLine then some (PyData.int s.length) else none).map Rs.val = _
  rw [if_pos h]
  rfl
theorem pix_tup0 (x : D) (xs : List D) : pix (.tuple (x :: xs)) (.int 0) = some x := by
  show L2.atI (x :: xs) 0 = _
  exact L2.atI_nat (j := 0) rfl
theorem pix_tup1 (x y : D) (xs : List D) : pix (.tuple (x :: y :: xs)) (.int 1) = some y := by
  show L2.atI (x :: y :: xs) 1 = _
  exact L2.atI_nat (j := 1) rfl
theorem pix_tup2 (x y z : D) (xs : List D) : pix (.tuple (x :: y :: z :: xs)) (.int 2) = some z := by
  show L2.atI (x :: y :: z :: xs) 2 = _
  exact L2.atI_nat (j := 2) rfl
theorem pix_tup3 (x y z u : D) (xs : List D) : pix (.tuple (x :: y :: z :: u :: xs)) (.int 3) = some u := by
  show L2.atI (x :: y :: z :: u :: xs) 3 = _
  exact L2.atI_nat (j := 3) rfl
theorem pix_tup {xs : List D} {i : Nat} {x : D} (h : xs[i]? = some x) : pix (.tuple xs) (.int i) = some x := L2.atI_nat h
theorem pix_lst {xs : List D} {i : Nat} {x : D} (h : xs[i]? = some x) : pix (.list xs) (.int i) = some x := L2.atI_nat h
theorem pix_lst0 (x : D) (xs : List D) : pix (.list (x :: xs)) (.int 0) = some x := L2.atI_nat (j := 0) rfl
theorem pix_lst1 (x y : D) (xs : List D) : pix (.list (x :: y :: xs)) (.int 1) = some y := L2.atI_nat (j := 1) rfl
theorem boolsD_map : ∀ bs : List Bool, boolsD (bs.map .bool) = some bs
  | [] => rfl
  | b :: bs => by
    show (boolsD (bs.map .bool)).map (b :: ·) = _
    rw [boolsD_map bs]
    rfl
theorem strsD_map : ∀ bs : List Str, strsD (bs.map .str) = some bs
  | [] => rfl
  | b :: bs => by
    show (strsD (bs.map .str)).map (b :: ·) = _
    rw [strsD_map bs]
    rfl
theorem intsD_map : ∀ bs : List Int, intsD (bs.map .int) = some bs
  | [] => rfl
  | b :: bs => by
    show (intsD (bs.map .int)).map (b :: ·) = _
    rw [intsD_map bs]
    rfl
theorem blt_all (bs : List Bool) : blt .all [.list (bs.map .bool)] = some (.val (.bool (bs.all id))) := by
  show (boolsD (bs.map .bool)).map _ = _
  rw [boolsD_map]
  rfl
theorem blt_any (bs : List Bool) : blt .any [.list (bs.map .bool)] = some (.val (.bool (bs.any id))) := by
  show (boolsD (bs.map .bool)).map _ = _
  rw [boolsD_map]
  rfl
theorem isi_tup (xs : List D) (t : String) : isInst (.tuple xs) t = some (t == "tuple") := (rfl)
theorem isi_lst (xs : List D) (t : String) : isInst (.list xs) t = some (t == "list") := (rfl)
theorem isi_str (x : Str) (t : String) : isInst (.str x) t = some (t == "str") := (rfl)
theorem isi_int (x : Int) (t : String) : isInst (.int x) t = some (t == "int") := (rfl)
theorem isi_bool (x : Bool) (t : String) : isInst (.bool x) t = some (t == "bool" || t == "int") := (rfl)
theorem isi_none (t : String) : isInst .none t = some false := (rfl)
theorem inSeq_strs (x : Str) : ∀ xs : List Str, inSeq (.str x) (xs.map .str) = decide (x ∈ xs)
  | [] => rfl
  | y :: xs => by
    show (PyData.eqv (.str y) (.str x) || inSeq (.str x) (xs.map .str)) = _
    rw [inSeq_strs x xs, eqv_str]
    by_cases h : y = x
    · simp [h]
    · have : x ≠ y := fun z => h z.symm
      simp [h, this]
theorem pin_tup {x : D} {xs : List D} (hx : SeqAt.shaped x = true) (hy : SeqAt.shaped (.tuple xs) = true) : pin x (.tuple xs) = some (inSeq x xs) := by
  have e : pin x (.tuple xs) = if (SeqAt.shaped x && SeqAt.shaped (.tuple xs)) = true then some (inSeq x xs) else none := by cases x <;> rfl
  rw [e, hx, hy]
  rfl
theorem pin_lst {x : D} {xs : List D} (hx : SeqAt.shaped x = true) (hy : SeqAt.shaped (.list xs) = true) : pin x (.list xs) = some (inSeq x xs) := by
  have e : pin x (.list xs) = if (SeqAt.shaped x && SeqAt.shaped (.list xs)) = true then some (inSeq x xs) else none := by cases x <;> rfl
  rw [e, hx, hy]
  rfl
theorem cmp_in (x y : D) : cmp .in_ x y = pin x y := (rfl)
theorem cmp_notIn (x y : D) : cmp .notIn x y = (pin x y).map (!·) := (rfl)
theorem pin_strs {x : Str} {xs : List Str} (hx : strOk x = true) (hs : ∀ y ∈ xs, strOk y = true) : pin (.str x) (.tuple (xs.map .str)) = some (decide (x ∈ xs)) := by
  rw [pin_tup (shaped_str hx) ((sh_tup (n := 0)).mpr (sh_strs hs) |>.shaped (by omega)), inSeq_strs]
end G
namespace F
open PySem G
def f_is_from : MF := ⟨3, 3, (.cons (.ret (.bool true (.isi (.slot 0) "int") (.bool true (.not (.isi (.slot 0) "bool")) (.chain .le .le (.slot 1) (.slot 0) (.slot 2)))))
  .nil)⟩
def f_is_tuple : MF := ⟨3, 3, (.cons (.ret (.bool true (.isi (.slot 0) "tuple") (.chain .le .le (.slot 1) (.blt .len (.cons (.slot 0) .nil)) (.slot 2))))
  .nil)⟩
def f_is_name : MF := ⟨1, 2, (.cons (.ite (.bool false (.not (.isi (.slot 0) "str")) (.bool false (.not (.chain .le .le (.cst (.int 1)) (.blt .len (.cons (.slot 0) .nil)) (.cst (.int 8)))) (.cmp .in_ (.slot 0) (.glob "TAKEN")))) (.cons (.ret (.cst (.bool false)))
  .nil) .nil)
  (.cons (.ret (.blt .all (.cons (.lc [1] (.one 1) (.ex (.slot 0)) .none (.cmp .in_ (.slot 1) (.glob "LETTERS"))) .nil)))
  .nil))⟩
def f_ascends : MF := ⟨1, 3, (.cons (.ret (.blt .all (.cons (.lc [1, 2] (.tup [1, 2]) (.zip (.cons (.slot 0) (.cons (.sl (.slot 0) (.some (.cst (.int 1))) .none) .nil))) .none (.cmp .lt (.slot 1) (.slot 2))) .nil)))
  .nil)⟩
def f_is_key : MF := ⟨2, 2, (.cons (.ret (.bool true (.isi (.slot 1) "str") (.cmp .in_ (.slot 1) (.slot 0))))
  .nil)⟩
def f_is_plain : MF := ⟨2, 2, (.cons (.ite (.cmp .in_ (.ix (.slot 1) (.cst (.int 0))) (.glob "ALONE")) (.cons (.ret (.cmp .eq (.blt .len (.cons (.slot 1) .nil)) (.cst (.int 1))))
  .nil) .nil)
  (.cons (.ite (.cmp .in_ (.ix (.slot 1) (.cst (.int 0))) (.glob "PLAIN")) (.cons (.ret (.bool true (.cmp .eq (.blt .len (.cons (.slot 1) .nil)) (.cst (.int 2))) (.call "is_key" (.cons (.slot 0) (.cons (.ix (.slot 1) (.cst (.int 1))) .nil)))))
  .nil) .nil)
  (.cons (.ret (.bool true (.cmp .eq (.ix (.slot 1) (.cst (.int 0))) (.cst (.str "put"))) (.bool true (.cmp .eq (.blt .len (.cons (.slot 1) .nil)) (.cst (.int 3))) (.bool true (.call "is_key" (.cons (.slot 0) (.cons (.ix (.slot 1) (.cst (.int 1))) .nil))) (.call "is_from" (.cons (.ix (.slot 1) (.cst (.int 2))) (.cons (.cst (.int 0)) (.cons (.cst (.int 1)) .nil))))))))
  .nil)))⟩
def f_is_body : MF := ⟨2, 3, (.cons (.ite (.not (.call "is_tuple" (.cons (.slot 1) (.cons (.cst (.int 0)) (.cons (.cst (.int 4)) .nil))))) (.cons (.ret (.cst (.bool false)))
  .nil) .nil)
  (.cons (.for [2] (.one 2) (.ex (.slot 1)) (.cons (.ite (.bool false (.not (.call "is_tuple" (.cons (.slot 2) (.cons (.cst (.int 1)) (.cons (.cst (.int 2)) .nil))))) (.bool false (.not (.isi (.ix (.slot 2) (.cst (.int 0))) "str")) (.cmp .notIn (.ix (.slot 2) (.cst (.int 0))) (.glob "IN_BODY")))) (.cons (.ret (.cst (.bool false)))
  .nil) .nil)
  (.cons (.ite (.not (.call "is_plain" (.cons (.bin .add (.slot 0) (.tup (.cons (.cst (.str "it")) .nil))) (.cons (.slot 2) .nil)))) (.cons (.ret (.cst (.bool false)))
  .nil) .nil)
  .nil)))
  (.cons (.ret (.cst (.bool true)))
  .nil)))⟩
def f_is_statement : MF := ⟨3, 3, (.cons (.ite (.bool false (.not (.call "is_tuple" (.cons (.slot 1) (.cons (.cst (.int 1)) (.cons (.cst (.int 4)) .nil))))) (.not (.isi (.ix (.slot 1) (.cst (.int 0))) "str"))) (.cons (.ret (.cst (.bool false)))
  .nil) .nil)
  (.cons (.ite (.cmp .eq (.ix (.slot 1) (.cst (.int 0))) (.cst (.str "walk"))) (.cons (.ret (.bool true (.cmp .eq (.blt .len (.cons (.slot 1) .nil)) (.cst (.int 2))) (.bool true (.cmp .gt (.slot 2) (.cst (.int 1))) (.call "is_body" (.cons (.slot 0) (.cons (.ix (.slot 1) (.cst (.int 1))) .nil))))))
  .nil) .nil)
  (.cons (.ite (.cmp .eq (.ix (.slot 1) (.cst (.int 0))) (.cst (.str "same"))) (.cons (.ret (.bool true (.cmp .eq (.blt .len (.cons (.slot 1) .nil)) (.cst (.int 3))) (.bool true (.call "are_steps" (.cons (.slot 0) (.cons (.ix (.slot 1) (.cst (.int 1))) (.cons (.bin .sub (.slot 2) (.cst (.int 1))) .nil)))) (.call "are_steps" (.cons (.slot 0) (.cons (.ix (.slot 1) (.cst (.int 2))) (.cons (.bin .sub (.slot 2) (.cst (.int 1))) .nil)))))))
  .nil) .nil)
  (.cons (.ite (.cmp .in_ (.ix (.slot 1) (.cst (.int 0))) (.glob "BRANCHED")) (.cons (.ite (.bool false (.cmp .ne (.blt .len (.cons (.slot 1) .nil)) (.cst (.int 4))) (.not (.call "is_key" (.cons (.slot 0) (.cons (.ix (.slot 1) (.cst (.int 1))) .nil))))) (.cons (.ret (.cst (.bool false)))
  .nil) .nil)
  (.cons (.ret (.bool true (.call "are_steps" (.cons (.slot 0) (.cons (.ix (.slot 1) (.cst (.int 2))) (.cons (.bin .sub (.slot 2) (.cst (.int 1))) .nil)))) (.call "are_steps" (.cons (.slot 0) (.cons (.ix (.slot 1) (.cst (.int 3))) (.cons (.bin .sub (.slot 2) (.cst (.int 1))) .nil))))))
  .nil)) .nil)
  (.cons (.ret (.call "is_plain" (.cons (.slot 0) (.cons (.slot 1) .nil))))
  .nil)))))⟩
def f_are_steps : MF := ⟨3, 4, (.cons (.ite (.bool false (.not (.isi (.slot 1) "tuple")) (.cmp .eq (.slot 2) (.cst (.int 0)))) (.cons (.ret (.cst (.bool false)))
  .nil) .nil)
  (.cons (.ret (.blt .all (.cons (.lc [3] (.one 3) (.ex (.slot 1)) .none (.call "is_statement" (.cons (.slot 0) (.cons (.slot 3) (.cons (.slot 2) .nil))))) .nil)))
  .nil))⟩
def f_blocks : MF := ⟨1, 1, (.cons (.ite (.cmp .in_ (.ix (.slot 0) (.cst (.int 0))) (.glob "BRANCHED")) (.cons (.ret (.sl (.slot 0) (.some (.cst (.int 2))) .none))
  .nil) .nil)
  (.cons (.ret (.ite (.cmp .in_ (.ix (.slot 0) (.cst (.int 0))) (.tup (.cons (.cst (.str "same")) (.cons (.cst (.str "walk")) .nil)))) (.sl (.slot 0) (.some (.cst (.int 1))) .none) (.tup .nil)))
  .nil))⟩
def f_listed : MF := ⟨2, 8, (.cons (.asg 2 true (.lst .nil))
  (.cons (.for [3, 4, 5, 6, 7] (.tup [3, 4]) (.enum (.cons (.slot 0) .nil)) (.cons (.asg 5 false (.bin .add (.slot 1) (.tup (.cons (.slot 3) .nil))))
  (.cons (.ex (.lmeth .append 2 (.cons (.tup (.cons (.slot 5) (.cons (.slot 4) .nil))) .nil)))
  (.cons (.for [6, 7] (.tup [6, 7]) (.enum (.cons (.call "blocks" (.cons (.slot 4) .nil)) .nil)) (.cons (.ex (.lmeth .extend 2 (.cons (.call "listed" (.cons (.slot 7) (.cons (.bin .add (.slot 5) (.tup (.cons (.slot 6) .nil))) .nil))) .nil)))
  .nil))
  .nil))))
  (.cons (.ret (.slot 2))
  .nil)))⟩
def f_is_program : MF := ⟨1, 5, (.cons (.ite (.bool false (.not (.call "is_tuple" (.cons (.slot 0) (.cons (.cst (.int 2)) (.cons (.cst (.int 2)) .nil))))) (.not (.call "is_tuple" (.cons (.ix (.slot 0) (.cst (.int 0))) (.cons (.cst (.int 1)) (.cons (.cst (.int 3)) .nil)))))) (.cons (.ret (.cst (.bool false)))
  .nil) .nil)
  (.cons (.ite (.bool false (.not (.blt .all (.cons (.lc [1] (.one 1) (.ex (.ix (.slot 0) (.cst (.int 0)))) .none (.call "is_name" (.cons (.slot 1) .nil))) .nil))) (.not (.call "ascends" (.cons (.ix (.slot 0) (.cst (.int 0))) .nil)))) (.cons (.ret (.cst (.bool false)))
  .nil) .nil)
  (.cons (.ite (.not (.call "are_steps" (.cons (.ix (.slot 0) (.cst (.int 0))) (.cons (.ix (.slot 0) (.cst (.int 1))) (.cons (.glob "MOST_DEEP") .nil))))) (.cons (.ret (.cst (.bool false)))
  .nil) .nil)
  (.cons (.asg 4 false (.lc [2, 3] (.tup [2, 3]) (.ex (.call "listed" (.cons (.ix (.slot 0) (.cst (.int 1))) (.cons (.tup .nil) .nil)))) .none (.ix (.slot 3) (.cst (.int 0)))))
  (.cons (.ret (.bool true (.cmp .le (.blt .len (.cons (.slot 4) .nil)) (.glob "MOST_STATEMENTS")) (.cmp .le (.meth .count (.slot 4) (.cons (.cst (.str "walk")) .nil)) (.cst (.int 1)))))
  .nil)))))⟩
def f_check_program : MF := ⟨1, 1, (.cons (.ite (.not (.call "is_program" (.cons (.slot 0) .nil))) (.cons (.raise "InvalidProgram")
  .nil) .nil)
  .nil)⟩
def f_same_kind : MF := ⟨2, 4, (.cons (.ite (.bool true (.isi (.slot 0) "tuple") (.isi (.slot 1) "tuple")) (.cons (.ret (.bool true (.cmp .eq (.blt .len (.cons (.slot 0) .nil)) (.blt .len (.cons (.slot 1) .nil))) (.blt .all (.cons (.lc [2, 3] (.tup [2, 3]) (.zip (.cons (.slot 0) (.cons (.slot 1) .nil))) .none (.call "same_kind" (.cons (.slot 2) (.cons (.slot 3) .nil)))) .nil))))
  .nil) .nil)
  (.cons (.ret (.bool true (.cmp .eq (.isi (.slot 0) "bool") (.isi (.slot 1) "bool")) (.cmp .eq (.slot 0) (.slot 1))))
  .nil))⟩
def f_found_at : MF := ⟨2, 4, (.cons (.ret (.ix (.lc [2, 3] (.tup [2, 3]) (.ex (.call "listed" (.cons (.slot 0) (.cons (.tup .nil) .nil)))) (.some (.cmp .eq (.slot 2) (.slot 1))) (.slot 3)) (.cst (.int 0))))
  .nil)⟩
def f_looks_of : MF := ⟨1, 3, (.cons (.ret (.blt .sorted (.cons (.lc [1, 2] (.tup [1, 2]) (.ex (.call "listed" (.cons (.ix (.slot 0) (.cst (.int 1))) (.cons (.tup .nil) .nil)))) (.some (.gin (.ix (.slot 2) (.cst (.int 0))) "QUIET")) (.slot 1)) .nil)))
  .nil)⟩
def f__law_draws : MF := ⟨2, 4, (.cons (.asg 2 false (.bin .mul (.cst (.int 15485863)) (.slot 1)))
  (.cons (.ite (.cmp .lt (.slot 1) (.blt .len (.cons (.slot 0) .nil))) (.cons (.asg 2 false (.bin .mod (.blt .int (.cons (.blt .abs (.cons (.ix (.slot 0) (.slot 1)) .nil)) .nil)) (.bin .mul (.bin .mul (.bin .mul (.bin .pow (.cst (.int 10)) (.cst (.int 60))) (.bin .pow (.cst (.int 10)) (.cst (.int 60)))) (.bin .pow (.cst (.int 10)) (.cst (.int 60)))) (.bin .pow (.cst (.int 10)) (.cst (.int 60))))))
  .nil) (.cons (.ite (.cmp .gt (.blt .len (.cons (.slot 0) .nil)) (.cst (.int 0))) (.cons (.asg 2 false (.bin .add (.bin .mod (.blt .int (.cons (.blt .abs (.cons (.ix (.slot 0) (.bin .mod (.slot 1) (.blt .len (.cons (.slot 0) .nil)))) .nil)) .nil)) (.bin .pow (.cst (.int 10)) (.cst (.int 15)))) (.bin .mul (.cst (.int 15485863)) (.slot 1))))
  .nil) .nil)
  .nil))
  (.cons (.asg 3 false (.bin .add (.cst (.int 1)) (.bin .mod (.blt .int (.cons (.bin .add (.bin .mul (.slot 2) (.cst (.int 69621))) (.bin .mul (.cst (.int 86028121)) (.bin .add (.slot 1) (.cst (.int 1))))) .nil)) (.cst (.int 2147483646)))))
  (.cons (.ret (.lst (.cons (.bin .mul (.slot 2) (.blt .int (.cons (.cmp .ge (.slot 2) (.bin .pow (.cst (.int 10)) (.cst (.int 18)))) .nil))) (.cons (.slot 3) .nil))))
  .nil))))⟩
def f__law_draw : MF := ⟨2, 5, (.cons (.ite (.cmp .gt (.ix (.slot 0) (.cst (.int 0))) (.cst (.int 0))) (.cons (.asg 2 false (.bin .mod (.blt .int (.cons (.ix (.slot 0) (.cst (.int 0))) .nil)) (.slot 1)))
  (.cons (.setIx 0 (.cst (.int 0)) (.bin .fdiv (.ix (.slot 0) (.cst (.int 0))) (.slot 1)))
  (.cons (.ret (.slot 2))
  .nil))) .nil)
  (.cons (.asgT [2, 3] (.tup (.cons (.cst (.int 0)) (.cons (.cst (.int 1)) .nil))))
  (.cons (.whl (.cmp .lt (.slot 3) (.slot 1)) (.cons (.setIx 0 (.cst (.int 1)) (.bin .mod (.blt .int (.cons (.bin .mul (.ix (.slot 0) (.cst (.int 1))) (.cst (.int 69621))) .nil)) (.cst (.int 2147483647))))
  (.cons (.asg 4 false (.bin .fdiv (.bin .mod (.blt .int (.cons (.bin .mul (.ix (.slot 0) (.cst (.int 1))) (.bin .add (.bin .fdiv (.ix (.slot 0) (.cst (.int 1))) (.cst (.int 128))) (.cst (.int 3)))) .nil)) (.cst (.int 2147483629))) (.cst (.int 8))))
  (.cons (.asg 2 false (.bin .add (.bin .mul (.slot 2) (.cst (.int 268435456))) (.slot 4)))
  (.cons (.asg 3 false (.bin .mul (.slot 3) (.cst (.int 268435456))))
  .nil)))))
  (.cons (.ret (.bin .mod (.blt .int (.cons (.slot 2) .nil)) (.slot 1)))
  .nil))))⟩
def f__law_of : MF := ⟨2, 2, (.cons (.ret (.ix (.slot 1) (.call "_law_draw" (.cons (.slot 0) (.cons (.blt .len (.cons (.slot 1) .nil)) .nil)))))
  .nil)⟩
def f__law_names : MF := ⟨2, 3, (.cons (.asg 2 false (.lst (.cons (.lst (.cons (.cst (.str "a")) (.cons (.cst (.str "b")) (.cons (.cst (.str "c")) .nil)))) (.cons (.lst (.cons (.cst (.str "key")) (.cons (.cst (.str "keys")) (.cons (.cst (.str "look")) .nil)))) (.cons (.lst (.cons (.cst (.str "abcdefgh")) (.cons (.cst (.str "abcdefgx")) (.cons (.cst (.str "b")) .nil)))) (.cons (.lst (.cons (.cst (.str "else")) (.cons (.cst (.str "has")) (.cons (.cst (.str "names")) .nil)))) .nil))))))
  (.cons (.ret (.blt .tuple (.cons (.sl (.ix (.slot 2) (.call "_law_draw" (.cons (.slot 0) (.cons (.cst (.int 4)) .nil)))) .none (.some (.bin .add (.cst (.int 1)) (.call "_law_draw" (.cons (.slot 0) (.cons (.slot 1) .nil)))))) .nil)))
  .nil))⟩
def f__law_body : MF := ⟨2, 6, (.cons (.asg 2 true (.lst .nil))
  (.cons (.for [3, 4, 5] (.one 3) (.range (.cons (.bin .add (.cst (.int 1)) (.call "_law_draw" (.cons (.slot 0) (.cons (.cst (.int 3)) .nil)))) .nil)) (.cons (.asg 4 false (.call "_law_of" (.cons (.slot 0) (.cons (.lst (.cons (.cst (.str "look")) (.cons (.cst (.str "peek")) (.cons (.cst (.str "tell")) (.cons (.cst (.str "tell")) (.cons (.cst (.str "get")) (.cons (.cst (.str "count")) (.cons (.cst (.str "keys")) .nil)))))))) .nil))))
  (.cons (.asg 5 false (.call "_law_of" (.cons (.slot 0) (.cons (.bin .add (.blt .list (.cons (.slot 1) .nil)) (.lst (.cons (.cst (.str "it")) (.cons (.cst (.str "it")) .nil)))) .nil))))
  (.cons (.ex (.lmeth .append 2 (.cons (.ite (.cmp .in_ (.slot 4) (.tup (.cons (.cst (.str "count")) (.cons (.cst (.str "keys")) .nil)))) (.tup (.cons (.slot 4) .nil)) (.tup (.cons (.slot 4) (.cons (.slot 5) .nil)))) .nil)))
  .nil))))
  (.cons (.ret (.blt .tuple (.cons (.slot 2) .nil)))
  .nil)))⟩
def f__law_plain_one : MF := ⟨2, 4, (.cons (.asg 2 false (.lst (.cons (.cst (.str "look")) (.cons (.cst (.str "look")) (.cons (.cst (.str "tell")) (.cons (.cst (.str "tell")) (.cons (.cst (.str "get")) (.cons (.cst (.str "peek")) (.cons (.cst (.str "count")) (.cons (.cst (.str "keys")) .nil))))))))))
  (.cons (.asg 3 false (.call "_law_of" (.cons (.slot 0) (.cons (.bin .add (.slot 2) (.lst (.cons (.cst (.str "put")) (.cons (.cst (.str "put")) (.cons (.cst (.str "drop")) (.cons (.cst (.str "copy")) .nil)))))) .nil))))
  (.cons (.ite (.cmp .in_ (.slot 3) (.tup (.cons (.cst (.str "count")) (.cons (.cst (.str "keys")) (.cons (.cst (.str "copy")) .nil))))) (.cons (.ret (.tup (.cons (.slot 3) .nil)))
  .nil) .nil)
  (.cons (.ite (.cmp .eq (.slot 3) (.cst (.str "put"))) (.cons (.ret (.tup (.cons (.slot 3) (.cons (.call "_law_of" (.cons (.slot 0) (.cons (.slot 1) .nil))) (.cons (.call "_law_draw" (.cons (.slot 0) (.cons (.cst (.int 2)) .nil))) .nil)))))
  .nil) .nil)
  (.cons (.ret (.tup (.cons (.slot 3) (.cons (.call "_law_of" (.cons (.slot 0) (.cons (.slot 1) .nil))) .nil))))
  .nil)))))⟩
def f__law_block : MF := ⟨4, 10, (.cons (.asg 4 true (.lst .nil))
  (.cons (.for [5, 6, 7, 8, 9] (.one 5) (.range (.cons (.bin .sub (.ix (.lst (.cons (.cst (.int 4)) (.cons (.cst (.int 2)) (.cons (.cst (.int 2)) (.cons (.cst (.int 1)) .nil))))) (.blt .min (.cons (.slot 3) (.cons (.cst (.int 3)) .nil)))) (.blt .int (.cons (.cmp .eq (.call "_law_draw" (.cons (.slot 0) (.cons (.cst (.int 3)) .nil))) (.cst (.int 0))) .nil))) .nil)) (.cons (.ite (.cmp .gt (.ix (.slot 2) (.cst (.int 0))) (.cst (.int 0))) (.cons (.setIx 2 (.cst (.int 0)) (.bin .sub (.ix (.slot 2) (.cst (.int 0))) (.cst (.int 1))))
  (.cons (.asg 6 false (.call "_law_draw" (.cons (.slot 0) (.cons (.cst (.int 9)) .nil))))
  (.cons (.ite (.bool true (.cmp .lt (.slot 6) (.cst (.int 3))) (.cmp .lt (.slot 3) (.cst (.int 3)))) (.cons (.asg 7 false (.call "_law_of" (.cons (.slot 0) (.cons (.lst (.cons (.cst (.str "zero")) (.cons (.cst (.str "nil")) (.cons (.cst (.str "has")) (.cons (.cst (.str "has")) (.cons (.cst (.str "same")) .nil)))))) .nil))))
  (.cons (.asg 8 false (.call "_law_block" (.cons (.slot 0) (.cons (.slot 1) (.cons (.slot 2) (.cons (.bin .add (.slot 3) (.cst (.int 1))) .nil))))))
  (.cons (.asg 9 false (.ite (.cmp .eq (.call "_law_draw" (.cons (.slot 0) (.cons (.cst (.int 2)) .nil))) (.cst (.int 0))) (.call "_law_block" (.cons (.slot 0) (.cons (.slot 1) (.cons (.slot 2) (.cons (.bin .add (.slot 3) (.cst (.int 1))) .nil))))) (.tup .nil)))
  (.cons (.ex (.lmeth .append 4 (.cons (.ite (.cmp .eq (.slot 7) (.cst (.str "same"))) (.tup (.cons (.slot 7) (.cons (.slot 8) (.cons (.slot 9) .nil)))) (.tup (.cons (.slot 7) (.cons (.call "_law_of" (.cons (.slot 0) (.cons (.slot 1) .nil))) (.cons (.slot 8) (.cons (.slot 9) .nil)))))) .nil)))
  .nil)))) (.cons (.ite (.bool true (.cmp .eq (.slot 6) (.cst (.int 3))) (.bool true (.ix (.slot 2) (.cst (.int 1))) (.cmp .lt (.slot 3) (.cst (.int 3))))) (.cons (.setIx 2 (.cst (.int 1)) (.cst (.bool false)))
  (.cons (.ex (.lmeth .append 4 (.cons (.tup (.cons (.cst (.str "walk")) (.cons (.call "_law_body" (.cons (.slot 0) (.cons (.slot 1) .nil))) .nil))) .nil)))
  .nil)) (.cons (.ex (.lmeth .append 4 (.cons (.call "_law_plain_one" (.cons (.slot 0) (.cons (.slot 1) .nil))) .nil)))
  .nil))
  .nil))
  .nil))) .nil)
  .nil))
  (.cons (.ret (.blt .tuple (.cons (.slot 4) .nil)))
  .nil)))⟩
def f__law_program : MF := ⟨2, 4, (.cons (.asg 2 false (.call "_law_names" (.cons (.slot 0) (.cons (.slot 1) .nil))))
  (.cons (.asg 3 false (.callL "_law_block" 0 2 [(.int 9), (.bool true)] (.int 0)))
  (.cons (.ret (.tup (.cons (.slot 2) (.cons (.bin .add (.slot 3) (.tup (.cons (.call "_law_of" (.cons (.slot 0) (.cons (.lst (.cons (.tup (.cons (.cst (.str "keys")) .nil)) (.cons (.tup (.cons (.cst (.str "count")) .nil)) (.cons (.tup (.cons (.cst (.str "tell")) (.cons (.ix (.slot 2) (.cst (.int 0))) .nil))) .nil)))) .nil))) .nil))) .nil))))
  .nil)))⟩
def f__law_blocks : MF := ⟨1, 1, (.cons (.ite (.cmp .in_ (.ix (.slot 0) (.cst (.int 0))) (.tup (.cons (.cst (.str "zero")) (.cons (.cst (.str "nil")) (.cons (.cst (.str "has")) .nil))))) (.cons (.ret (.sl (.slot 0) (.some (.cst (.int 2))) .none))
  .nil) .nil)
  (.cons (.ret (.ite (.cmp .in_ (.ix (.slot 0) (.cst (.int 0))) (.tup (.cons (.cst (.str "same")) (.cons (.cst (.str "walk")) .nil)))) (.sl (.slot 0) (.some (.cst (.int 1))) .none) (.tup .nil)))
  .nil))⟩
def f__law_listed : MF := ⟨2, 6, (.cons (.asg 2 true (.lst .nil))
  (.cons (.for [3, 4, 5] (.one 3) (.range (.cons (.blt .len (.cons (.slot 0) .nil)) .nil)) (.cons (.ex (.lmeth .append 2 (.cons (.tup (.cons (.bin .add (.slot 1) (.tup (.cons (.slot 3) .nil))) (.cons (.ix (.slot 0) (.slot 3)) .nil))) .nil)))
  (.cons (.asg 4 false (.call "_law_blocks" (.cons (.ix (.slot 0) (.slot 3)) .nil)))
  (.cons (.for [5] (.one 5) (.range (.cons (.blt .len (.cons (.slot 4) .nil)) .nil)) (.cons (.asg 2 true (.bin .add (.slot 2) (.call "_law_listed" (.cons (.ix (.slot 4) (.slot 5)) (.cons (.bin .add (.slot 1) (.tup (.cons (.slot 3) (.cons (.slot 5) .nil)))) .nil)))))
  .nil))
  .nil))))
  (.cons (.ret (.slot 2))
  .nil)))⟩
def f__law_looks : MF := ⟨1, 3, (.cons (.ret (.blt .sorted (.cons (.lc [1, 2] (.tup [1, 2]) (.ex (.call "_law_listed" (.cons (.ix (.slot 0) (.cst (.int 1))) (.cons (.tup .nil) .nil)))) (.some (.cmp .in_ (.ix (.slot 2) (.cst (.int 0))) (.tup (.cons (.cst (.str "look")) (.cons (.cst (.str "tell")) (.cons (.cst (.str "zero")) .nil)))))) (.slot 1)) .nil)))
  .nil)⟩
def f_law_k09 : MF := ⟨1, 12, (.cons (.for [1, 2, 3, 5, 7, 8, 10, 11, 4] (.one 1) (.range (.cons (.blt .max (.cons (.cst (.int 1)) (.cons (.blt .min (.cons (.cst (.int 12)) (.cons (.blt .len (.cons (.slot 0) .nil)) .nil))) .nil))) .nil)) (.cons (.asg 2 true (.call "_law_draws" (.cons (.slot 0) (.cons (.slot 1) .nil))))
  (.cons (.asg 3 false (.call "_law_program" (.cons (.slot 2) (.cons (.cst (.int 3)) .nil))))
  (.cons (.for [4, 5, 7, 8, 10, 11] (.one 4) (.ex (.tup (.cons (.slot 3) (.cons (.call "_law_near" (.cons (.slot 2) (.cons (.slot 3) .nil))) .nil)))) (.cons (.asg 5 false (.call "_law_looks" (.cons (.slot 4) .nil)))
  (.cons (.asg 7 false (.blt .tuple (.cons (.lc [6] (.one 6) (.ex (.slot 5)) (.some (.cmp .eq (.call "_law_draw" (.cons (.slot 2) (.cons (.cst (.int 2)) .nil))) (.cst (.int 0)))) (.slot 6)) .nil)))
  (.cons (.ite (.bool false (.cmp .ne (.call "quieted" (.cons (.slot 4) (.cons (.slot 7) .nil))) (.call "_law_quieted" (.cons (.slot 4) (.cons (.slot 7) .nil)))) (.cmp .ne (.call "quieted" (.cons (.slot 4) (.cons (.tup .nil) .nil))) (.slot 4))) (.cons (.ret (.cst (.bool false)))
  .nil) .nil)
  (.cons (.ite (.cmp .ne (.call "quieted" (.cons (.slot 4) (.cons (.blt .tuple (.cons (.slot 5) .nil)) .nil))) (.call "_law_quieted" (.cons (.slot 4) (.cons (.slot 5) .nil)))) (.cons (.ret (.cst (.bool false)))
  .nil) .nil)
  (.cons (.asg 8 true (.lst (.cons (.cst .none) (.cons (.slot 5) (.cons (.tup (.cons (.cst .none) .nil)) (.cons (.tup (.cons (.tup (.cons (.cst (.int 99)) .nil)) .nil)) (.cons (.tup (.cons (.cst (.int 0)) .nil)) (.cons (.cst (.str "a")) (.cons (.tup (.cons (.tup (.cons (.cst (.bool true)) .nil)) .nil)) (.cons (.tup (.cons (.tup (.cons (.cst (.int 0)) (.cons (.cst (.int 5)) (.cons (.cst (.int 0)) .nil)))) .nil)) .nil))))))))))
  (.cons (.asg 10 false (.lc [6, 9] (.tup [6, 9]) (.ex (.call "_law_listed" (.cons (.ix (.slot 4) (.cst (.int 1))) (.cons (.tup .nil) .nil)))) (.some (.cmp .notIn (.slot 6) (.slot 5))) (.slot 6)))
  (.cons (.asg 8 true (.bin .add (.bin .add (.slot 8) (.lc [6] (.one 6) (.ex (.slot 10)) .none (.tup (.cons (.slot 6) .nil)))) (.lc [6] (.one 6) (.ex (.slot 5)) .none (.tup (.cons (.slot 6) (.cons (.slot 6) .nil))))))
  (.cons (.ite (.cmp .gt (.blt .len (.cons (.slot 5) .nil)) (.cst (.int 1))) (.cons (.ex (.lmeth .append 8 (.cons (.blt .tuple (.cons (.rev (.slot 5)) .nil)) .nil)))
  .nil) .nil)
  (.cons (.for [11] (.one 11) (.ex (.slot 8)) (.cons (.ite (.cmp .ne (.told (.call "quieted" (.cons (.slot 4) (.cons (.slot 11) .nil)))) (.tup (.cons (.cst (.str "InvalidChoice +")) .nil))) (.cons (.ret (.cst (.bool false)))
  .nil) .nil)
  .nil))
  (.cons (.ite (.cmp .ne (.told (.call "quieted" (.cons (.sl (.slot 4) .none (.some (.cst (.int 1)))) (.cons (.cst .none) .nil)))) (.tup (.cons (.cst (.str "InvalidProgram +")) .nil))) (.cons (.ret (.cst (.bool false)))
  .nil) .nil)
  .nil)))))))))))
  .nil))))
  (.cons (.ret (.cst (.bool true)))
  .nil))⟩
def f__law_put : MF := ⟨3, 8, (.cons (.par [3, 4] (.cons (.ix (.slot 1) (.cst (.int 0))) (.cons (.ix (.slot 0) (.ix (.slot 1) (.cst (.int 0)))) .nil)))
  (.cons (.ite (.cmp .gt (.blt .len (.cons (.slot 1) .nil)) (.cst (.int 1))) (.cons (.asg 5 false (.call "_law_blocks" (.cons (.slot 4) .nil)))
  (.cons (.asg 6 false (.sl (.slot 4) .none (.some (.bin .sub (.blt .len (.cons (.slot 4) .nil)) (.blt .len (.cons (.slot 5) .nil))))))
  (.cons (.asg 7 false (.call "_law_put" (.cons (.ix (.slot 5) (.ix (.slot 1) (.cst (.int 1)))) (.cons (.sl (.slot 1) (.some (.cst (.int 2))) .none) (.cons (.slot 2) .nil)))))
  (.cons (.asg 2 false (.tup (.cons (.bin .add (.bin .add (.bin .add (.slot 6) (.sl (.slot 5) .none (.some (.ix (.slot 1) (.cst (.int 1)))))) (.tup (.cons (.slot 7) .nil))) (.sl (.slot 5) (.some (.bin .add (.ix (.slot 1) (.cst (.int 1))) (.cst (.int 1)))) .none)) .nil)))
  .nil)))) .nil)
  (.cons (.ret (.bin .add (.bin .add (.sl (.slot 0) .none (.some (.slot 3))) (.slot 2)) (.sl (.slot 0) (.some (.bin .add (.slot 3) (.cst (.int 1)))) .none)))
  .nil)))⟩
def f__law_near : MF := ⟨2, 9, (.cons (.asgT [2, 3] (.slot 1))
  (.cons (.asg 6 false (.lc [4, 5] (.tup [4, 5]) (.ex (.call "_law_listed" (.cons (.slot 3) (.cons (.tup .nil) .nil)))) .none (.slot 4)))
  (.cons (.asg 7 false (.call "_law_draw" (.cons (.slot 0) (.cons (.cst (.int 4)) .nil))))
  (.cons (.ite (.bool false (.cmp .eq (.slot 6) (.lst .nil)) (.cmp .eq (.slot 7) (.cst (.int 0)))) (.cons (.ret (.slot 1))
  .nil) .nil)
  (.cons (.asg 4 false (.call "_law_of" (.cons (.slot 0) (.cons (.slot 6) .nil))))
  (.cons (.ite (.cmp .eq (.slot 7) (.cst (.int 1))) (.cons (.ret (.tup (.cons (.slot 2) (.cons (.call "_law_put" (.cons (.slot 3) (.cons (.slot 4) (.cons (.tup .nil) .nil)))) .nil))))
  .nil) .nil)
  (.cons (.asg 5 false (.dget (.call "_law_listed" (.cons (.slot 3) (.cons (.tup .nil) .nil))) 4))
  (.cons (.asg 8 false (.dct [("look", "peek"), ("peek", "look"), ("tell", "get"), ("get", "tell"), ("zero", "nil"), ("nil", "zero")]))
  (.cons (.ite (.bool true (.cmp .eq (.slot 7) (.cst (.int 2))) (.cmp .in_ (.ix (.slot 5) (.cst (.int 0))) (.slot 8))) (.cons (.ret (.tup (.cons (.slot 2) (.cons (.call "_law_put" (.cons (.slot 3) (.cons (.slot 4) (.cons (.tup (.cons (.bin .add (.tup (.cons (.ix (.slot 8) (.ix (.slot 5) (.cst (.int 0)))) .nil)) (.sl (.slot 5) (.some (.cst (.int 1))) .none)) .nil)) .nil)))) .nil))))
  .nil) .nil)
  (.cons (.ite (.bool true (.cmp .eq (.blt .len (.cons (.slot 4) .nil)) (.cst (.int 1))) (.cmp .lt (.blt .len (.cons (.slot 6) .nil)) (.cst (.int 14)))) (.cons (.ret (.tup (.cons (.slot 2) (.cons (.bin .add (.bin .add (.sl (.slot 3) .none (.some (.ix (.slot 4) (.cst (.int 0))))) (.tup (.cons (.call "_law_plain_one" (.cons (.slot 0) (.cons (.slot 2) .nil))) .nil))) (.sl (.slot 3) (.some (.ix (.slot 4) (.cst (.int 0)))) .none)) .nil))))
  .nil) .nil)
  (.cons (.ret (.slot 1))
  .nil)))))))))))⟩
def f_exchanged : MF := ⟨3, 7, (.cons (.par [3, 4] (.cons (.ix (.slot 1) (.cst (.int 0))) (.cons (.ix (.slot 0) (.ix (.slot 1) (.cst (.int 0)))) .nil)))
  (.cons (.ite (.cmp .gt (.blt .len (.cons (.slot 1) .nil)) (.cst (.int 1))) (.cons (.asg 5 false (.bin .add (.bin .sub (.blt .len (.cons (.slot 4) .nil)) (.blt .len (.cons (.call "blocks" (.cons (.slot 4) .nil)) .nil))) (.ix (.slot 1) (.cst (.int 1)))))
  (.cons (.asg 2 false (.bin .add (.bin .add (.sl (.slot 4) .none (.some (.slot 5))) (.tup (.cons (.call "exchanged" (.cons (.ix (.slot 4) (.slot 5)) (.cons (.sl (.slot 1) (.some (.cst (.int 2))) .none) (.cons (.slot 2) .nil)))) .nil))) (.sl (.slot 4) (.some (.bin .add (.slot 5) (.cst (.int 1)))) .none)))
  .nil)) .nil)
  (.cons (.asg 6 false (.ite (.cmp .isN (.slot 2) (.cst .none)) (.tup .nil) (.tup (.cons (.slot 2) .nil))))
  (.cons (.ret (.bin .add (.bin .add (.sl (.slot 0) .none (.some (.slot 3))) (.slot 6)) (.sl (.slot 0) (.some (.bin .add (.slot 3) (.cst (.int 1)))) .none)))
  .nil))))⟩
def f_quieted_by : MF := ⟨2, 5, (.cons (.asg 2 false (.ix (.slot 0) (.cst (.int 1))))
  (.cons (.for [3, 4] (.one 3) (.ex (.slot 1)) (.cons (.asg 4 false (.call "found_at" (.cons (.slot 2) (.cons (.slot 3) .nil))))
  (.cons (.asg 2 false (.call "exchanged" (.cons (.slot 2) (.cons (.slot 3) (.cons (.bin .add (.tup (.cons (.gix "QUIET" (.ix (.slot 4) (.cst (.int 0)))) .nil)) (.sl (.slot 4) (.some (.cst (.int 1))) .none)) .nil)))))
  .nil)))
  (.cons (.ret (.tup (.cons (.ix (.slot 0) (.cst (.int 0))) (.cons (.slot 2) .nil))))
  .nil)))⟩
def f_check_choice : MF := ⟨2, 5, (.cons (.asg 2 false (.call "looks_of" (.cons (.slot 0) .nil)))
  (.cons (.ite (.not (.isi (.slot 1) "tuple")) (.cons (.raise "InvalidChoice")
  .nil) .nil)
  (.cons (.for [3] (.one 3) (.ex (.slot 1)) (.cons (.ite (.not (.blt .any (.cons (.lc [4] (.one 4) (.ex (.slot 2)) .none (.call "same_kind" (.cons (.slot 3) (.cons (.slot 4) .nil)))) .nil))) (.cons (.raise "InvalidChoice")
  .nil) .nil)
  .nil))
  (.cons (.ite (.not (.call "ascends" (.cons (.slot 1) .nil))) (.cons (.raise "InvalidChoice")
  .nil) .nil)
  .nil))))⟩
def f_quieted : MF := ⟨2, 2, (.cons (.ex (.call "check_program" (.cons (.slot 0) .nil)))
  (.cons (.ex (.call "check_choice" (.cons (.slot 0) (.cons (.slot 1) .nil))))
  (.cons (.ret (.call "quieted_by" (.cons (.slot 0) (.cons (.slot 1) .nil))))
  .nil)))⟩
def f__law_quieted : MF := ⟨2, 6, (.cons (.asg 2 false (.ix (.slot 0) (.cst (.int 1))))
  (.cons (.for [3, 4, 5] (.one 3) (.ex (.slot 1)) (.cons (.asg 4 false (.dget (.call "_law_listed" (.cons (.slot 2) (.cons (.tup .nil) .nil))) 3))
  (.cons (.asg 5 false (.ix (.dct [("look", "peek"), ("tell", "get"), ("zero", "nil")]) (.ix (.slot 4) (.cst (.int 0)))))
  (.cons (.asg 2 false (.call "_law_put" (.cons (.slot 2) (.cons (.slot 3) (.cons (.tup (.cons (.bin .add (.tup (.cons (.slot 5) .nil)) (.sl (.slot 4) (.some (.cst (.int 1))) .none)) .nil)) .nil)))))
  .nil))))
  (.cons (.ret (.tup (.cons (.ix (.slot 0) (.cst (.int 0))) (.cons (.slot 2) .nil))))
  .nil)))⟩
def f_lines_of : MF := ⟨2, 9, (.cons (.asg 2 false (.bin .mul (.cst (.str "  ")) (.slot 1)))
  (.cons (.asg 3 true (.lst .nil))
  (.cons (.for [4, 5, 7, 8] (.one 4) (.ex (.slot 0)) (.cons (.asg 5 false (.call "blocks" (.cons (.slot 4) .nil)))
  (.cons (.ex (.lmeth .append 3 (.cons (.bin .add (.slot 2) (.meth .join (.cst (.str " ")) (.cons (.lc [6] (.one 6) (.ex (.sl (.slot 4) .none (.some (.bin .sub (.blt .len (.cons (.slot 4) .nil)) (.blt .len (.cons (.slot 5) .nil)))))) .none (.blt .str (.cons (.slot 6) .nil))) .nil))) .nil)))
  (.cons (.for [7, 8] (.tup [7, 8]) (.enum (.cons (.slot 5) .nil)) (.cons (.ite (.bool true (.cmp .eq (.slot 7) (.cst (.int 1))) (.cmp .ne (.slot 8) (.tup .nil))) (.cons (.ex (.lmeth .append 3 (.cons (.bin .add (.slot 2) (.cst (.str "else"))) .nil)))
  .nil) .nil)
  (.cons (.ex (.lmeth .extend 3 (.cons (.call "lines_of" (.cons (.slot 8) (.cons (.bin .add (.slot 1) (.cst (.int 1))) .nil))) .nil)))
  .nil)))
  .nil))))
  (.cons (.ret (.slot 3))
  .nil))))⟩
def f_text_of : MF := ⟨1, 1, (.cons (.ret (.meth .join (.cst (.str "\n")) (.cons (.bin .add (.lst (.cons (.meth .join (.cst (.str " ")) (.cons (.bin .add (.tup (.cons (.cst (.str "names")) .nil)) (.ix (.slot 0) (.cst (.int 0)))) .nil)) .nil)) (.call "lines_of" (.cons (.ix (.slot 0) (.cst (.int 1))) (.cons (.cst (.int 0)) .nil)))) .nil)))
  .nil)⟩
def f_is_line : MF := ⟨2, 3, (.cons (.asg 2 false (.sl (.slot 0) (.some (.bin .mul (.cst (.int 2)) (.slot 1))) .none))
  (.cons (.ret (.bool true (.meth .startswith (.slot 0) (.cons (.bin .mul (.cst (.str "  ")) (.slot 1)) .nil)) (.bool true (.cmp .ne (.slot 2) (.cst (.str "else"))) (.cmp .notIn (.sl (.slot 2) .none (.some (.cst (.int 1)))) (.tup (.cons (.cst (.str "")) (.cons (.cst (.str " ")) .nil)))))))
  .nil))⟩
def f_block_at : MF := ⟨3, 9, (.cons (.asg 3 true (.lst .nil))
  (.cons (.whl (.bool true (.cmp .lt (.slot 1) (.blt .len (.cons (.slot 0) .nil))) (.call "is_line" (.cons (.ix (.slot 0) (.slot 1)) (.cons (.slot 2) .nil)))) (.cons (.asg 5 false (.lc [4] (.one 4) (.ex (.meth .split (.sl (.ix (.slot 0) (.slot 1)) (.some (.bin .mul (.cst (.int 2)) (.slot 2))) .none) (.cons (.cst (.str " ")) .nil))) .none (.ite (.cmp .in_ (.slot 4) (.tup (.cons (.cst (.str "0")) (.cons (.cst (.str "1")) .nil)))) (.blt .int (.cons (.slot 4) .nil)) (.slot 4))))
  (.cons (.par [6, 1] (.cons (.blt .tuple (.cons (.slot 5) .nil)) (.cons (.bin .add (.slot 1) (.cst (.int 1))) .nil)))
  (.cons (.ite (.bool false (.cmp .in_ (.ix (.slot 6) (.cst (.int 0))) (.glob "BRANCHED")) (.cmp .in_ (.ix (.slot 6) (.cst (.int 0))) (.tup (.cons (.cst (.str "same")) (.cons (.cst (.str "walk")) .nil))))) (.cons (.asgT [7, 1] (.call "block_at" (.cons (.slot 0) (.cons (.slot 1) (.cons (.bin .add (.slot 2) (.cst (.int 1))) .nil)))))
  (.cons (.asg 6 false (.bin .add (.slot 6) (.tup (.cons (.slot 7) .nil))))
  (.cons (.ite (.cmp .ne (.ix (.slot 6) (.cst (.int 0))) (.cst (.str "walk"))) (.cons (.asg 8 false (.tup .nil))
  (.cons (.ite (.bool true (.cmp .lt (.slot 1) (.blt .len (.cons (.slot 0) .nil))) (.cmp .eq (.ix (.slot 0) (.slot 1)) (.bin .add (.bin .mul (.cst (.str "  ")) (.slot 2)) (.cst (.str "else"))))) (.cons (.asgT [8, 1] (.call "block_at" (.cons (.slot 0) (.cons (.bin .add (.slot 1) (.cst (.int 1))) (.cons (.bin .add (.slot 2) (.cst (.int 1))) .nil)))))
  .nil) .nil)
  (.cons (.asg 6 false (.bin .add (.slot 6) (.tup (.cons (.slot 8) .nil))))
  .nil))) .nil)
  .nil))) .nil)
  (.cons (.ex (.lmeth .append 3 (.cons (.slot 6) .nil)))
  .nil)))))
  (.cons (.ret (.tup (.cons (.blt .tuple (.cons (.slot 3) .nil)) (.cons (.slot 1) .nil))))
  .nil)))⟩
def f_parsed : MF := ⟨1, 4, (.cons (.asg 1 false (.meth .split (.ix (.slot 0) (.cst (.int 0))) (.cons (.cst (.str " ")) .nil)))
  (.cons (.asgT [2, 3] (.call "block_at" (.cons (.slot 0) (.cons (.cst (.int 1)) (.cons (.cst (.int 0)) .nil)))))
  (.cons (.ret (.ite (.bool false (.cmp .ne (.ix (.slot 1) (.cst (.int 0))) (.cst (.str "names"))) (.cmp .lt (.slot 3) (.blt .len (.cons (.slot 0) .nil)))) (.cst .none) (.tup (.cons (.blt .tuple (.cons (.sl (.slot 1) (.some (.cst (.int 1))) .none) .nil)) (.cons (.slot 2) .nil)))))
  .nil)))⟩
def f_program_text : MF := ⟨1, 1, (.cons (.ex (.call "check_program" (.cons (.slot 0) .nil)))
  (.cons (.ret (.call "text_of" (.cons (.slot 0) .nil)))
  .nil))⟩
def f_read_program : MF := ⟨1, 2, (.cons (.ite (.not (.isi (.slot 0) "str")) (.cons (.raise "NoText")
  .nil) .nil)
  (.cons (.asg 1 false (.call "parsed" (.cons (.meth .split (.slot 0) (.cons (.cst (.str "\n")) .nil)) .nil)))
  (.cons (.ite (.bool false (.cmp .isN (.slot 1) (.cst .none)) (.bool false (.not (.call "is_program" (.cons (.slot 1) .nil))) (.cmp .ne (.call "text_of" (.cons (.slot 1) .nil)) (.slot 0)))) (.cons (.raise "NoText")
  .nil) .nil)
  (.cons (.ret (.slot 1))
  .nil))))⟩
def f__law_lines : MF := ⟨2, 7, (.cons (.asg 2 true (.lst .nil))
  (.cons (.for [3, 4, 5] (.one 3) (.ex (.slot 0)) (.cons (.asg 4 false (.call "_law_blocks" (.cons (.slot 3) .nil)))
  (.cons (.asg 5 false (.sl (.slot 3) .none (.some (.bin .sub (.blt .len (.cons (.slot 3) .nil)) (.blt .len (.cons (.slot 4) .nil))))))
  (.cons (.ex (.lmeth .append 2 (.cons (.bin .add (.bin .mul (.cst (.str "  ")) (.slot 1)) (.meth .join (.cst (.str " ")) (.cons (.lc [6] (.one 6) (.ex (.slot 5)) .none (.ite (.isi (.slot 6) "str") (.slot 6) (.blt .str (.cons (.slot 6) .nil)))) .nil))) .nil)))
  (.cons (.ite (.cmp .ne (.slot 4) (.tup .nil)) (.cons (.asg 2 true (.bin .add (.slot 2) (.call "_law_lines" (.cons (.ix (.slot 4) (.cst (.int 0))) (.cons (.bin .add (.slot 1) (.cst (.int 1))) .nil)))))
  .nil) .nil)
  (.cons (.ite (.bool true (.cmp .eq (.blt .len (.cons (.slot 4) .nil)) (.cst (.int 2))) (.cmp .ne (.ix (.slot 4) (.cst (.int 1))) (.tup .nil))) (.cons (.asg 2 true (.bin .add (.bin .add (.slot 2) (.lst (.cons (.bin .add (.bin .mul (.cst (.str "  ")) (.slot 1)) (.cst (.str "else"))) .nil))) (.call "_law_lines" (.cons (.ix (.slot 4) (.cst (.int 1))) (.cons (.bin .add (.slot 1) (.cst (.int 1))) .nil)))))
  .nil) .nil)
  .nil))))))
  (.cons (.ret (.slot 2))
  .nil)))⟩
def f__law_text : MF := ⟨1, 1, (.cons (.ret (.meth .join (.cst (.str "\n")) (.cons (.bin .add (.lst (.cons (.meth .join (.cst (.str " ")) (.cons (.bin .add (.lst (.cons (.cst (.str "names")) .nil)) (.blt .list (.cons (.ix (.slot 0) (.cst (.int 0))) .nil))) .nil)) .nil)) (.call "_law_lines" (.cons (.ix (.slot 0) (.cst (.int 1))) (.cons (.cst (.int 0)) .nil)))) .nil)))
  .nil)⟩
end F
section
local macro_rules | `(tactic| exists $xs:term,*) => `(tactic| simp only [G.bind_ok, G.bind_exc, G.bind_stuck, G.bind_ite, G.bind_assoc, G.ite_ap, G.use_val, G.use_fresh, G.ownD_own, G.ownD_val, G.look_own, G.look_val, G.look_fresh, G.use_own, G.settle_val, G.settle_fresh, G.settle_own, G.getC_val, G.getC_own, G.keep_val, G.keep_fresh, G.keepC_own, G.keepC_val, G.keep_ownC, G.give_val, G.give_fresh, G.giveC_own, G.giveC_val, G.give_ownC, G.store_val, G.store_freshF, G.store_freshT, G.store_own,
  G.opt_some, G.den_slot, G.den_cst, G.den_glob, G.gval_tup, G.gval_str, G.gval_int, G.gdct_dct, G.ginV_str, G.gixV_str, G.den_gin, G.denT_gin, G.den_gix, G.two2_eq, G.den_bin, G.den_neg, G.asInt_int, G.asBool_bool, G.den_cmp, G.denT_cmp, G.den_chain, G.denT_chain, G.chn1_eq, G.bV_ap, G.M.pure_ap, G.M.stuck_ap, G.den_bool, G.denT_bool, G.den_not, G.denT_not, G.den_ite, G.denT_ite, G.den_tup, G.den_lst, G.den_ix, G.den_sl, G.den_rev, G.den_call, G.den_callL, G.den_blt, G.den_isi, G.den_isi2, G.den_meth, G.lmC_own, G.ownB_own, G.den_lmeth, G.den_lc, G.lcEnd_ok, G.den_told, G.den_dct, G.den_dget, G.denT_slot, G.denT_cst, G.denT_ix, G.denT_call, G.denT_blt, G.denT_isi, G.denT_isi2, G.denT_meth, G.truth_bool, G.truth_int, G.denK_nil, G.denK_cons, G.denA_nil', G.denA_cons, G.denO_none, G.denO_some, G.denC_none, G.denC_some, G.denI_ex, G.denI_range, G.denI_enum, G.denI_zip, G.loop_nil, G.after_nx, G.after_ct, G.after_bk, G.after_rt, G.denS_asg, G.denS_asgT, G.denS_par, G.denS_setIx, G.denS_setSl, G.denS_ex, G.denS_ret, G.denS_retN, G.denS_ite, G.denS_for, G.denS_whl, G.denS_raise, G.denS_pass, G.denS_brk, G.denS_cont, G.denB_nil, G.denB_cons, G.next_nx, G.next_rt, G.next_bk, G.next_ct,
  G.argC_own, G.argC_val, G.argOf_val, G.argOf_fresh, G.argOf_own, G.argsOf_nil, G.argsOf_cons, G.lookAll_nil, G.lookAll_cons, G.callF_eq, G.callA, G.Arg.cell, G.apart, G.back, G.fin_exc, G.finO_some, G.fin_rtE, G.fin_nxE, G.fin_ite, G.outs_val, G.outs_nil, G.outC_own, G.outs_own, G.iosOf, G.Rs.rv, G.M.setAll, G.M.target, G.M.wipe,
  List.map_cons, List.map_nil, List.length_cons, List.length_nil, List.cons_append, List.nil_append, List.append_nil, List.replicate, List.getElem?_cons_zero, List.getElem?_cons_succ, List.set_cons_zero, List.set_cons_succ, List.any_cons, List.any_nil, List.all_cons, List.all_nil, List.foldl_cons, List.foldl_nil, if_true, if_false, ↓reduceIte, Option.map_some, Option.map_none, Option.bind_some, Option.bind_none, reduceCtorEq, Nat.sub_self, Nat.reduceAdd, Nat.reduceSub, Nat.reduceEqDiff, Bool.true_eq_false, Bool.false_eq_true, Bool.not_true, Bool.not_false, Bool.not_not, Nat.zero_add, Bool.or_false, Bool.and_true, Bool.or_true, Bool.true_or, Bool.true_and, Bool.false_or, Bool.and_false, Bool.false_and, decide_true, decide_false, decide_eq_true_eq, Nat.reduceLeDiff, Nat.reduceBNe, Nat.reduceBEq, bne_self_eq_false, G.lines_small, $[$xs:term],*])
set_option maxHeartbeats 4000000
namespace G
open PySem
def Dr (ds : List D) : Prop := ∃ a b : Int, ds = [.int a, .int b] ∧ 0 ≤ a ∧ a < 10 ^ 250 ∧ 0 ≤ b ∧ b < 2147483647
structure HasDraw (T : Str → Option MF) : Prop where
  draws : T "_law_draws" = some F.f__law_draws
  draw : T "_law_draw" = some F.f__law_draw
  of : T "_law_of" = some F.f__law_of
theorem Int.natAbs_le_of_nonneg_of_le {a b : Int} (h : 0 ≤ a) (l : a ≤ b) : a.natAbs ≤ b.natAbs := by omega
theorem log_lt {i : Int} {n : Nat} (h : i.natAbs < 2 ^ n) : i.natAbs.log2 ≤ n := by
  by_cases h0 : i.natAbs = 0
  · rw [h0]; exact Nat.zero_le n
  · have := (Nat.log2_lt h0).mpr h
    omega
theorem bin_mul_int {i j : Int} {m n : Nat} (hi : i.natAbs < 2 ^ m) (hj : j.natAbs < 2 ^ n) (h : m + n < 1000000) : bin .mul (.int i) (.int j) = some (.val (.int (i * j))) := by
  show (if i.natAbs.log2 + j.natAbs.log2 < 1000000 then some _ else none) = _
  have h1 := log_lt hi
  have h2 := log_lt hj
  rw [if_pos (by omega)]
theorem bin_fdiv_int {i j : Int} {n : Nat} (h : 0 < j) (hj : j.natAbs < 2 ^ n) (hn : n < 9000) : bin .fdiv (.int i) (.int j) = some (.val (.int (i / j))) := by
  show (if 0 < j ∧ j.natAbs.log2 < 9000 then some _ else none) = _
  have h2 := log_lt hj
  rw [if_pos ⟨h, by omega⟩]
theorem bin_mod_int {i j : Int} (h : 0 < j) : bin .mod (.int i) (.int j) = some (.val (.int (i % j))) := if_pos h
theorem bin_pow_int {i j : Int} (h : 0 ≤ j ∧ j ≤ 1000 ∧ i.natAbs < 2 ^ 64) : bin .pow (.int i) (.int j) = some (.val (.int (i ^ j.toNat))) := if_pos h
theorem blt_int_int (i : Int) : blt .int [.int i] = some (.val (.int i)) := (rfl)
theorem blt_int_bool (i : Bool) : blt .int [.bool i] = some (.val (.int (if i then 1 else 0))) := (rfl)
theorem blt_abs (i : Int) : blt .abs [.int i] = some (.val (.int (if i < 0 then -i else i))) := (rfl)
theorem ixN0 (n : Nat) (h : 0 < n) : L2.ixN n 0 = some 0 := by
  unfold L2.ixN
  rw [if_pos (by omega), if_pos (by omega)]
  rfl
theorem ixN1 (n : Nat) (h : 1 < n) : L2.ixN n 1 = some 1 := by
  unfold L2.ixN
  rw [if_pos (by omega), if_pos (by omega)]
  rfl
variable {T : Str → Option MF} {Γ : Str → Option D} {exc : Str → Bool}
theorem draw_while (C : Cfg) (hio : C.ios = [0]) (m : Int) (hm : m ≤ 268435456 ^ 8) : ∀ (k : Nat) (t : Nat) (a b f : Int) (o : Option Cell) (n : Nat), t + k = 8 → k < n → 0 ≤ b → b < 2147483647 → 0 ≤ f → f.natAbs < 2 ^ (60 * (t + 1)) →
    ∃ b' f' w' o', wloop C (.cmp .lt (.slot 3) (.slot 1)) (.cons (.setIx 0 (.cst (.int 1)) (.bin .mod (.blt .int (.cons (.bin .mul (.ix (.slot 0) (.cst (.int 1))) (.cst (.int 69621))) .nil)) (.cst (.int 2147483647))))
  (.cons (.asg 4 false (.bin .fdiv (.bin .mod (.blt .int (.cons (.bin .mul (.ix (.slot 0) (.cst (.int 1))) (.bin .add (.bin .fdiv (.ix (.slot 0) (.cst (.int 1))) (.cst (.int 128))) (.cst (.int 3)))) .nil)) (.cst (.int 2147483629))) (.cst (.int 8))))
  (.cons (.asg 2 false (.bin .add (.bin .mul (.slot 2) (.cst (.int 268435456))) (.slot 4)))
  (.cons (.asg 3 false (.bin .mul (.slot 3) (.cst (.int 268435456))))
  .nil)))) n [some (.own [.int a, .int b]), some (.val (.int m)), some (.val (.int f)), some (.val (.int (268435456 ^ t))), o] = .ok (.nx, [some (.own [.int a, .int b']), some (.val (.int m)), some (.val (.int f')), some (.val (.int w')), o']) ∧ 0 ≤ b' ∧ b' < 2147483647 ∧ 0 ≤ f' := by
  intro k
  induction k with
  | zero =>
    intro t a b f o n ht hn hb0 hb hf0 hf
    obtain ⟨n, rfl⟩ : ∃ k, n = k + 1 := ⟨n - 1, by omega⟩
    have et : t = 8 := by omega
    subst et
    have : ¬ ((268435456 : Int) ^ 8 < m) := by omega
    refine ⟨b, f, 268435456 ^ 8, o, ?_, hb0, hb, hf0⟩
    rw [wloop_succ]
    exists cmp_lt_int, decide_eq_false this
  | succ k ih =>
    intro t a b f o n ht hn hb0 hb hf0 hf
    obtain ⟨n, rfl⟩ : ∃ k, n = k + 1 := ⟨n - 1, by omega⟩
    by_cases hw : (268435456 : Int) ^ t < m
    · rw [wloop_succ]
      have e1 : bin .mul (.int b) (.int 69621) = some (.val (.int (b * 69621))) := bin_mul_int (m := 40) (n := 20) (by omega) (by decide) (by decide)
      generalize hb1 : b * 69621 % 2147483647 = b1
      have b10 : 0 ≤ b1 ∧ b1 < 2147483647 := by omega
      have e2 : bin .fdiv (.int b1) (.int 128) = some (.val (.int (b1 / 128))) := bin_fdiv_int (n := 8) (by decide) (by decide) (by decide)
      have hd : 0 ≤ b1 / 128 ∧ b1 / 128 < 2147483647 := by omega
      have e3 : bin .mul (.int b1) (.int (b1 / 128 + 3)) = some (.val (.int (b1 * (b1 / 128 + 3)))) := bin_mul_int (m := 40) (n := 40) (by omega) (by omega) (by decide)
      generalize hmr : b1 * (b1 / 128 + 3) % 2147483629 / 8 = mr
      have hmr0 : 0 ≤ mr ∧ mr < 268435456 := by omega
      have e4 : bin .mul (.int f) (.int 268435456) = some (.val (.int (f * 268435456))) := bin_mul_int (m := 60 * (t + 1)) (n := 30) hf (by decide) (by omega)
      have hp : ((268435456 : Int) ^ t).natAbs < 2 ^ 230 := by
        rw [Int.natAbs_pow]
        show (2 ^ 28) ^ t < 2 ^ 230
        rw [← Nat.pow_mul]
        exact Nat.pow_lt_pow_right (by decide) (by omega)
      have e5 : bin .mul (.int (268435456 ^ t)) (.int 268435456) = some (.val (.int (268435456 ^ (t + 1)))) := by
        rw [bin_mul_int (m := 230) (n := 30) hp (by decide) (by decide), Int.pow_succ]
      have e6 : bin .fdiv (.int (b1 * (b1 / 128 + 3) % 2147483629)) (.int 8) = some (.val (.int mr)) := by
        rw [bin_fdiv_int (n := 8) (by decide) (by decide) (by decide), hmr]
      have m1 : bin .mod (.int (b * 69621)) (.int 2147483647) = some (.val (.int b1)) := by rw [bin_mod_int (by decide), hb1]
      have m2 : bin .mod (.int (b1 * (b1 / 128 + 3))) (.int 2147483629) = some (.val (.int (b1 * (b1 / 128 + 3) % 2147483629))) := bin_mod_int (by decide)
      have s1 : ∀ ρ : Rho, sixC 0 1 (.int b1) ρ (some (some (.own [.int a, .int b]))) = .ok (.nx, ρ.set 0 (some (.own [.int a, .int b1]))) := fun ρ => by
        rw [sixC_own ρ 0 (.int b1) (ixN1 _ (by simp))]
        rfl
      obtain ⟨b', f', w', o', e, h1, h2, h3⟩ := ih (t + 1) a b1 (f * 268435456 + mr) (some (.val (.int mr))) n (by omega) (by omega) b10.1 b10.2 (by omega) (by
        have : f.natAbs * 268435456 + 268435456 ≤ 2 ^ (60 * (t + 1)) * 268435456 := by
          have := Nat.succ_le_of_lt hf
          have := Nat.mul_le_mul_right 268435456 this
          omega
        have e60 : 2 ^ (60 * (t + 1 + 1)) = 2 ^ (60 * (t + 1)) * 2 ^ 60 := by rw [← Nat.pow_add]; rfl
        have : 2 ^ (60 * (t + 1)) * 268435456 ≤ 2 ^ (60 * (t + 1 + 1)) := by
          rw [e60]
          exact Nat.mul_le_mul_left _ (by decide)
        omega)
      refine ⟨b', f', w', o', ?_, h1, h2, h3⟩
      exists cmp_lt_int, decide_eq_true hw, pix_lst1, e1, e2, e3, e4, e5, e6, m1, m2, s1, blt_int_int, bin_add_int, hio
      exact e
    · refine ⟨b, f, 268435456 ^ t, o, ?_, hb0, hb, hf0⟩
      rw [wloop_succ]
      exists cmp_lt_int, decide_eq_false hw
theorem ph_draw (h : HasDraw T) (n : Nat) {ds : List D} (hd : Dr ds) {m : Int} (m1 : 1 ≤ m) (m2 : m ≤ 268435456 ^ 8) :
    ∃ r ds', Phi T Γ exc (n + 1) "_law_draw" [.own ds, .val (.int m)] = .ok (.val (.int r), [ds']) ∧ 0 ≤ r ∧ r < m ∧ Dr ds' := by
  obtain ⟨a, b, rfl, ha0, ha, hb0, hb⟩ := hd
  rw [phi_at h.draw rfl]
  have hmb : m.natAbs < 2 ^ 230 := by
    have h1 : m.natAbs ≤ ((268435456 : Int) ^ 8).natAbs := Int.natAbs_le_of_nonneg_of_le (by omega) m2
    rw [Int.natAbs_pow] at h1
    exact Nat.lt_of_le_of_lt h1 (by decide)
  by_cases h0 : a > 0
  · refine ⟨a % m, [.int (a / m), .int b], ?_, Int.emod_nonneg _ (by omega), Int.emod_lt_of_pos _ (by omega), a / m, b, rfl, Int.ediv_nonneg ha0 (by omega), ?_, hb0, hb⟩
    · have e1 : bin .fdiv (.int a) (.int m) = some (.val (.int (a / m))) := bin_fdiv_int (by omega) hmb (by decide)
      have e2 : bin .mod (.int a) (.int m) = some (.val (.int (a % m))) := bin_mod_int (by omega)
      have s1 : ∀ ρ : Rho, sixC 0 0 (.int (a / m)) ρ (some (some (.own [.int a, .int b]))) = .ok (.nx, ρ.set 0 (some (.own [.int (a / m), .int b]))) := fun ρ => by
        rw [sixC_own ρ 0 (.int (a / m)) (ixN0 _ (by simp))]
        rfl
      exists F.f__law_draw, pix_lst0, cmp_gt_int, decide_eq_true h0, blt_int_int, e1, e2, s1
    · have := Int.ediv_le_self m ha0
      omega
  · obtain ⟨b', f', w', o', e, h1, h2, h3⟩ := draw_while ⟨Phi T Γ exc n, Γ, [0], exc, Phi2 T Γ exc n⟩ rfl m m2 8 0 a b 0 none fuel rfl (by decide) hb0 hb (by decide) (by decide)
    refine ⟨f' % m, [.int a, .int b'], ?_, Int.emod_nonneg _ (by omega), Int.emod_lt_of_pos _ (by omega), a, b', rfl, ha0, ha, h1, h2⟩
    have e2 : bin .mod (.int f') (.int m) = some (.val (.int (f' % m))) := bin_mod_int (by omega)
    have e' := e
    rw [Int.pow_zero] at e'
    exists F.f__law_draw, pix_lst0, cmp_gt_int, decide_eq_false h0, blt_int_int, e2, e'
theorem scr_len (ns : List Int) : blt .len [scrD ns] = some (.val (.int ns.length)) := by
  show (plen (scrD ns)).map Rs.val = _
  unfold scrD plen
  simp
theorem scr_ix {ns : List Int} {i : Nat} {x : Int} (h : ns[i]? = some x) : pix (scrD ns) (.int i) = some (.int x) := by
  show L2.atI (ns.map PyData.int) i = _
  exact L2.atI_nat (by rw [List.getElem?_map, h]; rfl)
theorem ph_draws (h : HasDraw T) (n : Nat) (ns : List Int) (k : Nat) (hk : k < 1000) :
    ∃ ds, Phi T Γ exc (n + 1) "_law_draws" [.val (scrD ns), .val (.int k)] = .ok (.fresh ds, []) ∧ Dr ds := by
  have e1 : bin .mul (.int 15485863) (.int k) = some (.val (.int (15485863 * k))) := bin_mul_int (m := 40) (n := 10) (by decide) (by omega) (by decide)
  have p60 : bin .pow (.int 10) (.int 60) = some (.val (.int (10 ^ 60))) := bin_pow_int ⟨by decide, by decide, by decide⟩
  have p15 : bin .pow (.int 10) (.int 15) = some (.val (.int (10 ^ 15))) := bin_pow_int ⟨by decide, by decide, by decide⟩
  have p18 : bin .pow (.int 10) (.int 18) = some (.val (.int (10 ^ 18))) := bin_pow_int ⟨by decide, by decide, by decide⟩
  have q1 : bin .mul (.int (10 ^ 60)) (.int (10 ^ 60)) = some (.val (.int (10 ^ 120))) := by
    rw [bin_mul_int (m := 200) (n := 200) (by decide) (by decide) (by decide)]
    rfl
  have q2 : bin .mul (.int (10 ^ 120)) (.int (10 ^ 60)) = some (.val (.int (10 ^ 180))) := by
    rw [bin_mul_int (m := 400) (n := 200) (by decide +kernel) (by decide) (by decide)]
    rfl
  have q3 : bin .mul (.int (10 ^ 180)) (.int (10 ^ 60)) = some (.val (.int (10 ^ 240))) := by
    rw [bin_mul_int (m := 600) (n := 200) (by decide +kernel) (by decide) (by decide)]
    rfl
  have key : ∀ (c : Int), 0 ≤ c → c < 10 ^ 245 → ∃ ds, fin [.val (scrD ns), .val (.int k)] (denB ⟨Phi T Γ exc n, Γ, [], exc, Phi2 T Γ exc n⟩ (.cons (.asg 3 false (.bin .add (.cst (.int 1)) (.bin .mod (.blt .int (.cons (.bin .add (.bin .mul (.slot 2) (.cst (.int 69621))) (.bin .mul (.cst (.int 86028121)) (.bin .add (.slot 1) (.cst (.int 1))))) .nil)) (.cst (.int 2147483646)))))
  (.cons (.ret (.lst (.cons (.bin .mul (.slot 2) (.blt .int (.cons (.cmp .ge (.slot 2) (.bin .pow (.cst (.int 10)) (.cst (.int 18)))) .nil))) (.cons (.slot 3) .nil))))
  .nil)) [some (.val (scrD ns)), some (.val (.int k)), some (.val (.int c)), none]) = .ok (.fresh ds, []) ∧ Dr ds := by
    intro c c0 c1
    have hc : c.natAbs < 2 ^ 850 := by
      have : c.natAbs < (10 ^ 245 : Int).natAbs := by omega
      exact Nat.lt_trans this (by decide +kernel)
    have m1 : bin .mul (.int c) (.int 69621) = some (.val (.int (c * 69621))) := bin_mul_int (m := 850) (n := 20) hc (by decide) (by decide)
    have m2 : bin .mul (.int 86028121) (.int (k + 1)) = some (.val (.int (86028121 * (k + 1)))) := bin_mul_int (m := 40) (n := 20) (by decide) (by omega) (by decide)
    have m3 : bin .mod (.int (c * 69621 + 86028121 * (k + 1))) (.int 2147483646) = some (.val (.int ((c * 69621 + 86028121 * (k + 1)) % 2147483646))) := bin_mod_int (by decide)
    have m4 : bin .mul (.int c) (.int (if c ≥ 10 ^ 18 then 1 else 0)) = some (.val (.int (c * (if c ≥ 10 ^ 18 then 1 else 0)))) := bin_mul_int (m := 850) (n := 20) hc (by split <;> decide) (by decide)
    refine ⟨[.int (c * (if c ≥ 10 ^ 18 then 1 else 0)), .int (1 + (c * 69621 + 86028121 * (k + 1)) % 2147483646)], ?_, _, _, rfl, ?_, ?_, by omega, by omega⟩
    · exists bin_add_int, m1, m2, m3, blt_int_int, p18, cmp_ge_int, blt_int_bool, m4
    · split <;> omega
    · have : (10 : Int) ^ 245 < 10 ^ 250 := by decide +kernel
      split <;> omega
  rw [phi_at h.draws rfl]
  by_cases hl : k < ns.length
  · obtain ⟨x, hx⟩ : ∃ x, ns[k]? = some x := ⟨ns[k], List.getElem?_eq_getElem hl⟩
    have hm : bin .mod (.int (if x < 0 then -x else x)) (.int (10 ^ 240)) = some (.val (.int ((if x < 0 then -x else x) % 10 ^ 240))) := bin_mod_int (by decide +kernel)
    obtain ⟨ds, e, hd⟩ := key ((if x < 0 then -x else x) % 10 ^ 240) (Int.emod_nonneg _ (by decide +kernel)) (by
      have h1 : (if x < 0 then -x else x) % (10 : Int) ^ 240 < 10 ^ 240 := Int.emod_lt_of_pos _ (by decide +kernel)
      have h2 : (10 : Int) ^ 240 < 10 ^ 245 := by decide +kernel
      exact Int.lt_trans h1 h2)
    refine ⟨ds, ?_, hd⟩
    have hlt : decide ((k : Int) < ns.length) = true := decide_eq_true (by omega)
    refine Eq.trans ?_ e
    exists F.f__law_draws, e1, scr_len, cmp_lt_int, hlt, scr_ix hx, blt_abs, blt_int_int, p60, q1, q2, q3, hm
  · have hlt : decide ((k : Int) < ns.length) = false := decide_eq_false (by omega)
    by_cases h0 : 0 < ns.length
    · have hgt : decide ((ns.length : Int) > 0) = true := decide_eq_true (by omega)
      have hmk : bin .mod (.int k) (.int ns.length) = some (.val (.int ((k % ns.length : Nat) : Int))) := by
        rw [bin_mod_int (by omega)]
        rfl
      have hr : k % ns.length < ns.length := Nat.mod_lt _ h0
      obtain ⟨x, hx⟩ : ∃ x, ns[k % ns.length]? = some x := ⟨ns[k % ns.length], List.getElem?_eq_getElem hr⟩
      have hm : bin .mod (.int (if x < 0 then -x else x)) (.int (10 ^ 15)) = some (.val (.int ((if x < 0 then -x else x) % 10 ^ 15))) := bin_mod_int (by decide)
      have hb : 0 ≤ (if x < 0 then -x else x) % (10 : Int) ^ 15 ∧ (if x < 0 then -x else x) % (10 : Int) ^ 15 < 10 ^ 15 := ⟨Int.emod_nonneg _ (by decide), Int.emod_lt_of_pos _ (by decide)⟩
      obtain ⟨ds, e, hd⟩ := key ((if x < 0 then -x else x) % 10 ^ 15 + 15485863 * k) (by omega) (by
        have h2 : (10 : Int) ^ 15 + 15485863 * 1000 < 10 ^ 245 := by decide +kernel
        omega)
      refine ⟨ds, ?_, hd⟩
      refine Eq.trans ?_ e
      exists F.f__law_draws, e1, scr_len, cmp_lt_int, cmp_gt_int, hlt, hgt, hmk, scr_ix hx, blt_abs, blt_int_int, p15, hm, bin_add_int
    · have hgt : decide ((ns.length : Int) > 0) = false := decide_eq_false (by omega)
      obtain ⟨ds, e, hd⟩ := key (15485863 * k) (by omega) (by
        have h2 : (15485863 * 1000 : Int) < 10 ^ 245 := by decide +kernel
        omega)
      refine ⟨ds, ?_, hd⟩
      refine Eq.trans ?_ e
      exists F.f__law_draws, e1, scr_len, cmp_lt_int, cmp_gt_int, hlt, hgt
theorem ph_of (h : HasDraw T) (n : Nat) {ds xs : List D} (hd : Dr ds) (h0 : xs ≠ []) (hl : xs.length ≤ 100000) :
    ∃ x ds', Phi T Γ exc (n + 2) "_law_of" [.own ds, .val (.list xs)] = .ok (.val x, [ds']) ∧ x ∈ xs ∧ Dr ds' := by
  have hp := List.length_pos_iff.mpr h0
  obtain ⟨r, ds', e, r0, r1, hd'⟩ := ph_draw (Γ := Γ) (exc := exc) h n hd (m := xs.length) (by omega) (by
    have : (100000 : Int) ≤ 268435456 ^ 8 := by decide
    omega)
  obtain ⟨i, rfl⟩ : ∃ i : Nat, r = i := ⟨r.toNat, by omega⟩
  have hi : i < xs.length := by omega
  refine ⟨xs[i], ds', ?_, List.getElem_mem hi, hd'⟩
  rw [phi_at h.of rfl]
  exists F.f__law_of, blt_len_lst, e, pix_lst (List.getElem?_eq_getElem hi)
theorem ph_ofT (h : HasDraw T) (n : Nat) {ds xs : List D} (hd : Dr ds) (h0 : xs ≠ []) (hl : xs.length ≤ 100000) :
    ∃ x ds', Phi T Γ exc (n + 2) "_law_of" [.own ds, .val (.tuple xs)] = .ok (.val x, [ds']) ∧ x ∈ xs ∧ Dr ds' := by
  have hp := List.length_pos_iff.mpr h0
  obtain ⟨r, ds', e, r0, r1, hd'⟩ := ph_draw (Γ := Γ) (exc := exc) h n hd (m := xs.length) (by omega) (by
    have : (100000 : Int) ≤ 268435456 ^ 8 := by decide
    omega)
  obtain ⟨i, rfl⟩ : ∃ i : Nat, r = i := ⟨r.toNat, by omega⟩
  have hi : i < xs.length := by omega
  refine ⟨xs[i], ds', ?_, List.getElem_mem hi, hd'⟩
  rw [phi_at h.of rfl]
  exists F.f__law_of, blt_len_tup, e, pix_tup (List.getElem?_eq_getElem hi)
end G
namespace G
open PySem
inductive RW where
  | look | peek | tell | get | drop
  deriving DecidableEq
inductive AW where
  | copy | count | keys
  deriving DecidableEq
inductive BW where
  | zero | nil | has
  deriving DecidableEq
def RW.str : RW → Str
  | .look => "look" | .peek => "peek" | .tell => "tell" | .get => "get" | .drop => "drop"
def AW.str : AW → Str
  | .copy => "copy" | .count => "count" | .keys => "keys"
def BW.str : BW → Str
  | .zero => "zero" | .nil => "nil" | .has => "has"
inductive St where
  | pl (w : RW) (k : Str)
  | al (w : AW)
  | put (k : Str) (n : Int)
  | br (w : BW) (k : Str) (yes no : List St)
  | same (yes no : List St)
  | walk (body : List St)
mutual
def St.enc : St → D
  | .pl w k => .tuple [.str w.str, .str k]
  | .al w => .tuple [.str w.str]
  | .put k n => .tuple [.str "put", .str k, .int n]
  | .br w k y n => .tuple [.str w.str, .str k, .tuple (encs y), .tuple (encs n)]
  | .same y n => .tuple [.str "same", .tuple (encs y), .tuple (encs n)]
  | .walk b => .tuple [.str "walk", .tuple (encs b)]
def encs : List St → List D
  | [] => []
  | s :: r => s.enc :: encs r
end
theorem encs_eq : ∀ ss : List St, encs ss = ss.map St.enc
  | [] => rfl
  | s :: r => by rw [encs, encs_eq r]; rfl
def okBody (names : List Str) : St → Bool
  | .pl w k => decide (w ≠ .drop) && decide (k ∈ names ++ [("it" : Str)])
  | .al w => decide (w ≠ .copy)
  | _ => false
mutual
def St.ok (names : List Str) : Nat → St → Bool
  | _, .pl _ k => decide (k ∈ names)
  | _, .al _ => true
  | _, .put k n => decide (k ∈ names) && (decide (n = 0) || decide (n = 1))
  | d, .br _ k y n => decide (k ∈ names) && decide (1 < d) && oks names (d - 1) y && oks names (d - 1) n
  | d, .same y n => decide (1 < d) && oks names (d - 1) y && oks names (d - 1) n
  | d, .walk b => decide (1 < d) && decide (b.length ≤ 4) && b.all (okBody names)
def oks (names : List Str) : Nat → List St → Bool
  | _, [] => true
  | d, s :: r => s.ok names d && oks names d r
end
mutual
def St.listed (ahead : List Nat) : St → List (List Nat × St)
  | .br w k y n => listeds (ahead ++ [0]) 0 y ++ listeds (ahead ++ [1]) 0 n
  | .same y n => listeds (ahead ++ [0]) 0 y ++ listeds (ahead ++ [1]) 0 n
  | .walk b => listeds (ahead ++ [0]) 0 b
  | _ => []
def listeds (ahead : List Nat) : Nat → List St → List (List Nat × St)
  | _, [] => []
  | i, s :: r => (ahead ++ [i], s) :: s.listed (ahead ++ [i]) ++ listeds ahead (i + 1) r
end
def isWalk : St → Bool
  | .walk _ => true
  | _ => false
mutual
def St.size : St → Nat
  | .br _ _ y n => 1 + sizes y + sizes n
  | .same y n => 1 + sizes y + sizes n
  | .walk b => 1 + sizes b
  | _ => 1
def sizes : List St → Nat
  | [] => 0
  | s :: r => s.size + sizes r
end
mutual
def St.walks : St → Nat
  | .br _ _ y n => walkss y + walkss n
  | .same y n => walkss y + walkss n
  | .walk _ => 1
  | _ => 0
def walkss : List St → Nat
  | [] => 0
  | s :: r => s.walks + walkss r
end
theorem encs_append : ∀ a b : List St, encs (a ++ b) = encs a ++ encs b
  | [], _ => rfl
  | s :: a, b => by
    show s.enc :: encs (a ++ b) = _
    rw [encs_append a b]
    rfl
theorem encs_length : ∀ a : List St, (encs a).length = a.length
  | [] => rfl
  | s :: a => by
    show (encs a).length + 1 = _
    rw [encs_length a]
    rfl
theorem sizes_append : ∀ a b : List St, sizes (a ++ b) = sizes a + sizes b
  | [], _ => by simp [sizes]
  | s :: a, b => by
    show s.size + sizes (a ++ b) = s.size + sizes a + sizes b
    rw [sizes_append a b]
    omega
theorem walkss_append : ∀ a b : List St, walkss (a ++ b) = walkss a + walkss b
  | [], _ => by simp [walkss]
  | s :: a, b => by
    show s.walks + walkss (a ++ b) = s.walks + walkss a + walkss b
    rw [walkss_append a b]
    omega
theorem oks_append {names : List Str} {d : Nat} : ∀ a b : List St, oks names d (a ++ b) = (oks names d a && oks names d b)
  | [], _ => by simp [oks]
  | s :: a, b => by
    show (s.ok names d && oks names d (a ++ b)) = ((s.ok names d && oks names d a) && oks names d b)
    rw [oks_append a b, Bool.and_assoc]
theorem oks_all {names : List Str} {d : Nat} : ∀ a : List St, oks names d a = a.all (·.ok names d)
  | [] => by simp [oks]
  | s :: a => by
    show (s.ok names d && oks names d a) = _
    rw [oks_all a]
    rfl
structure Prog where
  names : List Str
  steps : List St
def Prog.enc (P : Prog) : D := .tuple [.tuple (P.names.map .str), .tuple (encs P.steps)]
def menus : List (List Str) := [["a", "b", "c"], ["key", "keys", "look"], ["abcdefgh", "abcdefgx", "b"], ["else", "has", "names"]]
def allNames : List (List Str) := menus.flatMap fun m => [m.take 1, m.take 2, m.take 3]
mutual
def St.deep : St → Nat
  | .br _ _ y n => 1 + max (deeps y) (deeps n)
  | .same y n => 1 + max (deeps y) (deeps n)
  | .walk b => 1 + deeps b
  | _ => 1
def deeps : List St → Nat
  | [] => 0
  | s :: r => max s.deep (deeps r)
end
def St.inner : St → List (List St)
  | .br _ _ y n => [y, n]
  | .same y n => [y, n]
  | .walk b => [b]
  | _ => []
def pathD (p : List Nat) : D := .tuple (p.map fun (k : Nat) => .int k)
def encL (l : List (List Nat × St)) : List D := l.map fun q => .tuple [pathD q.1, q.2.enc]
theorem encL_append (a b : List (List Nat × St)) : encL (a ++ b) = encL a ++ encL b := List.map_append
theorem listeds_append (p : List Nat) : ∀ (a b : List St) (i : Nat), listeds p i (a ++ b) = listeds p i a ++ listeds p (i + a.length) b
  | [], b, i => by simp [listeds]
  | s :: a, b, i => by
    simp only [List.cons_append, listeds, List.length_cons]
    rw [listeds_append p a b (i + 1)]
    have : i + 1 + a.length = i + (a.length + 1) := by omega
    rw [this]
    simp
mutual
theorem listed_len (p : List Nat) : ∀ s : St, (s.listed p).length + 1 = s.size
  | .pl _ _ => by simp [St.listed, St.size]
  | .al _ => by simp [St.listed, St.size]
  | .put _ _ => by simp [St.listed, St.size]
  | .br _ _ y n => by
    have h1 := listeds_len (p ++ [0]) 0 y
    have h2 := listeds_len (p ++ [1]) 0 n
    simp only [St.listed, St.size, List.length_append]
    omega
  | .same y n => by
    have h1 := listeds_len (p ++ [0]) 0 y
    have h2 := listeds_len (p ++ [1]) 0 n
    simp only [St.listed, St.size, List.length_append]
    omega
  | .walk b => by
    have h1 := listeds_len (p ++ [0]) 0 b
    simp only [St.listed, St.size]
    omega
theorem listeds_len (p : List Nat) : ∀ (i : Nat) (ss : List St), (listeds p i ss).length = sizes ss
  | i, [] => by simp [listeds, sizes]
  | i, s :: r => by
    have h1 := listed_len (p ++ [i]) s
    have h2 := listeds_len p (i + 1) r
    simp only [listeds, sizes, List.length_append, List.length_cons]
    omega
end
def St.word : St → Str
  | .pl w _ => w.str
  | .al w => w.str
  | .put _ _ => "put"
  | .br w _ _ _ => w.str
  | .same _ _ => "same"
  | .walk _ => "walk"
def wk (l : List (List Nat × St)) : Nat := l.countP fun q => isWalk q.2
theorem wk_append (a b : List (List Nat × St)) : wk (a ++ b) = wk a + wk b := List.countP_append
theorem wk_cons (p : List Nat) (s : St) (b : List (List Nat × St)) : wk ((p, s) :: b) = wk b + (if isWalk s then 1 else 0) := by
  unfold wk
  rw [List.countP_cons]
theorem wk_nil : wk [] = 0 := rfl
theorem wk_body {ns : List Str} (p : List Nat) : ∀ (b : List St) (i : Nat), b.all (okBody ns) = true → wk (listeds p i b) = 0
  | [], _, _ => rfl
  | s :: r, i, h => by
    simp only [List.all_cons, Bool.and_eq_true] at h
    have ih := wk_body p r (i + 1) h.2
    simp only [listeds, List.cons_append]
    rw [wk_cons, wk_append, ih]
    cases s <;> first | (simp [okBody] at h; done) | (simp [St.listed, wk_nil, isWalk])
mutual
theorem listed_walks {ns : List Str} (p : List Nat) : ∀ (s : St) (d : Nat), s.ok ns d = true → wk (s.listed p) + (if isWalk s then 1 else 0) = s.walks
  | .pl _ _, _, _ => by simp [St.listed, St.walks, isWalk, wk_nil]
  | .al _, _, _ => by simp [St.listed, St.walks, isWalk, wk_nil]
  | .put _ _, _, _ => by simp [St.listed, St.walks, isWalk, wk_nil]
  | .br _ _ y n, d, h => by
    simp only [St.ok, Bool.and_eq_true] at h
    have h1 := listeds_walks (ns := ns) (p ++ [0]) 0 y (d - 1) h.1.2
    have h2 := listeds_walks (ns := ns) (p ++ [1]) 0 n (d - 1) h.2
    simp only [St.listed, St.walks, wk_append, isWalk, h1, h2]
    simp
  | .same y n, d, h => by
    simp only [St.ok, Bool.and_eq_true] at h
    have h1 := listeds_walks (ns := ns) (p ++ [0]) 0 y (d - 1) h.1.2
    have h2 := listeds_walks (ns := ns) (p ++ [1]) 0 n (d - 1) h.2
    simp only [St.listed, St.walks, wk_append, isWalk, h1, h2]
    simp
  | .walk b, d, h => by
    simp only [St.ok, Bool.and_eq_true] at h
    simp only [St.listed, St.walks, isWalk, wk_body (ns := ns) _ _ _ h.2]
    simp
theorem listeds_walks {ns : List Str} (p : List Nat) : ∀ (i : Nat) (ss : List St) (d : Nat), oks ns d ss = true → wk (listeds p i ss) = walkss ss
  | _, [], _, _ => rfl
  | i, s :: r, d, h => by
    simp only [oks, Bool.and_eq_true] at h
    have h1 := listed_walks (ns := ns) (p ++ [i]) s d h.1
    have h2 := listeds_walks (ns := ns) p (i + 1) r d h.2
    simp only [listeds, walkss, List.cons_append, wk_cons, wk_append, h2]
    omega
end
mutual
theorem ok_deep {ns : List Str} : ∀ (s : St) (d : Nat), 1 ≤ d → s.ok ns d = true → s.deep ≤ d
  | .pl _ _, d, hd, _ => by simpa [St.deep] using hd
  | .al _, d, hd, _ => by simpa [St.deep] using hd
  | .put _ _, d, hd, _ => by simpa [St.deep] using hd
  | .br _ _ y n, d, hd, h => by
    simp only [St.ok, Bool.and_eq_true, decide_eq_true_eq] at h
    have h1 := oks_deep (ns := ns) y (d - 1) (by omega) h.1.2
    have h2 := oks_deep (ns := ns) n (d - 1) (by omega) h.2
    simp only [St.deep]
    omega
  | .same y n, d, hd, h => by
    simp only [St.ok, Bool.and_eq_true, decide_eq_true_eq] at h
    have h1 := oks_deep (ns := ns) y (d - 1) (by omega) h.1.2
    have h2 := oks_deep (ns := ns) n (d - 1) (by omega) h.2
    simp only [St.deep]
    omega
  | .walk b, d, hd, h => by
    simp only [St.ok, Bool.and_eq_true, decide_eq_true_eq] at h
    have := body_deep (ns := ns) b h.2
    simp only [St.deep]
    omega
theorem oks_deep {ns : List Str} : ∀ (ss : List St) (d : Nat), 1 ≤ d → oks ns d ss = true → deeps ss ≤ d
  | [], _, _, _ => by simp [deeps]
  | s :: r, d, hd, h => by
    simp only [oks, Bool.and_eq_true] at h
    have h1 := ok_deep (ns := ns) s d hd h.1
    have h2 := oks_deep (ns := ns) r d hd h.2
    simp only [deeps]
    omega
theorem body_deep {ns : List Str} : ∀ (b : List St), b.all (okBody ns) = true → deeps b ≤ 1
  | [], _ => by simp [deeps]
  | s :: r, h => by
    simp only [List.all_cons, Bool.and_eq_true] at h
    have h2 := body_deep (ns := ns) r h.2
    have : s.deep = 1 := by cases s <;> first | (simp [okBody] at h; done) | simp [St.deep]
    simp only [deeps]
    omega
end
end G
set_option maxHeartbeats 4000000
namespace G
open PySem
open PyData (strOk)
structure HasGen (T : Str → Option MF) : Prop extends HasDraw T where
  names : T "_law_names" = some F.f__law_names
  body : T "_law_body" = some F.f__law_body
  plain : T "_law_plain_one" = some F.f__law_plain_one
  block : T "_law_block" = some F.f__law_block
  program : T "_law_program" = some F.f__law_program
variable {T : Str → Option MF} {Γ : Str → Option D} {exc : Str → Bool}
theorem small8 (m : Int) (h : m ≤ 1000000) : m ≤ 268435456 ^ 8 := by
  have : (1000000 : Int) ≤ 268435456 ^ 8 := by decide
  omega
theorem psl_lst (xs : List D) (lo hi : Option Int) : psl (.list xs) lo hi = some (.fresh (cut xs lo hi)) := (rfl)
theorem psl_tup (xs : List D) (lo hi : Option Int) : psl (.tuple xs) lo hi = some (.val (.tuple (cut xs lo hi))) := (rfl)
theorem cut_take {α : Type} (xs : List α) (k : Nat) : cut xs none (some (k : Int)) = xs.take k := by
  unfold cut
  rw [HT.sIx_nat, HT.sIx_none, List.drop_zero, Nat.sub_zero, List.take_eq_take_iff]
  omega
theorem blt_tuple (xs : List D) : blt .tuple [.list xs] = some (.val (.tuple xs)) := (rfl)
theorem blt_list (xs : List D) : blt .list [.tuple xs] = some (.fresh xs) := (rfl)
theorem ph_names (h : HasGen T) (n : Nat) {ds : List D} (hd : Dr ds) {m : Nat} (m1 : 1 ≤ m) (m3 : m ≤ 3) :
    ∃ ns ds', Phi T Γ exc (n + 2) "_law_names" [.own ds, .val (.int m)] = .ok (.val (.tuple (ns.map .str)), [ds']) ∧ ns ∈ allNames ∧ ns.length ≤ m ∧ Dr ds' := by
  obtain ⟨r, d1, e1, r0, r1, hd1⟩ := ph_draw (Γ := Γ) (exc := exc) h.toHasDraw n hd (m := 4) (by decide) (by decide)
  obtain ⟨t, d2, e2, t0, t1, hd2⟩ := ph_draw (Γ := Γ) (exc := exc) h.toHasDraw n hd1 (m := m) (by omega) (small8 _ (by omega))
  obtain ⟨i, rfl⟩ : ∃ i : Nat, r = i := ⟨r.toNat, by omega⟩
  obtain ⟨j, rfl⟩ : ∃ i : Nat, t = i := ⟨t.toNat, by omega⟩
  have hi : i < 4 := by omega
  have hj : j < m := by omega
  obtain ⟨me, hme⟩ : ∃ me : List Str, menus[i]? = some me := ⟨menus[i]'(show i < 4 from hi), List.getElem?_eq_getElem _⟩
  have e3 : pix (.list [.list [.str "a", .str "b", .str "c"], .list [.str "key", .str "keys", .str "look"], .list [.str "abcdefgh", .str "abcdefgx", .str "b"], .list [.str "else", .str "has", .str "names"]]) (.int i) = some (.list (me.map .str)) := by
    have : ([.list [.str "a", .str "b", .str "c"], .list [.str "key", .str "keys", .str "look"], .list [.str "abcdefgh", .str "abcdefgx", .str "b"], .list [.str "else", .str "has", .str "names"]] : List D) = menus.map fun m => .list (m.map .str) := (rfl)
    rw [this]
    exact pix_lst (by rw [List.getElem?_map, hme]; rfl)
  have hl : me.length = 3 := by
    have : ∀ m ∈ menus, m.length = 3 := by decide
    exact this me (List.mem_of_getElem? hme)
  have e4 : (1 + (j : Int)) = ((j + 1 : Nat) : Int) := by omega
  refine ⟨me.take (j + 1), d2, ?_, ?_, ?_, hd2⟩
  · rw [phi_at h.names rfl]
    exists F.f__law_names, e1, e2, e3, psl_lst, bin_add_int, e4, cut_take, blt_tuple
    rw [List.map_take]
  · refine List.mem_flatMap.mpr ⟨me, List.mem_of_getElem? hme, ?_⟩
    match j, hj with
    | 0, _ => simp
    | 1, _ => simp
    | 2, _ => simp
    | j + 3, hj => omega
  · rw [List.length_take]; omega
abbrev tCK : D := .tuple [.str "count", .str "keys"]
theorem in_CK_RW (w : RW) : cmp .in_ (.str w.str) tCK = some false := by cases w <;> decide +kernel
theorem in_CK_AW {w : AW} (h : w ≠ .copy) : cmp .in_ (.str w.str) tCK = some true := by cases w <;> first | exact absurd rfl h | decide +kernel
abbrev tCKC : D := .tuple [.str "count", .str "keys", .str "copy"]
theorem in_CKC_RW (w : RW) : cmp .in_ (.str w.str) tCKC = some false := by cases w <;> decide +kernel
theorem in_CKC_AW (w : AW) : cmp .in_ (.str w.str) tCKC = some true := by cases w <;> decide +kernel
theorem in_CKC_put : cmp .in_ (.str "put") tCKC = some false := by decide +kernel
theorem eq_put_RW (w : RW) : cmp .eq (.str w.str) (.str "put") = some false := by cases w <;> decide +kernel
theorem eq_put_put : cmp .eq (.str "put") (.str "put") = some true := by decide +kernel
theorem eq_same_BW (w : BW) : cmp .eq (.str w.str) (.str "same") = some false := by cases w <;> decide +kernel
theorem eq_same_same : cmp .eq (.str "same") (.str "same") = some true := by decide +kernel
theorem strs_mem {xs : List Str} {x : D} (h : x ∈ xs.map PyData.str) : ∃ k ∈ xs, x = .str k := by
  obtain ⟨k, h1, h2⟩ := List.mem_map.mp h
  exact ⟨k, h1, h2.symm⟩
theorem allNames_len {ns : List Str} (h : ns ∈ allNames) : 1 ≤ ns.length ∧ ns.length ≤ 3 := by
  have : ∀ m ∈ allNames, 1 ≤ m.length ∧ m.length ≤ 3 := by decide +kernel
  exact this ns h
theorem lm_append (xs : List D) (y : D) (h : xs.length < sizeLine) : lmeth .append xs [y] = some (.none, xs ++ [y]) := if_pos h
theorem rangeI_nat (n : Nat) (h : n < 2 ^ 62) : rangeI [.int n] = some ((List.range n).map fun (k : Nat) => .int (k : Int)) := by
  have h1 : -(2 ^ 62) ≤ (n : Int) ∧ (n : Int) < 2 ^ 62 := ⟨by omega, by omega⟩
  simp only [rangeI, if_pos h1, Int.toNat_natCast]
theorem word_body {x : D} (h : x ∈ ([.str "look", .str "peek", .str "tell", .str "tell", .str "get", .str "count", .str "keys"] : List D)) : (∃ w : RW, w ≠ .drop ∧ x = .str w.str) ∨ ∃ w : AW, w ≠ .copy ∧ x = .str w.str := by
  simp only [List.mem_cons, List.not_mem_nil, or_false] at h
  rcases h with rfl | rfl | rfl | rfl | rfl | rfl | rfl
  · exact .inl ⟨.look, by decide, rfl⟩
  · exact .inl ⟨.peek, by decide, rfl⟩
  · exact .inl ⟨.tell, by decide, rfl⟩
  · exact .inl ⟨.tell, by decide, rfl⟩
  · exact .inl ⟨.get, by decide, rfl⟩
  · exact .inr ⟨.count, by decide, rfl⟩
  · exact .inr ⟨.keys, by decide, rfl⟩
theorem ph_body (h : HasGen T) (n : Nat) {ds : List D} (hd : Dr ds) {ns : List Str} (hn : ns ∈ allNames) :
    ∃ b ds', Phi T Γ exc (n + 3) "_law_body" [.own ds, .val (.tuple (ns.map .str))] = .ok (.val (.tuple (encs b)), [ds']) ∧ b.length ≤ 3 ∧ b.all (okBody ns) = true ∧ sizes b = b.length ∧ walkss b = 0 ∧ Dr ds' := by
  obtain ⟨r, d1, e1, r0, r1, hd1⟩ := ph_draw (Γ := Γ) (exc := exc) h.toHasDraw (n + 1) hd (m := 3) (by decide) (by decide)
  obtain ⟨i, rfl⟩ : ∃ i : Nat, r = i := ⟨r.toNat, by omega⟩
  have e4 : (1 + (i : Int)) = ((i + 1 : Nat) : Int) := by omega
  have hl := allNames_len hn
  obtain ⟨ρ', h1, ds', ss, h2, h3, h4, h5, h6, h7⟩ := loop_run (C := ⟨Phi T Γ exc (n + 2), Γ, [0], exc, Phi2 T Γ exc (n + 2)⟩) (cl := [3, 4, 5]) (tg := .one 3) (body := (F.f__law_body.body.at 1).body) (P := fun xs ρ => ∃ ds ss, ρ = [some (.own ds), some (.val (.tuple (ns.map .str))), some (.own (encs ss)), none, none, none] ∧ Dr ds ∧ ss.length + xs.length ≤ 3 ∧ ss.all (okBody ns) = true ∧ sizes ss = ss.length ∧ walkss ss = 0) (by
    intro x r ρ ⟨ds, ss, eρ, hd, hlen, hok, hsz, hwk⟩
    subst eρ
    rw [List.length_cons] at hlen
    obtain ⟨x1, d2, f1, m1, hd2⟩ := ph_of (Γ := Γ) (exc := exc) h.toHasDraw n hd (xs := [.str "look", .str "peek", .str "tell", .str "tell", .str "get", .str "count", .str "keys"]) (by simp) (by simp)
    obtain ⟨x2, d3, f2, m2, hd3⟩ := ph_of (Γ := Γ) (exc := exc) h.toHasDraw n hd2 (xs := ns.map .str ++ [.str "it", .str "it"]) (by simp) (by simp; omega)
    have hadd : bin .add (.list (ns.map .str)) (.list [.str "it", .str "it"]) = some (.fresh (ns.map .str ++ [.str "it", .str "it"])) := bin_add_lst (by
      rw [List.length_map]
      have : 5 ≤ sizeLine := by decide
      show ns.length + 2 ≤ sizeLine
      omega)
    obtain ⟨k, hk, rfl⟩ : ∃ k, k ∈ ns ++ [("it" : Str)] ∧ x2 = .str k := by
      rcases List.mem_append.mp m2 with m | m
      · obtain ⟨k, h1, h2⟩ := strs_mem m
        exact ⟨k, List.mem_append_left _ h1, h2⟩
      · simp only [List.mem_cons, List.not_mem_nil, or_false, or_self] at m
        exact ⟨"it", List.mem_append_right _ (by simp), m⟩
    have hap : ∀ s : St, lmeth .append (encs ss) [s.enc] = some (.none, encs (ss ++ [s])) := fun s => by
      rw [lm_append _ _ (by
        rw [encs_length]
        have : 10 < sizeLine := by decide
        omega), encs_append]
      rfl
    rcases word_body m1 with ⟨w, hw, rfl⟩ | ⟨w, hw, rfl⟩
    · refine ⟨[some (.own ds), some (.val (.tuple (ns.map .str))), some (.own (encs ss)), some (.val x), none, none], [some (.own d3), some (.val (.tuple (ns.map .str))), some (.own (encs (ss ++ [.pl w k]))), some (.val x), some (.val (.str w.str)), some (.val (.str k))], rfl, ?_, d3, ss ++ [.pl w k], rfl, hd3, by simp; omega, ?_, by rw [sizes_append]; simp [sizes, St.size, hsz], by rw [walkss_append]; simp [walkss, St.walks, hwk]⟩
      · have := hap (.pl w k)
        simp only [St.enc] at this
        exists F.f__law_body, MSs.at, MS.body, f1, f2, blt_list, hadd, in_CK_RW, this
      · rw [List.all_append, hok]
        simp only [List.all_cons, List.all_nil, okBody, decide_eq_true hw, decide_eq_true hk]
        rfl
    · refine ⟨[some (.own ds), some (.val (.tuple (ns.map .str))), some (.own (encs ss)), some (.val x), none, none], [some (.own d3), some (.val (.tuple (ns.map .str))), some (.own (encs (ss ++ [.al w]))), some (.val x), some (.val (.str w.str)), some (.val (.str k))], rfl, ?_, d3, ss ++ [.al w], rfl, hd3, by simp; omega, ?_, by rw [sizes_append]; simp [sizes, St.size, hsz], by rw [walkss_append]; simp [walkss, St.walks, hwk]⟩
      · have := hap (.al w)
        simp only [St.enc] at this
        exists F.f__law_body, MSs.at, MS.body, f1, f2, blt_list, hadd, in_CK_AW hw, this
      · rw [List.all_append, hok]
        simp [okBody, hw]) ((List.range (i + 1)).map fun (k : Nat) => .int (k : Int)) [some (.own d1), some (.val (.tuple (ns.map .str))), some (.own []), none, none, none] ⟨d1, [], rfl, hd1, by simp; omega, rfl, rfl, rfl⟩
  subst h2
  dsimp only [F.f__law_body, MSs.at, MS.body] at h1
  refine ⟨ss, ds', ?_, by simpa using h4, h5, h6, h7, h3⟩
  rw [phi_at h.body rfl]
  exists F.f__law_body, e1, bin_add_int, e4, rangeI_nat (i + 1) (by omega), h1, blt_tuple
def plainS : St → Bool
  | .pl _ _ => true
  | .al _ => true
  | .put _ _ => true
  | _ => false
theorem plain_size {s : St} (h : plainS s = true) : s.size = 1 ∧ s.walks = 0 := by
  cases s <;> first | (cases h; done) | simp [St.size, St.walks]
theorem plain_ok {s : St} {ns : List Str} {d e : Nat} (h : plainS s = true) (o : s.ok ns d = true) : s.ok ns e = true := by
  cases s <;> first | (cases h; done) | (simp only [St.ok] at o ⊢; exact o) | simp [St.ok]
theorem word_plain {x : D} (h : x ∈ ([.str "look", .str "look", .str "tell", .str "tell", .str "get", .str "peek", .str "count", .str "keys", .str "put", .str "put", .str "drop", .str "copy"] : List D)) : (∃ w : RW, x = .str w.str) ∨ (∃ w : AW, x = .str w.str) ∨ x = .str "put" := by
  simp only [List.mem_cons, List.not_mem_nil, or_false] at h
  rcases h with rfl | rfl | rfl | rfl | rfl | rfl | rfl | rfl | rfl | rfl | rfl | rfl
  · exact .inl ⟨.look, rfl⟩
  · exact .inl ⟨.look, rfl⟩
  · exact .inl ⟨.tell, rfl⟩
  · exact .inl ⟨.tell, rfl⟩
  · exact .inl ⟨.get, rfl⟩
  · exact .inl ⟨.peek, rfl⟩
  · exact .inr (.inl ⟨.count, rfl⟩)
  · exact .inr (.inl ⟨.keys, rfl⟩)
  · exact .inr (.inr rfl)
  · exact .inr (.inr rfl)
  · exact .inl ⟨.drop, rfl⟩
  · exact .inr (.inl ⟨.copy, rfl⟩)
theorem ph_plain (h : HasGen T) (n : Nat) {ds : List D} (hd : Dr ds) {ns : List Str} (hn : ns ∈ allNames) :
    ∃ s ds', Phi T Γ exc (n + 3) "_law_plain_one" [.own ds, .val (.tuple (ns.map .str))] = .ok (.val s.enc, [ds']) ∧ plainS s = true ∧ (∀ d, s.ok ns d = true) ∧ Dr ds' := by
  have hl := allNames_len hn
  obtain ⟨x1, d1, f1, m1, hd1⟩ := ph_of (Γ := Γ) (exc := exc) h.toHasDraw n hd (xs := [.str "look", .str "look", .str "tell", .str "tell", .str "get", .str "peek", .str "count", .str "keys", .str "put", .str "put", .str "drop", .str "copy"]) (by simp) (by simp)
  obtain ⟨x2, d2, f2, m2, hd2⟩ := ph_ofT (Γ := Γ) (exc := exc) h.toHasDraw n hd1 (xs := ns.map .str) (by intro z; rw [List.map_eq_nil_iff] at z; rw [z] at hl; exact absurd hl.1 (by simp)) (by simp; omega)
  obtain ⟨t, d3, f3, t0, t1, hd3⟩ := ph_draw (Γ := Γ) (exc := exc) h.toHasDraw (n + 1) hd2 (m := 2) (by decide) (by decide)
  obtain ⟨k, hk, rfl⟩ := strs_mem m2
  have hadd : bin .add (.list [.str "look", .str "look", .str "tell", .str "tell", .str "get", .str "peek", .str "count", .str "keys"]) (.list [.str "put", .str "put", .str "drop", .str "copy"]) = some (.fresh [.str "look", .str "look", .str "tell", .str "tell", .str "get", .str "peek", .str "count", .str "keys", .str "put", .str "put", .str "drop", .str "copy"]) := bin_add_lst (by decide)
  rw [phi_at h.plain rfl]
  rcases word_plain m1 with ⟨w, rfl⟩ | ⟨w, rfl⟩ | rfl
  · refine ⟨.pl w k, d2, ?_, rfl, fun d => by simp [St.ok, hk], hd2⟩
    exists F.f__law_plain_one, hadd, f1, f2, in_CKC_RW, eq_put_RW, St.enc
  · refine ⟨.al w, d1, ?_, rfl, fun d => by simp [St.ok], hd1⟩
    exists F.f__law_plain_one, hadd, f1, in_CKC_AW, St.enc
  · refine ⟨.put k t, d3, ?_, rfl, fun d => ?_, hd3⟩
    · exists F.f__law_plain_one, hadd, f1, f2, f3, in_CKC_put, eq_put_put, St.enc
    · have : t = 0 ∨ t = 1 := by omega
      rcases this with rfl | rfl <;> simp [St.ok, hk]
def b2n (b : Bool) : Nat := if b then 1 else 0
theorem word_deep {x : D} (h : x ∈ ([.str "zero", .str "nil", .str "has", .str "has", .str "same"] : List D)) : (∃ w : BW, x = .str w.str) ∨ x = .str "same" := by
  simp only [List.mem_cons, List.not_mem_nil, or_false] at h
  rcases h with rfl | rfl | rfl | rfl | rfl
  · exact .inl ⟨.zero, rfl⟩
  · exact .inl ⟨.nil, rfl⟩
  · exact .inl ⟨.has, rfl⟩
  · exact .inl ⟨.has, rfl⟩
  · exact .inr rfl
def BlockR (T : Str → Option MF) (Γ : Str → Option D) (exc : Str → Bool) (m : Nat) (ns : List Str) (d : Nat) : Prop := ∀ (ds : List D) (r : Int) (wk : Bool), Dr ds → 0 ≤ r →
  ∃ ss r' wk' ds', Phi T Γ exc m "_law_block" [.own ds, .val (.tuple (ns.map .str)), .own [.int r, .bool wk], .val (.int d)] = .ok (.val (.tuple (encs ss)), [ds', [.int r', .bool wk']]) ∧ Dr ds' ∧ 0 ≤ r' ∧ oks ns (4 - d) ss = true ∧ (sizes ss : Int) + r' ≤ r + 3 * walkss ss ∧ walkss ss + b2n wk' ≤ b2n wk
theorem blt_min (i j : Int) : blt .min [.int i, .int j] = some (.val (.int (if j < i then j else i))) := (rfl)
theorem block_step (h : HasGen T) (n : Nat) {ns : List Str} (hn : ns ∈ allNames) {d : Nat} (hd3 : d ≤ 3) (IH : d < 3 → BlockR T Γ exc (n + 3) ns (d + 1)) : BlockR T Γ exc (n + 4) ns d := by
  intro ds r wk hd hr
  have hl := allNames_len hn
  have nn : ns.map PyData.str ≠ [] := by intro z; rw [List.map_eq_nil_iff] at z; rw [z] at hl; exact absurd hl.1 (by simp)
  obtain ⟨t0, d1, e1, t00, t01, hd1⟩ := ph_draw (Γ := Γ) (exc := exc) h.toHasDraw (n + 2) hd (m := 3) (by decide) (by decide)
  obtain ⟨c, ec, c1, c4⟩ : ∃ c : Nat, pix (.list [.int 4, .int 2, .int 2, .int 1]) (.int (if (3 : Int) < d then 3 else d)) = some (.int c) ∧ 1 ≤ c ∧ c ≤ 4 := by
    rw [if_neg (by omega)]
    match d, hd3 with
    | 0, _ => exact ⟨4, pix_lst (i := 0) rfl, by decide, by decide⟩
    | 1, _ => exact ⟨2, pix_lst (i := 1) rfl, by decide, by decide⟩
    | 2, _ => exact ⟨2, pix_lst (i := 2) rfl, by decide, by decide⟩
    | 3, _ => exact ⟨1, pix_lst (i := 3) rfl, by decide, by decide⟩
    | d + 4, hd3 => omega
  obtain ⟨c', ec', hc'⟩ : ∃ c' : Nat, (c : Int) - (if t0 = 0 then 1 else 0) = (c' : Int) ∧ c' ≤ 4 := by
    by_cases q : t0 = 0
    · rw [if_pos q]; exact ⟨c - 1, by omega, by omega⟩
    · rw [if_neg q]; exact ⟨c, by omega, by omega⟩
  obtain ⟨ρ', h1, ds', r', wk', ss, h2, h3, h4, h5, h6, h7, h8⟩ := loop_run (C := ⟨Phi T Γ exc (n + 3), Γ, [0, 2], exc, Phi2 T Γ exc (n + 3)⟩) (cl := [5, 6, 7, 8, 9]) (tg := .one 5) (body := (F.f__law_block.body.at 1).body)
    (P := fun xs ρ => ∃ ds r' wk' ss, ρ = [some (.own ds), some (.val (.tuple (ns.map .str))), some (.own [.int r', .bool wk']), some (.val (.int d)), some (.own (encs ss)), none, none, none, none, none] ∧ Dr ds ∧ 0 ≤ r' ∧ oks ns (4 - d) ss = true ∧ (sizes ss : Int) + r' ≤ r + 3 * walkss ss ∧ walkss ss + b2n wk' ≤ b2n wk ∧ ss.length + xs.length ≤ 4) (by
    intro x rest ρ ⟨ds, r1, wk1, ss, eρ, hd, hr1, hok, hsz, hwk, hlen⟩
    subst eρ
    rw [List.length_cons] at hlen
    have hap : ∀ s : St, lmeth .append (encs ss) [s.enc] = some (.none, encs (ss ++ [s])) := fun s => by
      rw [lm_append _ _ (by
        rw [encs_length]
        have : 10 < sizeLine := by decide
        omega), encs_append]
      rfl
    have sz1 : ∀ s : St, sizes (ss ++ [s]) = sizes ss + s.size := fun s => by rw [sizes_append]; simp [sizes]
    have wk1' : ∀ s : St, walkss (ss ++ [s]) = walkss ss + s.walks := fun s => by rw [walkss_append]; simp [walkss]
    have ok1 : ∀ s : St, s.ok ns (4 - d) = true → oks ns (4 - d) (ss ++ [s]) = true := fun s q => by rw [oks_append, hok]; simp [oks, q]
    refine ⟨[some (.own ds), some (.val (.tuple (ns.map .str))), some (.own [.int r1, .bool wk1]), some (.val (.int d)), some (.own (encs ss)), some (.val x), none, none, none, none], ?_⟩
    by_cases hr0 : r1 > 0
    · have s1 : ∀ ρ : Rho, sixC 2 0 (.int (r1 - 1)) ρ (some (some (.own [.int r1, .bool wk1]))) = .ok (.nx, ρ.set 2 (some (.own [.int (r1 - 1), .bool wk1]))) := fun ρ => by
        rw [sixC_own ρ 2 (.int (r1 - 1)) (ixN0 _ (by simp))]
        rfl
      have s2 : ∀ ρ : Rho, sixC 2 1 (.bool false) ρ (some (some (.own [.int (r1 - 1), .bool wk1]))) = .ok (.nx, ρ.set 2 (some (.own [.int (r1 - 1), .bool false]))) := fun ρ => by
        rw [sixC_own ρ 2 (.bool false) (ixN1 _ (by simp))]
        rfl
      obtain ⟨w, d2, f1, w0, w9, hd2⟩ := ph_draw (Γ := Γ) (exc := exc) h.toHasDraw (n + 2) hd (m := 9) (by decide) (by decide)
      by_cases hw3 : w < 3 ∧ d < 3
      ·
        have q1 : decide (w < 3) = true := decide_eq_true hw3.1
        have q2 : decide ((d : Int) < 3) = true := decide_eq_true (by omega)
        obtain ⟨x7, d3, f2, m7, hd3'⟩ := ph_of (Γ := Γ) (exc := exc) h.toHasDraw (n + 1) hd2 (xs := [.str "zero", .str "nil", .str "has", .str "has", .str "same"]) (by simp) (by simp)
        obtain ⟨yes, r2, wk2, d4, f3, hd4, hr2, oky, szy, wky⟩ := IH hw3.2 d3 (r1 - 1) wk1 hd3' (by omega)
        have ed : ((d : Int) + 1) = ((d + 1 : Nat) : Int) := by omega
        obtain ⟨t, d5, f4, _, _, hd5⟩ := ph_draw (Γ := Γ) (exc := exc) h.toHasDraw (n + 2) hd4 (m := 2) (by decide) (by decide)
        have e4 : 4 - d - 1 = 4 - (d + 1) := by omega
        obtain ⟨no, r3, wk3, d6, f5, hd6, hr3, okn, szn, wkn⟩ : ∃ no r3 wk3 d6, ((t = 0 ∧ Phi T Γ exc (n + 3) "_law_block" [.own d5, .val (.tuple (ns.map .str)), .own [.int r2, .bool wk2], .val (.int ((d + 1 : Nat) : Int))] = .ok (.val (.tuple (encs no)), [d6, [.int r3, .bool wk3]])) ∨ (t ≠ 0 ∧ no = [] ∧ r3 = r2 ∧ wk3 = wk2 ∧ d6 = d5)) ∧ Dr d6 ∧ 0 ≤ r3 ∧ oks ns (4 - (d + 1)) no = true ∧ (sizes no : Int) + r3 ≤ r2 + 3 * walkss no ∧ walkss no + b2n wk3 ≤ b2n wk2 := by
          by_cases ht : t = 0
          · obtain ⟨no, r3, wk3, d6, z, zz⟩ := IH hw3.2 d5 r2 wk2 hd5 hr2
            exact ⟨no, r3, wk3, d6, .inl ⟨ht, z⟩, zz⟩
          · exact ⟨[], r2, wk2, d5, .inr ⟨ht, rfl, rfl, rfl, rfl⟩, hd5, hr2, by simp [oks], by simp [sizes, walkss], by simp [walkss]⟩
        obtain ⟨x9, d7, f6, m9, hd7⟩ := ph_ofT (Γ := Γ) (exc := exc) h.toHasDraw (n + 1) hd6 nn (by simp; omega)
        obtain ⟨k, hk, rfl⟩ := strs_mem m9
        have two : ∀ (s : St) (dz : List D), s.size = 1 + sizes yes + sizes no → s.walks = walkss yes + walkss no → s.ok ns (4 - d) = true → Dr dz → ∃ ds r' wk' ss', M.wipe [5, 6, 7, 8, 9] [some (.own dz), some (.val (.tuple (ns.map .str))), some (.own [.int r3, .bool wk3]), some (.val (.int d)), some (.own (encs (ss ++ [s]))), some (.val x), some (.val (.int w)), some (.val x7), some (.val (.tuple (encs yes))), some (.val (.tuple (encs no)))] = [some (.own ds), some (.val (.tuple (ns.map .str))), some (.own [.int r', .bool wk']), some (.val (.int d)), some (.own (encs ss')), none, none, none, none, none] ∧ Dr ds ∧ 0 ≤ r' ∧ oks ns (4 - d) ss' = true ∧ (sizes ss' : Int) + r' ≤ r + 3 * walkss ss' ∧ walkss ss' + b2n wk' ≤ b2n wk ∧ ss'.length + rest.length ≤ 4 := fun s dz z1 z2 z3 z4 =>
          ⟨dz, r3, wk3, ss ++ [s], rfl, z4, hr3, ok1 s z3, by rw [sz1, wk1', z1, z2]; omega, by rw [wk1', z2]; omega, by simp; omega⟩
        rcases word_deep m7 with ⟨bw, rfl⟩ | rfl
        · refine ⟨_, rfl, ?_, two (.br bw k yes no) d7 (by simp [St.size]) (by simp [St.walks]) (by simp only [St.ok, e4, oky, okn, decide_eq_true hk, Bool.and_true]; exact decide_eq_true (by omega)) hd7⟩
          have := hap (.br bw k yes no)
          simp only [St.enc] at this
          rcases f5 with ⟨ht, f5⟩ | ⟨ht, rfl, rfl, rfl, rfl⟩
          · exists F.f__law_block, MSs.at, MS.body, pix_lst0, cmp_gt_int, decide_eq_true hr0, bin_sub_int, s1, f1, cmp_lt_int, q1, q2, f2, bin_add_int, ed, f3, f4, cmp_eq_int, decide_eq_true ht, f5, eq_same_BW, f6, this
          · rw [show encs [] = [] from rfl] at this ⊢
            exists F.f__law_block, MSs.at, MS.body, pix_lst0, cmp_gt_int, decide_eq_true hr0, bin_sub_int, s1, f1, cmp_lt_int, q1, q2, f2, bin_add_int, ed, f3, f4, cmp_eq_int, decide_eq_false ht, eq_same_BW, f6, this
        · refine ⟨_, rfl, ?_, two (.same yes no) d6 (by simp [St.size]) (by simp [St.walks]) (by simp only [St.ok, e4, oky, okn, Bool.and_true]; exact decide_eq_true (by omega)) hd6⟩
          have := hap (.same yes no)
          simp only [St.enc] at this
          rcases f5 with ⟨ht, f5⟩ | ⟨ht, rfl, rfl, rfl, rfl⟩
          · exists F.f__law_block, MSs.at, MS.body, pix_lst0, cmp_gt_int, decide_eq_true hr0, bin_sub_int, s1, f1, cmp_lt_int, q1, q2, f2, bin_add_int, ed, f3, f4, cmp_eq_int, decide_eq_true ht, f5, eq_same_same, this
          · rw [show encs [] = [] from rfl] at this ⊢
            exists F.f__law_block, MSs.at, MS.body, pix_lst0, cmp_gt_int, decide_eq_true hr0, bin_sub_int, s1, f1, cmp_lt_int, q1, q2, f2, bin_add_int, ed, f3, f4, cmp_eq_int, decide_eq_false ht, eq_same_same, this
      ·
        have two : ∀ (s : St) (dz : List D) (wz : Bool), (s.size : Int) ≤ 1 + 3 * s.walks → s.walks + b2n wz ≤ b2n wk1 → s.ok ns (4 - d) = true → Dr dz → ∃ ds r' wk' ss', M.wipe [5, 6, 7, 8, 9] [some (.own dz), some (.val (.tuple (ns.map .str))), some (.own [.int (r1 - 1), .bool wz]), some (.val (.int d)), some (.own (encs (ss ++ [s]))), some (.val x), some (.val (.int w)), none, none, none] = [some (.own ds), some (.val (.tuple (ns.map .str))), some (.own [.int r', .bool wk']), some (.val (.int d)), some (.own (encs ss')), none, none, none, none, none] ∧ Dr ds ∧ 0 ≤ r' ∧ oks ns (4 - d) ss' = true ∧ (sizes ss' : Int) + r' ≤ r + 3 * walkss ss' ∧ walkss ss' + b2n wk' ≤ b2n wk ∧ ss'.length + rest.length ≤ 4 := fun s dz wz z1 z2 z3 z4 =>
          ⟨dz, r1 - 1, wz, ss ++ [s], rfl, z4, by omega, ok1 s z3, by rw [sz1, wk1']; omega, by rw [wk1']; omega, by simp; omega⟩
        obtain ⟨s, d3, f2, ps, oks', hd3'⟩ := ph_plain (Γ := Γ) (exc := exc) h n hd2 hn
        obtain ⟨pz1, pz2⟩ := plain_size ps
        by_cases hwk3 : w = 3 ∧ wk1 = true ∧ d < 3
        · obtain ⟨hw, rfl, hd'⟩ := hwk3
          obtain ⟨b, d4, f3, lb, okb, szb, wkb, hd4⟩ := ph_body (Γ := Γ) (exc := exc) h n hd2 hn
          have z1 : (St.walk b).size = 1 + sizes b := by simp [St.size]
          have z2 : (St.walk b).walks = 1 := by simp [St.walks]
          refine ⟨_, rfl, ?_, two (.walk b) d4 false (by rw [z1, z2]; omega) (by rw [z2]; decide) (by
            have q1 : decide (1 < 4 - d) = true := decide_eq_true (by omega)
            have q2 : decide (b.length ≤ 4) = true := decide_eq_true (by omega)
            simp only [St.ok, okb, q1, q2]
            rfl) hd4⟩
          have := hap (.walk b)
          simp only [St.enc] at this
          have q1 : decide (w < 3) = false := decide_eq_false (by omega)
          have q2 : decide ((d : Int) < 3) = true := decide_eq_true (by omega)
          exists F.f__law_block, MSs.at, MS.body, pix_lst0, pix_lst1, cmp_gt_int, decide_eq_true hr0, bin_sub_int, s1, f1, cmp_lt_int, q1, q2, cmp_eq_int, decide_eq_true hw, s2, f3, this
        · refine ⟨_, rfl, ?_, two s d3 wk1 (by omega) (by omega) (oks' _) hd3'⟩
          have this := hap s
          by_cases q : w < 3
          · have q2 : decide ((d : Int) < 3) = false := decide_eq_false (by omega)
            exists F.f__law_block, MSs.at, MS.body, pix_lst0, pix_lst1, cmp_gt_int, decide_eq_true hr0, bin_sub_int, s1, f1, cmp_lt_int, decide_eq_true q, q2, cmp_eq_int, decide_eq_false (show ¬ w = 3 by omega), f2, this
          · by_cases q3 : w = 3
            · by_cases q4 : wk1 = true
              · subst q4
                have q5 : ¬ d < 3 := fun z => hwk3 ⟨q3, rfl, z⟩
                have q2 : decide ((d : Int) < 3) = false := decide_eq_false (by omega)
                exists F.f__law_block, MSs.at, MS.body, pix_lst0, pix_lst1, cmp_gt_int, decide_eq_true hr0, bin_sub_int, s1, f1, cmp_lt_int, decide_eq_false q, q2, cmp_eq_int, decide_eq_true q3, f2, this
              · have q4 : wk1 = false := by simpa using q4
                subst q4
                exists F.f__law_block, MSs.at, MS.body, pix_lst0, pix_lst1, cmp_gt_int, decide_eq_true hr0, bin_sub_int, s1, f1, cmp_lt_int, decide_eq_false q, cmp_eq_int, decide_eq_true q3, f2, this
            · exists F.f__law_block, MSs.at, MS.body, pix_lst0, pix_lst1, cmp_gt_int, decide_eq_true hr0, bin_sub_int, s1, f1, cmp_lt_int, decide_eq_false q, cmp_eq_int, decide_eq_false q3, f2, this
    · refine ⟨[some (.own ds), some (.val (.tuple (ns.map .str))), some (.own [.int r1, .bool wk1]), some (.val (.int d)), some (.own (encs ss)), some (.val x), none, none, none, none], rfl, ?_, ds, r1, wk1, ss, rfl, hd, hr1, hok, hsz, hwk, by omega⟩
      exists F.f__law_block, MSs.at, MS.body, pix_lst0, cmp_gt_int, decide_eq_false hr0) ((List.range c').map fun (k : Nat) => .int (k : Int)) [some (.own d1), some (.val (.tuple (ns.map .str))), some (.own [.int r, .bool wk]), some (.val (.int d)), some (.own []), none, none, none, none, none] ⟨d1, r, wk, [], rfl, hd1, hr, by simp [oks], by simp [sizes, walkss], by simp [walkss], by simp; omega⟩
  subst h2
  dsimp only [F.f__law_block, MSs.at, MS.body] at h1
  refine ⟨ss, r', wk', ds', ?_, h3, h4, h5, h6, h7⟩
  rw [phi_at h.block rfl]
  exists F.f__law_block, e1, blt_min, ec, cmp_eq_int, blt_int_bool, bin_sub_int, ec', rangeI_nat c' (by omega), h1, blt_tuple
theorem ph_block (h : HasGen T) {ns : List Str} (hn : ns ∈ allNames) : ∀ (e d : Nat), d + e = 3 → ∀ n, BlockR T Γ exc (n + 4 + e) ns d
  | 0, d, hde, n => block_step h n hn (by omega) fun z => absurd z (by omega)
  | e + 1, d, hde, n => by
    have ih := ph_block h hn e (d + 1) (by omega) n
    have := block_step (Γ := Γ) (exc := exc) h (n + e + 1) hn (d := d) (by omega) fun _ => by
      have e1 : n + e + 1 + 3 = n + 4 + e := by omega
      rw [e1]
      exact ih
    have e2 : n + e + 1 + 4 = n + 4 + (e + 1) := by omega
    rw [e2] at this
    exact this
structure GenP (m : Nat) (P : Prog) : Prop where
  names : P.names ∈ allNames
  few : P.names.length ≤ m
  ok : oks P.names 4 P.steps = true
  size : sizes P.steps ≤ 13
  walks : walkss P.steps ≤ 1
theorem word_last {x : D} {y : Str} (h : x ∈ ([.tuple [.str "keys"], .tuple [.str "count"], .tuple [.str "tell", .str y]] : List D)) : ∃ s : St, x = s.enc ∧ plainS s = true ∧ ∀ ns d, y ∈ ns → s.ok ns d = true := by
  simp only [List.mem_cons, List.not_mem_nil, or_false] at h
  rcases h with rfl | rfl | rfl
  · exact ⟨.al .keys, by simp [St.enc, AW.str], rfl, fun ns d _ => by simp [St.ok]⟩
  · exact ⟨.al .count, by simp [St.enc, AW.str], rfl, fun ns d _ => by simp [St.ok]⟩
  · exact ⟨.pl .tell y, by simp [St.enc, RW.str], rfl, fun ns d z => by simp [St.ok, z]⟩
theorem ph_program (h : HasGen T) (n : Nat) {ds : List D} (hd : Dr ds) {m : Nat} (m1 : 1 ≤ m) (m3 : m ≤ 3) :
    ∃ P ds', Phi T Γ exc (n + 8) "_law_program" [.own ds, .val (.int m)] = .ok (.val (Prog.enc P), [ds']) ∧ GenP m P ∧ Dr ds' := by
  obtain ⟨ns, d1, f1, hn, hl, hd1⟩ := ph_names (Γ := Γ) (exc := exc) h (n + 5) hd m1 m3
  obtain ⟨ss, r, wk, d2, f2, hd2, hr, ok, sz, wz⟩ := ph_block (Γ := Γ) (exc := exc) h hn 3 0 rfl n d1 9 true hd1 (by decide)
  have l0 := allNames_len hn
  obtain ⟨y, ys, ey⟩ : ∃ y ys, ns = y :: ys := by
    match ns, l0 with
    | y :: ys, _ => exact ⟨y, ys, rfl⟩
  obtain ⟨x, d3, f3, m9, hd3⟩ := ph_of (Γ := Γ) (exc := exc) h.toHasDraw (n + 5) hd2 (xs := [.tuple [.str "keys"], .tuple [.str "count"], .tuple [.str "tell", .str y]]) (by simp) (by simp)
  obtain ⟨s, rfl, ps, pok⟩ := word_last m9
  obtain ⟨p1, p2⟩ := plain_size ps
  have wk1 : walkss ss ≤ 1 := by
    have : b2n true = 1 := rfl
    omega
  have ei : pix (.tuple (ns.map .str)) (.int 0) = some (.str y) := by rw [ey]; exact pix_tup0 _ _
  have hss : sizes ss ≤ 12 := by omega
  have hlen : ss.length ≤ sizes ss := by
    clear f2 ok sz wz wk1 hss
    induction ss with
    | nil => simp
    | cons a r ih =>
      have : 1 ≤ a.size := by cases a <;> simp [St.size] <;> omega
      simp only [List.length_cons, sizes]
      omega
  have hadd : bin .add (.tuple (encs ss)) (.tuple [s.enc]) = some (.val (.tuple (encs (ss ++ [s])))) := by
    rw [bin_add_tup (by
      rw [encs_length]
      have : 20 ≤ sizeLine := by decide
      simp
      omega), encs_append]
    rfl
  refine ⟨⟨ns, ss ++ [s]⟩, d3, ?_, ⟨hn, hl, ?_, ?_, ?_⟩, hd3⟩
  · rw [phi_at h.program rfl]
    have f2' : Phi T Γ exc (n + 7) "_law_block" [.own d1, .val (.tuple (ns.map .str)), .own [.int 9, .bool true], .val (.int 0)] = .ok (.val (.tuple (encs ss)), [d2, [.int r, .bool wk]]) := f2
    exists F.f__law_program, f1, f2', f3, ei, hadd, Prog.enc
  · rw [oks_append, ok]
    simp [oks, pok ns 4 (by rw [ey]; simp)]
  · rw [sizes_append]
    simp [sizes]
    omega
  · rw [walkss_append]
    simp [walkss]
    omega
end G
set_option maxHeartbeats 4000000
namespace G
open PySem
open PyData (strOk)
abbrev cLETTERS : D := .str "abcdefghijklmnopqrstuvwxyz"
abbrev cTAKEN : D := .tuple [.str "alone", .str "apart", .str "it"]
abbrev cBRANCHED : D := .tuple [.str "zero", .str "nil", .str "has"]
abbrev cPLAIN : D := .tuple [.str "look", .str "peek", .str "tell", .str "get", .str "drop"]
abbrev cALONE : D := .tuple [.str "copy", .str "count", .str "keys"]
abbrev cINBODY : D := .tuple [.str "look", .str "peek", .str "tell", .str "get", .str "count", .str "keys"]
structure HasProg (T : Str → Option MF) (Γ : Str → Option D) : Prop where
  is_from : T "is_from" = some F.f_is_from
  is_tuple : T "is_tuple" = some F.f_is_tuple
  is_name : T "is_name" = some F.f_is_name
  ascends : T "ascends" = some F.f_ascends
  is_key : T "is_key" = some F.f_is_key
  is_plain : T "is_plain" = some F.f_is_plain
  is_body : T "is_body" = some F.f_is_body
  is_statement : T "is_statement" = some F.f_is_statement
  are_steps : T "are_steps" = some F.f_are_steps
  blocks : T "blocks" = some F.f_blocks
  listed : T "listed" = some F.f_listed
  is_program : T "is_program" = some F.f_is_program
  check_program : T "check_program" = some F.f_check_program
  gLETTERS : Γ "LETTERS" = some cLETTERS
  gTAKEN : Γ "TAKEN" = some cTAKEN
  gBRANCHED : Γ "BRANCHED" = some cBRANCHED
  gPLAIN : Γ "PLAIN" = some cPLAIN
  gALONE : Γ "ALONE" = some cALONE
  gINBODY : Γ "IN_BODY" = some cINBODY
  gMOST : Γ "MOST_STATEMENTS" = some (.int 14)
  gDEEP : Γ "MOST_DEEP" = some (.int 4)
variable {T : Str → Option MF} {Γ : Str → Option D} {exc : Str → Bool}
theorem in_BR_RW (w : RW) : cmp .in_ (.str w.str) cBRANCHED = some false := by cases w <;> decide +kernel
theorem in_BR_AW (w : AW) : cmp .in_ (.str w.str) cBRANCHED = some false := by cases w <;> decide +kernel
theorem in_BR_BW (w : BW) : cmp .in_ (.str w.str) cBRANCHED = some true := by cases w <;> decide +kernel
theorem in_BR_put : cmp .in_ (.str "put") cBRANCHED = some false := by decide +kernel
theorem in_BR_same : cmp .in_ (.str "same") cBRANCHED = some false := by decide +kernel
theorem in_BR_walk : cmp .in_ (.str "walk") cBRANCHED = some false := by decide +kernel
abbrev tSW : D := .tuple [.str "same", .str "walk"]
theorem in_SW_RW (w : RW) : cmp .in_ (.str w.str) tSW = some false := by cases w <;> decide +kernel
theorem in_SW_AW (w : AW) : cmp .in_ (.str w.str) tSW = some false := by cases w <;> decide +kernel
theorem in_SW_put : cmp .in_ (.str "put") tSW = some false := by decide +kernel
theorem in_SW_same : cmp .in_ (.str "same") tSW = some true := by decide +kernel
theorem in_SW_walk : cmp .in_ (.str "walk") tSW = some true := by decide +kernel
theorem in_AL_RW (w : RW) : cmp .in_ (.str w.str) cALONE = some false := by cases w <;> decide +kernel
theorem in_AL_AW (w : AW) : cmp .in_ (.str w.str) cALONE = some true := by cases w <;> decide +kernel
theorem in_AL_put : cmp .in_ (.str "put") cALONE = some false := by decide +kernel
theorem in_PL_RW (w : RW) : cmp .in_ (.str w.str) cPLAIN = some true := by cases w <;> decide +kernel
theorem in_PL_put : cmp .in_ (.str "put") cPLAIN = some false := by decide +kernel
theorem notIn_IB_RW {w : RW} (h : w ≠ .drop) : cmp .notIn (.str w.str) cINBODY = some false := by cases w <;> first | exact absurd rfl h | decide +kernel
theorem notIn_IB_AW {w : AW} (h : w ≠ .copy) : cmp .notIn (.str w.str) cINBODY = some false := by cases w <;> first | exact absurd rfl h | decide +kernel
theorem eq_walk_RW (w : RW) : cmp .eq (.str w.str) (.str "walk") = some false := by cases w <;> decide +kernel
theorem eq_walk_AW (w : AW) : cmp .eq (.str w.str) (.str "walk") = some false := by cases w <;> decide +kernel
theorem eq_walk_BW (w : BW) : cmp .eq (.str w.str) (.str "walk") = some false := by cases w <;> decide +kernel
theorem eq_walk_put : cmp .eq (.str "put") (.str "walk") = some false := by decide +kernel
theorem eq_walk_same : cmp .eq (.str "same") (.str "walk") = some false := by decide +kernel
theorem eq_walk_walk : cmp .eq (.str "walk") (.str "walk") = some true := by decide +kernel
theorem eq_same_RW (w : RW) : cmp .eq (.str w.str) (.str "same") = some false := by cases w <;> decide +kernel
theorem eq_same_AW (w : AW) : cmp .eq (.str w.str) (.str "same") = some false := by cases w <;> decide +kernel
theorem eq_same_put : cmp .eq (.str "put") (.str "same") = some false := by decide +kernel
theorem ph_is_tuple (h : HasProg T Γ) (n : Nat) (xs : List D) (a b : Int) : Phi T Γ exc (n + 1) "is_tuple" [.val (.tuple xs), .val (.int a), .val (.int b)] = .ok (.val (.bool (decide (a ≤ xs.length) && decide ((xs.length : Int) ≤ b))), []) := by
  rw [phi_at h.is_tuple rfl]
  by_cases q : a ≤ xs.length
  · exists F.f_is_tuple, isi_tup, beq_self_eq_true, blt_len_tup, cmp_le_int, decide_eq_true q
  · exists F.f_is_tuple, isi_tup, beq_self_eq_true, blt_len_tup, cmp_le_int, decide_eq_false q
theorem ph_is_tuple_ok (h : HasProg T Γ) (n : Nat) {xs : List D} {a b : Int} (h1 : a ≤ xs.length) (h2 : (xs.length : Int) ≤ b) : Phi T Γ exc (n + 1) "is_tuple" [.val (.tuple xs), .val (.int a), .val (.int b)] = .ok (.val (.bool true), []) := by
  rw [ph_is_tuple h, decide_eq_true h1, decide_eq_true h2]
  rfl
theorem ph_is_tuple_lst (h : HasProg T Γ) (n : Nat) (xs : List D) (a b : Int) : Phi T Γ exc (n + 1) "is_tuple" [.val (.list xs), .val (.int a), .val (.int b)] = .ok (.val (.bool false), []) := by
  rw [phi_at h.is_tuple rfl]
  have : ("tuple" == "list") = false := by decide
  exists F.f_is_tuple, isi_lst, this
theorem ph_is_key (h : HasProg T Γ) (n : Nat) {ns : List Str} {k : Str} (hn : ∀ x ∈ ns, strOk x = true) (hk : k ∈ ns) : Phi T Γ exc (n + 1) "is_key" [.val (.tuple (ns.map .str)), .val (.str k)] = .ok (.val (.bool true), []) := by
  rw [phi_at h.is_key rfl]
  exists F.f_is_key, isi_str, beq_self_eq_true, cmp_in, pin_strs (hn k hk) hn, decide_eq_true hk
theorem ph_is_from (h : HasProg T Γ) (n : Nat) (i a b : Int) : Phi T Γ exc (n + 1) "is_from" [.val (.int i), .val (.int a), .val (.int b)] = .ok (.val (.bool (decide (a ≤ i) && decide (i ≤ b))), []) := by
  rw [phi_at h.is_from rfl]
  have e1 : ("int" == "int") = true := by decide
  have e2 : ("int" == "bool") = false := by decide
  have e3 : ("bool" == "int") = false := by decide
  by_cases q : a ≤ i
  · exists F.f_is_from, isi_int, e1, e2, e3, cmp_le_int, decide_eq_true q
  · exists F.f_is_from, isi_int, e1, e2, e3, cmp_le_int, decide_eq_false q
theorem ph_is_plain (h : HasProg T Γ) (n : Nat) {ns : List Str} (hn : ∀ x ∈ ns, strOk x = true) {s : St} {d : Nat} (hp : plainS s = true) (ho : s.ok ns d = true) : Phi T Γ exc (n + 2) "is_plain" [.val (.tuple (ns.map .str)), .val s.enc] = .ok (.val (.bool true), []) := by
  rw [phi_at h.is_plain rfl]
  cases s <;> first | (cases hp; done) | skip
  · rename_i w k
    have hk : k ∈ ns := by simpa [St.ok] using ho
    exists F.f_is_plain, St.enc, h.gALONE, h.gPLAIN, pix_tup0, pix_tup1, in_AL_RW, in_PL_RW, blt_len_t1, blt_len_t2, blt_len_t3, cmp_eq_int, ph_is_key (Γ := Γ) (exc := exc) h n hn hk
  · rename_i w
    exists F.f_is_plain, St.enc, h.gALONE, pix_tup0, in_AL_AW, blt_len_t1, blt_len_t2, blt_len_t3, cmp_eq_int
  · rename_i k i
    have hk : k ∈ ns ∧ (i = 0 ∨ i = 1) := by simpa [St.ok] using ho
    have q1 : 0 ≤ i := by omega
    have q2 : i ≤ 1 := by omega
    exists F.f_is_plain, St.enc, h.gALONE, h.gPLAIN, pix_tup0, pix_tup1, pix_tup2, in_AL_put, in_PL_put, eq_put_put, blt_len_t1, blt_len_t2, blt_len_t3, cmp_eq_int, ph_is_key (Γ := Γ) (exc := exc) h n hn hk.1, ph_is_from (Γ := Γ) (exc := exc) h, decide_eq_true q1, decide_eq_true q2
theorem strOk_app {ns : List Str} (hn : ∀ x ∈ ns, strOk x = true) : ∀ x ∈ ns ++ [("it" : Str)], strOk x = true := fun x hx => by
  rcases List.mem_append.mp hx with hx | hx
  · exact hn x hx
  · rw [List.mem_singleton.mp hx]
    decide +kernel
theorem okBody_plain {ns : List Str} {s : St} (h : okBody ns s = true) : plainS s = true ∧ s.ok (ns ++ [("it" : Str)]) 1 = true ∧ ∃ x xs, s.enc = .tuple (.str x :: xs) ∧ (.str x :: xs : List D).length ≤ 2 ∧ cmp .notIn (.str x) cINBODY = some false := by
  cases s <;> first | (cases h; done) | skip
  · rename_i w k
    simp only [okBody, Bool.and_eq_true, decide_eq_true_eq] at h
    exact ⟨rfl, by simp only [St.ok]; exact decide_eq_true h.2, w.str, [.str k], by simp [St.enc], by simp, notIn_IB_RW h.1⟩
  · rename_i w
    simp only [okBody, decide_eq_true_eq] at h
    exact ⟨rfl, by simp [St.ok], w.str, [], by simp [St.enc], by simp, notIn_IB_AW h⟩
theorem ph_is_body (h : HasProg T Γ) (n : Nat) {ns : List Str} (hn : ∀ x ∈ ns, strOk x = true) (hl : ns.length ≤ 1000) {b : List St} (hb : b.length ≤ 4) (ho : b.all (okBody ns) = true) : Phi T Γ exc (n + 3) "is_body" [.val (.tuple (ns.map .str)), .val (.tuple (encs b))] = .ok (.val (.bool true), []) := by
  have hadd : bin .add (.tuple (ns.map .str)) (.tuple [.str "it"]) = some (.val (.tuple ((ns ++ [("it" : Str)]).map .str))) := by
    rw [bin_add_tup (by
      rw [List.length_map]
      have : 2000 ≤ sizeLine := by decide
      show ns.length + 1 ≤ sizeLine
      omega), List.map_append]
    rfl
  obtain ⟨ρ', h1, h2⟩ := loop_run (C := ⟨Phi T Γ exc (n + 2), Γ, [], exc, Phi2 T Γ exc (n + 2)⟩) (cl := [2]) (tg := .one 2) (body := (F.f_is_body.body.at 1).body)
    (P := fun xs ρ => ρ = [some (.val (.tuple (ns.map .str))), some (.val (.tuple (encs b))), none] ∧ ∃ r, xs = encs r ∧ r.all (okBody ns) = true) (by
    intro x rest ρ ⟨eρ, r, er, hr⟩
    subst eρ
    cases r with
    | nil => simp [encs] at er
    | cons s r =>
      simp only [encs, List.cons.injEq] at er
      obtain ⟨rfl, rfl⟩ := er
      simp only [List.all_cons, Bool.and_eq_true] at hr
      obtain ⟨p1, p2, y, ys, e1, e2, e3⟩ := okBody_plain hr.1
      refine ⟨[some (.val (.tuple (ns.map .str))), some (.val (.tuple (encs b))), some (.val s.enc)], [some (.val (.tuple (ns.map .str))), some (.val (.tuple (encs b))), some (.val s.enc)], rfl, ?_, rfl, r, rfl, hr.2⟩
      have q := ph_is_plain (Γ := Γ) (exc := exc) h n (strOk_app hn) p1 p2
      rw [e1] at q ⊢
      have t := ph_is_tuple_ok (Γ := Γ) (exc := exc) h (n + 1) (xs := .str y :: ys) (a := 1) (b := 2) (by rw [List.length_cons]; omega) (by omega)
      exists F.f_is_body, MSs.at, MS.body, t, pix_tup0, isi_str, beq_self_eq_true, h.gINBODY, e3, hadd, q) (encs b) [some (.val (.tuple (ns.map .str))), some (.val (.tuple (encs b))), none] ⟨rfl, b, rfl, ho⟩
  obtain ⟨h2, _⟩ := h2
  subst h2
  dsimp only [F.f_is_body, MSs.at, MS.body] at h1
  have t := ph_is_tuple_ok (Γ := Γ) (exc := exc) h (n + 1) (xs := encs b) (a := 0) (b := 4) (by omega) (by rw [encs_length]; omega)
  rw [phi_at h.is_body rfl]
  exists F.f_is_body, t, walkOf, h1
theorem map_true (xs : List D) (n : Nat) (h : xs.length = n) : (xs.map fun _ => PyData.bool true) = (List.replicate n true).map PyData.bool := by
  subst h
  induction xs with
  | nil => rfl
  | cons x xs ih => simp [List.replicate_succ, ih]
theorem all_true (n : Nat) : (List.replicate n true).all id = true := by
  induction n with
  | zero => rfl
  | succ n ih => simp [List.replicate_succ]
def StepsT (T : Str → Option MF) (Γ : Str → Option D) (exc : Str → Bool) (m : Nat) (ns : List Str) (d : Nat) : Prop := ∀ ss, oks ns d ss = true → sizes ss ≤ 1000 → Phi T Γ exc m "are_steps" [.val (.tuple (ns.map .str)), .val (.tuple (encs ss)), .val (.int d)] = .ok (.val (.bool true), [])
theorem len_sizes : ∀ ss : List St, ss.length ≤ sizes ss
  | [] => by simp
  | s :: r => by
    have := len_sizes r
    have : 1 ≤ s.size := by cases s <;> simp [St.size] <;> omega
    simp only [List.length_cons, sizes]
    omega
theorem ph_is_statement (h : HasProg T Γ) (n : Nat) {ns : List Str} (hn : ∀ x ∈ ns, strOk x = true) (hl : ns.length ≤ 1000) {d : Nat} (IH : 1 < d → StepsT T Γ exc (n + 3) ns (d - 1)) {s : St} (ho : s.ok ns d = true) (hz : s.size ≤ 1000) : Phi T Γ exc (n + 4) "is_statement" [.val (.tuple (ns.map .str)), .val s.enc, .val (.int d)] = .ok (.val (.bool true), []) := by
  rw [phi_at h.is_statement rfl]
  have ed : 1 < d → ((d : Int) - 1) = ((d - 1 : Nat) : Int) := fun q => by omega
  cases s with
  | pl w k =>
    have q := ph_is_plain (Γ := Γ) (exc := exc) h (n + 1) hn (s := .pl w k) (d := d) rfl ho
    have t := ph_is_tuple_ok (Γ := Γ) (exc := exc) h (n + 2) (xs := [.str w.str, .str k]) (a := 1) (b := 4) (by simp) (by simp)
    simp only [St.enc] at q ⊢
    exists F.f_is_statement, t, pix_tup0, isi_str, beq_self_eq_true, eq_walk_RW, eq_same_RW, h.gBRANCHED, in_BR_RW, q
  | al w =>
    have q := ph_is_plain (Γ := Γ) (exc := exc) h (n + 1) hn (s := .al w) (d := d) rfl ho
    have t := ph_is_tuple_ok (Γ := Γ) (exc := exc) h (n + 2) (xs := [.str w.str]) (a := 1) (b := 4) (by simp) (by simp)
    simp only [St.enc] at q ⊢
    exists F.f_is_statement, t, pix_tup0, isi_str, beq_self_eq_true, eq_walk_AW, eq_same_AW, h.gBRANCHED, in_BR_AW, q
  | put k i =>
    have q := ph_is_plain (Γ := Γ) (exc := exc) h (n + 1) hn (s := .put k i) (d := d) rfl ho
    have t := ph_is_tuple_ok (Γ := Γ) (exc := exc) h (n + 2) (xs := [.str "put", .str k, .int i]) (a := 1) (b := 4) (by simp) (by simp)
    simp only [St.enc] at q ⊢
    exists F.f_is_statement, t, pix_tup0, isi_str, beq_self_eq_true, eq_walk_put, eq_same_put, h.gBRANCHED, in_BR_put, q
  | br w k yes no =>
    simp only [St.ok, Bool.and_eq_true, decide_eq_true_eq] at ho
    obtain ⟨⟨⟨hk, h1⟩, hy⟩, hno⟩ := ho
    simp only [St.size] at hz
    have t := ph_is_tuple_ok (Γ := Γ) (exc := exc) h (n + 2) (xs := [.str w.str, .str k, .tuple (encs yes), .tuple (encs no)]) (a := 1) (b := 4) (by simp) (by simp)
    have q1 := IH h1 yes hy (by omega)
    have q2 := IH h1 no hno (by omega)
    have q3 := ph_is_key (Γ := Γ) (exc := exc) h (n + 2) hn hk
    simp only [St.enc]
    exists F.f_is_statement, t, pix_tup0, pix_tup1, pix_tup2, pix_tup3, isi_str, beq_self_eq_true, eq_walk_BW, eq_same_BW, h.gBRANCHED, in_BR_BW, q1, q2, q3, blt_len_t2, blt_len_t3, blt_len_t4, cmp_ne_int, bin_sub_int, ed h1
  | same yes no =>
    simp only [St.ok, Bool.and_eq_true, decide_eq_true_eq] at ho
    obtain ⟨⟨h1, hy⟩, hno⟩ := ho
    simp only [St.size] at hz
    have t := ph_is_tuple_ok (Γ := Γ) (exc := exc) h (n + 2) (xs := [.str "same", .tuple (encs yes), .tuple (encs no)]) (a := 1) (b := 4) (by simp) (by simp)
    have q1 := IH h1 yes hy (by omega)
    have q2 := IH h1 no hno (by omega)
    simp only [St.enc]
    exists F.f_is_statement, t, pix_tup0, pix_tup1, pix_tup2, isi_str, beq_self_eq_true, eq_walk_same, eq_same_same, q1, q2, blt_len_t2, blt_len_t3, blt_len_t4, cmp_eq_int, bin_sub_int, ed h1
  | walk b =>
    simp only [St.ok, Bool.and_eq_true, decide_eq_true_eq] at ho
    obtain ⟨⟨h1, hb⟩, hbo⟩ := ho
    have t := ph_is_tuple_ok (Γ := Γ) (exc := exc) h (n + 2) (xs := [.str "walk", .tuple (encs b)]) (a := 1) (b := 4) (by simp) (by simp)
    have q := ph_is_body (Γ := Γ) (exc := exc) h n hn hl hb hbo
    have g : decide ((d : Int) > 1) = true := decide_eq_true (by omega)
    simp only [St.enc]
    exists F.f_is_statement, t, pix_tup0, pix_tup1, isi_str, beq_self_eq_true, eq_walk_walk, q, blt_len_t2, blt_len_t3, blt_len_t4, cmp_eq_int, cmp_gt_int, g
theorem oks_mem {ns : List Str} {d : Nat} : ∀ {ss : List St}, oks ns d ss = true → ∀ s ∈ ss, s.ok ns d = true := fun {ss} h s hs => by
  rw [oks_all] at h
  exact List.all_eq_true.mp h s hs
theorem size_mem : ∀ {ss : List St} {s : St}, s ∈ ss → s.size ≤ sizes ss
  | a :: r, s, h => by
    simp only [sizes]
    rcases List.mem_cons.mp h with rfl | h
    · omega
    · have := size_mem h
      omega
theorem ph_are_steps (h : HasProg T Γ) (n : Nat) {ns : List Str} (hn : ∀ x ∈ ns, strOk x = true) (hl : ns.length ≤ 1000) : ∀ d, 1 ≤ d → StepsT T Γ exc (n + 3 + 2 * d) ns d := by
  intro d
  induction d with
  | zero => intro z; omega
  | succ d ih =>
    intro _ ss ho hz
    have e : n + 3 + 2 * (d + 1) = (n + 2 * d) + 4 + 1 := by omega
    rw [e, phi_at h.are_steps rfl]
    have IH : 1 < d + 1 → StepsT T Γ exc (n + 2 * d + 3) ns (d + 1 - 1) := fun q => by
      have e2 : n + 2 * d + 3 = n + 3 + 2 * d := by omega
      rw [e2]
      exact ih (by omega)
    have hd0 : decide (((d + 1 : Nat) : Int) = 0) = false := decide_eq_false (by omega)
    exists F.f_are_steps, isi_tup, beq_self_eq_true, cmp_eq_int, hd0, walkOf
    have hlen : lines (encs ss).length = true := lines_small (by rw [encs_length]; have := len_sizes ss; omega)
    have hc := comp_map (C := ⟨Phi T Γ exc (n + 2 * d + 4), Γ, [], exc, Phi2 T Γ exc (n + 2 * d + 4)⟩) (own := [3]) (tg := .one 3) (el := .call "is_statement" (.cons (.slot 0) (.cons (.slot 3) (.cons (.slot 2) .nil)))) (g := fun _ => .bool true) (xs := encs ss) (ρ := [some (.val (.tuple (ns.map .str))), some (.val (.tuple (encs ss))), some (.val (.int ((d + 1 : Nat) : Int))), none]) [some (.val (.tuple (ns.map .str))), some (.val (.tuple (encs ss))), some (.val (.int ((d + 1 : Nat) : Int))), none] rfl rfl (fun x hx => by
      rw [encs_eq] at hx
      obtain ⟨s, hs, rfl⟩ := List.mem_map.mp hx
      have q := ph_is_statement (Γ := Γ) (exc := exc) h (n + 2 * d) hn hl IH (oks_mem ho s hs) (Nat.le_trans (size_mem hs) hz)
      refine ⟨_, rfl, rfl, .val (.bool true), ?_, rfl⟩
      exists q)
    exists hlen, hc, map_true (encs ss) _ rfl, blt_all, all_true
def isNameB (s : Str) : Bool := decide (1 ≤ s.length) && decide (s.length ≤ 8) && !decide (s ∈ ([("alone" : Str), "apart", "it"] : List Str)) && s.cps.toList.all fun c => decide (97 ≤ c) && decide (c ≤ 122)
theorem in_letters {c : Nat} (h : 97 ≤ c ∧ c ≤ 122) : cmp .in_ (.str ⟨#[c]⟩) cLETTERS = some true := by
  have key : ∀ c ∈ List.range' 97 26, cmp .in_ (.str ⟨#[c]⟩) cLETTERS = some true := by decide +kernel
  exact key c (by rw [List.mem_range']; exact ⟨c - 97, by omega, by omega⟩)
theorem isName_ok {s : Str} (h : isNameB s = true) : strOk s = true := by
  unfold isNameB at h
  simp only [Bool.and_eq_true] at h
  unfold PyData.strOk
  rw [Array.all_eq_true']
  intro c hc
  have := List.all_eq_true.mp h.2 c (by simpa using hc)
  simp at this
  simp
  omega
theorem ph_is_name (h : HasProg T Γ) (n : Nat) {s : Str} (hs : isNameB s = true) : Phi T Γ exc (n + 1) "is_name" [.val (.str s)] = .ok (.val (.bool true), []) := by
  have so := isName_ok hs
  unfold isNameB at hs
  simp only [Bool.and_eq_true, decide_eq_true_eq, Bool.not_eq_true', decide_eq_false_iff_not] at hs
  obtain ⟨⟨⟨h1, h2⟩, h3⟩, h4⟩ := hs
  rw [phi_at h.is_name rfl]
  have hl : s.length ≤ sizeLine := Nat.le_trans h2 (by decide)
  have q1 : decide ((1 : Int) ≤ (s.length : Int)) = true := decide_eq_true (by omega)
  have q2 : decide ((s.length : Int) ≤ 8) = true := decide_eq_true (by omega)
  have q3 : pin (.str s) cTAKEN = some false := by
    have := pin_strs (x := s) (xs := [("alone" : Str), "apart", "it"]) so (by decide +kernel)
    rw [decide_eq_false h3] at this
    exact this
  have hlen : lines (s.cps.toList.map fun c => PyData.str ⟨#[c]⟩).length = true := lines_small (by rw [List.length_map, Array.length_toList]; have : s.cps.size ≤ 8 := h2; omega)
  exists F.f_is_name, isi_str, beq_self_eq_true, blt_len_str hl, cmp_le_int, q1, q2, h.gTAKEN, cmp_in, q3, walkOf, hlen
  have hc := comp_map (C := ⟨Phi T Γ exc n, Γ, [], exc, Phi2 T Γ exc n⟩) (own := [1]) (tg := .one 1) (el := .cmp .in_ (.slot 1) (.glob "LETTERS")) (g := fun _ => .bool true) (xs := s.cps.toList.map fun c => PyData.str ⟨#[c]⟩) (ρ := [some (.val (.str s)), none]) [some (.val (.str s)), none] rfl rfl (fun x hx => by
    obtain ⟨c, hc, rfl⟩ := List.mem_map.mp hx
    have := List.all_eq_true.mp h4 c hc
    have : 97 ≤ c ∧ c ≤ 122 := by simpa using this
    have q := in_letters this
    refine ⟨_, rfl, rfl, .val (.bool true), ?_, rfl⟩
    exists h.gLETTERS, q)
  exists hc, map_true _ _ rfl, blt_all, all_true
def ltS (a b : Str) : Bool := decide (a.cps.toList < b.cps.toList)
def ascS (xs : List Str) : Bool := (List.zipWith ltS xs xs.tail).all id
theorem cmp_lt_str {a b : Str} (ha : strOk a = true) (hb : strOk b = true) : cmp .lt (.str a) (.str b) = some (ltS a b) := by
  have : cmpOk (.str a) (.str b) = true := by
    unfold cmpOk
    rw [shaped_str ha, shaped_str hb]
    simp [notNone, PySem.W.alike]
  show (if cmpOk (.str a) (.str b) then some _ else none) = _
  rw [if_pos this, PySem.W.dataLt_str]
  rfl
theorem cut_drop {α : Type} (xs : List α) (k : Nat) : cut xs (some (k : Int)) none = xs.drop k := by
  unfold cut
  rw [HT.sIx_nat, HT.sIx_none]
  rcases Nat.le_total k xs.length with q | q
  · rw [Nat.min_eq_left q]
    exact List.take_of_length_le (by rw [List.length_drop]; omega)
  · rw [Nat.min_eq_right q, List.drop_eq_nil_of_le (Nat.le_refl _), List.drop_eq_nil_of_le q]
    simp
def pairLt : D → D
  | .tuple [.str a, .str b] => .bool (ltS a b)
  | _ => .none
theorem ph_ascends (h : HasProg T Γ) (n : Nat) {xs : List Str} (hx : ∀ x ∈ xs, strOk x = true) (hl : xs.length ≤ 1000) : Phi T Γ exc (n + 1) "ascends" [.val (.tuple (xs.map .str))] = .ok (.val (.bool (ascS xs)), []) := by
  rw [phi_at h.ascends rfl]
  have hcut : cut (xs.map PyData.str) (some 1) none = (xs.tail).map PyData.str := by
    have := cut_drop (xs.map PyData.str) 1
    rw [List.drop_one, ← List.map_tail] at this
    exact this
  have hlen : lines (List.zipWith (fun p q => PyData.tuple [p, q]) (xs.map .str) (xs.tail.map .str)).length = true := lines_small (by rw [List.length_zipWith]; simp; omega)
  have hc := comp_map (C := ⟨Phi T Γ exc n, Γ, [], exc, Phi2 T Γ exc n⟩) (own := [1, 2]) (tg := .tup [1, 2]) (el := .cmp .lt (.slot 1) (.slot 2)) (g := pairLt) (xs := List.zipWith (fun p q => PyData.tuple [p, q]) (xs.map .str) (xs.tail.map .str)) (ρ := [some (.val (.tuple (xs.map .str))), none, none]) [some (.val (.tuple (xs.map .str))), none, none] rfl rfl (fun x hx' => by
    obtain ⟨a, b, ha, hb, rfl⟩ : ∃ a b : Str, a ∈ xs ∧ b ∈ xs ∧ x = .tuple [.str a, .str b] := by
      rw [List.zipWith_map] at hx'
      obtain ⟨i, hi, e⟩ := List.mem_iff_getElem.mp hx'
      rw [List.getElem_zipWith] at e
      exact ⟨_, _, List.getElem_mem _, List.mem_of_mem_tail (List.getElem_mem _), e.symm⟩
    refine ⟨[some (.val (.tuple (xs.map .str))), some (.val (.str a)), some (.val (.str b))], rfl, rfl, .val (.bool (ltS a b)), ?_, rfl⟩
    exists cmp_lt_str (hx a ha) (hx b hb))
  have hm : (List.zipWith (fun p q => PyData.tuple [p, q]) (xs.map .str) (xs.tail.map .str)).map pairLt = (List.zipWith ltS xs xs.tail).map .bool := by
    rw [List.zipWith_map, List.map_zipWith, List.map_zipWith]
    rfl
  exists F.f_ascends, psl_tup, hcut, zipI, hlen
  exists hc, hm, blt_all, ascS
end G
set_option maxHeartbeats 4000000
namespace G
open PySem
open PyData (strOk)
variable {T : Str → Option MF} {Γ : Str → Option D} {exc : Str → Bool}
theorem cut1_2 (a b : D) : cut [a, b] (some 1) none = [b] := cut_drop [a, b] 1
theorem cut1_3 (a b c : D) : cut [a, b, c] (some 1) none = [b, c] := cut_drop [a, b, c] 1
theorem cut2_4 (a b c d : D) : cut [a, b, c, d] (some 2) none = [c, d] := cut_drop [a, b, c, d] 2
def blkD (b : List St) : D := .tuple (encs b)
def innD (s : St) : List D := s.inner.map blkD
theorem ph_blocks (h : HasProg T Γ) (n : Nat) (s : St) : Phi T Γ exc (n + 1) "blocks" [.val s.enc] = .ok (.val (.tuple (innD s)), []) := by
  rw [phi_at h.blocks rfl]
  cases s with
  | pl w k => exists F.f_blocks, St.enc, innD, St.inner, pix_tup0, h.gBRANCHED, in_BR_RW, in_SW_RW, lines_small
  | al w => exists F.f_blocks, St.enc, innD, St.inner, pix_tup0, h.gBRANCHED, in_BR_AW, in_SW_AW
  | put k i => exists F.f_blocks, St.enc, innD, St.inner, pix_tup0, h.gBRANCHED, in_BR_put, in_SW_put
  | br w k y n => exists F.f_blocks, St.enc, innD, St.inner, blkD, pix_tup0, h.gBRANCHED, in_BR_BW, psl_tup, cut2_4
  | same y n => exists F.f_blocks, St.enc, innD, St.inner, blkD, pix_tup0, h.gBRANCHED, in_BR_same, in_SW_same, psl_tup, cut1_3
  | walk b => exists F.f_blocks, St.enc, innD, St.inner, blkD, pix_tup0, h.gBRANCHED, in_BR_walk, in_SW_walk, psl_tup, cut1_2
theorem add_path {p q : List Nat} (h : p.length + q.length ≤ 1000) : bin .add (pathD p) (pathD q) = some (.val (pathD (p ++ q))) := by
  unfold pathD
  have : (1000 : Nat) ≤ sizeLine := by decide
  rw [bin_add_tup (by simp only [List.length_map]; omega), List.map_append]
theorem path1 (i : Nat) : PyData.tuple [.int i] = pathD [i] := rfl
theorem path2 (i j : Nat) : PyData.tuple [.int i, .int j] = pathD [i, j] := rfl
theorem path0 : PyData.tuple [] = pathD [] := rfl
theorem lm_extend (xs ys : List D) (h : xs.length + ys.length ≤ sizeLine) : lmeth .extend xs [.list ys] = some (.none, xs ++ ys) := if_pos h
theorem enumI_tup (xs : List D) : enumI [.tuple xs] = some (pairs 0 xs) := rfl
theorem encL_len (l : List (List Nat × St)) : (encL l).length = l.length := List.length_map ..
theorem encL_nil : encL [] = [] := rfl
theorem listed_more (p : List Nat) (pre : List St) (s : St) : encL (listeds p 0 (pre ++ [s])) = (encL (listeds p 0 pre) ++ [.tuple [pathD (p ++ [pre.length]), s.enc]]) ++ encL (s.listed (p ++ [pre.length])) := by
  rw [listeds_append, encL_append]
  simp [listeds, encL]
theorem inner_cases (s : St) : (s.inner = [] ∧ ∀ q, s.listed q = []) ∨ (∃ b, s.inner = [b] ∧ (∀ q, s.listed q = listeds (q ++ [0]) 0 b) ∧ deeps b < s.deep ∧ sizes b < s.size) ∨
    (∃ y n, s.inner = [y, n] ∧ (∀ q, s.listed q = listeds (q ++ [0]) 0 y ++ listeds (q ++ [1]) 0 n) ∧ deeps y < s.deep ∧ deeps n < s.deep ∧ sizes y + sizes n < s.size) := by
  cases s with
  | pl w k => exact .inl ⟨rfl, fun q => by simp [St.listed]⟩
  | al w => exact .inl ⟨rfl, fun q => by simp [St.listed]⟩
  | put k i => exact .inl ⟨rfl, fun q => by simp [St.listed]⟩
  | br w k y n => exact .inr (.inr ⟨y, n, rfl, fun q => by simp [St.listed], by simp only [St.deep]; omega, by simp only [St.deep]; omega, by simp only [St.size]; omega⟩)
  | same y n => exact .inr (.inr ⟨y, n, rfl, fun q => by simp [St.listed], by simp only [St.deep]; omega, by simp only [St.deep]; omega, by simp only [St.size]; omega⟩)
  | walk b => exact .inr (.inl ⟨b, rfl, fun q => by simp [St.listed], by simp only [St.deep]; omega, by simp only [St.size]; omega⟩)
def ListR (T : Str → Option MF) (Γ : Str → Option D) (exc : Str → Bool) (f : Str) (m : Nat) (k d : Nat) : Prop := ∀ ss, deeps ss ≤ d → sizes ss ≤ 1000 → ∀ p : List Nat, p.length + k ≤ 1000 → Phi T Γ exc m f [.val (.tuple (encs ss)), .val (pathD p)] = .ok (.fresh (encL (listeds p 0 ss)), [])
theorem listed_step (h : HasProg T Γ) (n k d : Nat) (IH : ∀ e, e < d → ListR T Γ exc "listed" (n + 1) k e) : ListR T Γ exc "listed" (n + 2) (k + 2) d := by
  intro ss hd hz p hp
  have big : (3000 : Nat) ≤ sizeLine := by decide
  obtain ⟨ρ', h1, h2⟩ := loop_run (C := ⟨Phi T Γ exc (n + 1), Γ, [], exc, Phi2 T Γ exc (n + 1)⟩) (cl := [3, 4, 5, 6, 7]) (tg := .tup [3, 4]) (body := (F.f_listed.body.at 1).body)
    (P := fun xs ρ => ∃ pre r, ss = pre ++ r ∧ xs = pairs pre.length (encs r) ∧ ρ = [some (.val (.tuple (encs ss))), some (.val (pathD p)), some (.own (encL (listeds p 0 pre))), none, none, none, none, none]) (by
    intro x rest ρ ⟨pre, r, es, er, eρ⟩
    subst eρ
    cases r with
    | nil => simp [encs, pairs] at er
    | cons s r =>
      simp only [encs, pairs, List.cons.injEq] at er
      obtain ⟨rfl, rfl⟩ := er
      have hs : s ∈ ss := by rw [es]; simp
      have hds : s.deep ≤ d := Nat.le_trans (by
        rw [es]
        clear es hs hd hz
        induction pre with
        | nil => simp only [List.nil_append, deeps]; omega
        | cons a pre ih => simp only [List.cons_append, deeps]; omega) hd
      have hsz : sizes pre + (s.size + sizes r) ≤ 1000 := by rw [es, sizes_append] at hz; simpa [sizes] using hz
      have l1 := listeds_len p 0 pre
      have hll := listed_len (p ++ [pre.length]) s
      have q1 : (encL (listeds p 0 pre)).length < sizeLine := by rw [encL_len, l1]; omega
      have q2 := ph_blocks (exc := exc) h n s
      have e0 := listed_more p pre s
      have ha : bin .add (pathD p) (pathD [pre.length]) = some (.val (pathD (p ++ [pre.length]))) := add_path (by simp only [List.length_singleton]; omega)
      have hp2 : ∀ i : Nat, bin .add (pathD (p ++ [pre.length])) (pathD [i]) = some (.val (pathD ((p ++ [pre.length]) ++ [i]))) := fun i => add_path (by simp only [List.length_append, List.length_singleton]; omega)
      refine ⟨_, [some (.val (.tuple (encs ss))), some (.val (pathD p)), some (.own (encL (listeds p 0 (pre ++ [s])))), some (.val (.int pre.length)), some (.val s.enc), some (.val (pathD (p ++ [pre.length]))), none, none], rfl, ?_, pre ++ [s], r, by rw [es, List.append_assoc]; rfl, by rw [List.length_append]; rfl, rfl⟩
      have z0 := hp2 0
      have z1 := hp2 1
      rcases inner_cases s with ⟨ei, el⟩ | ⟨b, ei, el, ed, ez⟩ | ⟨y, n', ei, el, ed1, ed2, ez⟩
      · rw [el] at e0
        simp only [innD, ei, List.map] at q2
        exists F.f_listed, MSs.at, MS.body, path1, ha, lm_append _ _ q1, q2, enumI_tup, pairs, e0, encL_nil
      · have i1 := IH (deeps b) (by omega) b (Nat.le_refl _) (by omega) (p ++ [pre.length] ++ [0]) (by simp only [List.length_append, List.length_singleton]; omega)
        have k1 := listeds_len (p ++ [pre.length] ++ [0]) 0 b
        rw [el] at e0
        have x1 := lm_extend (encL (listeds p 0 pre) ++ [.tuple [pathD (p ++ [pre.length]), s.enc]]) (encL (listeds (p ++ [pre.length] ++ [0]) 0 b)) (by rw [List.length_append, encL_len, encL_len, k1, l1, List.length_singleton]; omega)
        simp only [innD, ei, List.map] at q2
        exists F.f_listed, MSs.at, MS.body, path1, ha, lm_append _ _ q1, q2, enumI_tup, pairs, loop_cons, blkD, z0, i1, x1, e0
      · have i1 := IH (deeps y) (by omega) y (Nat.le_refl _) (by omega) (p ++ [pre.length] ++ [0]) (by simp only [List.length_append, List.length_singleton]; omega)
        have i2 := IH (deeps n') (by omega) n' (Nat.le_refl _) (by omega) (p ++ [pre.length] ++ [1]) (by simp only [List.length_append, List.length_singleton]; omega)
        have k1 := listeds_len (p ++ [pre.length] ++ [0]) 0 y
        have k2 := listeds_len (p ++ [pre.length] ++ [1]) 0 n'
        rw [el, encL_append, ← List.append_assoc] at e0
        have x1 := lm_extend (encL (listeds p 0 pre) ++ [.tuple [pathD (p ++ [pre.length]), s.enc]]) (encL (listeds (p ++ [pre.length] ++ [0]) 0 y)) (by rw [List.length_append, encL_len, encL_len, k1, l1, List.length_singleton]; omega)
        have x2 := lm_extend (encL (listeds p 0 pre) ++ [.tuple [pathD (p ++ [pre.length]), s.enc]] ++ encL (listeds (p ++ [pre.length] ++ [0]) 0 y)) (encL (listeds (p ++ [pre.length] ++ [1]) 0 n')) (by rw [List.length_append, List.length_append, encL_len, encL_len, encL_len, k1, k2, l1, List.length_singleton]; omega)
        simp only [innD, ei, List.map] at q2
        exists F.f_listed, MSs.at, MS.body, path1, ha, lm_append _ _ q1, q2, enumI_tup, pairs, loop_cons, blkD, z0, z1, i1, i2, x1, x2, e0) (pairs 0 (encs ss)) [some (.val (.tuple (encs ss))), some (.val (pathD p)), some (.own []), none, none, none, none, none] ⟨[], ss, rfl, rfl, rfl⟩
  obtain ⟨pre, r, es, er, eρ⟩ := h2
  have : r = [] := by
    cases r with
    | nil => rfl
    | cons a r => simp [encs, pairs] at er
  subst this
  rw [List.append_nil] at es
  subst es
  subst eρ
  dsimp only [F.f_listed, MSs.at, MS.body] at h1
  rw [phi_at h.listed rfl]
  exists F.f_listed, enumI_tup, h1
theorem ph_listed (h : HasProg T Γ) : ∀ d n, ListR T Γ exc "listed" (n + d + 2) (2 * d + 2) d
  | d, n => by
    induction d using Nat.strongRecOn generalizing n with
    | _ d ih =>
      have e : n + d + 2 = (n + d) + 2 := rfl
      have e2 : 2 * d + 2 = (2 * d) + 2 := rfl
      rw [e2]
      refine listed_step h (n + d) (2 * d) d fun e he => ?_
      have := ih e he (n + d - e - 1)
      have e3 : n + d - e - 1 + e + 2 = n + d + 1 := by omega
      rw [e3] at this
      intro ss h1 h2 p hp
      exact this ss h1 h2 p (by omega)
end G
set_option maxHeartbeats 4000000
namespace G
open PySem
open PyData (strOk)
variable {T : Str → Option MF} {Γ : Str → Option D} {exc : Str → Bool}
def okNames (ns : List Str) : Bool := decide (1 ≤ ns.length) && decide (ns.length ≤ 3) && ns.all isNameB && ascS ns
structure OkP (P : Prog) : Prop where
  names : okNames P.names = true
  ok : oks P.names 4 P.steps = true
  size : sizes P.steps ≤ 14
  walks : walkss P.steps ≤ 1
theorem allNames_ok {ns : List Str} (h : ns ∈ allNames) : okNames ns = true := by
  have : ∀ ns ∈ allNames, okNames ns = true := by decide +kernel
  exact this ns h
theorem OkP.parts {P : Prog} (h : OkP P) : 1 ≤ P.names.length ∧ P.names.length ≤ 3 ∧ (∀ x ∈ P.names, isNameB x = true) ∧ ascS P.names = true := by
  have := h.names
  simp only [okNames, Bool.and_eq_true, decide_eq_true_eq, List.all_eq_true] at this
  exact ⟨this.1.1.1, this.1.1.2, this.1.2, this.2⟩
theorem OkP.strs {P : Prog} (h : OkP P) : ∀ x ∈ P.names, strOk x = true := fun x hx => isName_ok (h.parts.2.2.1 x hx)
def wordD : D → D
  | .tuple [_, .tuple (w :: _)] => w
  | _ => .none
theorem enc_word (s : St) : ∃ r, s.enc = .tuple (.str s.word :: r) := by
  cases s <;> exact ⟨_, by simp only [St.enc, St.word]; rfl⟩
theorem words_of (l : List (List Nat × St)) : (encL l).map wordD = (l.map fun q => q.2.word).map PyData.str := by
  induction l with
  | nil => rfl
  | cons q l ih =>
    obtain ⟨r, e⟩ := enc_word q.2
    have e1 : encL (q :: l) = .tuple [pathD q.1, q.2.enc] :: encL l := rfl
    rw [e1, List.map_cons, ih, e]
    rfl
theorem word_walk (s : St) : decide (s.word = "walk") = isWalk s := by
  cases s with
  | pl w k => cases w <;> exact decide_eq_false (by simp only [St.word, RW.str, AW.str, BW.str]; decide +kernel)
  | al w => cases w <;> exact decide_eq_false (by simp only [St.word, RW.str, AW.str, BW.str]; decide +kernel)
  | put k i => exact decide_eq_false (by simp only [St.word, RW.str, AW.str, BW.str]; decide +kernel)
  | br w k y n => cases w <;> exact decide_eq_false (by simp only [St.word, RW.str, AW.str, BW.str]; decide +kernel)
  | same y n => exact decide_eq_false (by simp only [St.word, RW.str, AW.str, BW.str]; decide +kernel)
  | walk b => exact decide_eq_true rfl
theorem mt_count (xs : List Str) (y : Str) : meth .count (.list (xs.map .str)) [.str y] = some (.val (.int ((xs.countP fun z => decide (z = y) : Nat) : Int))) := by
  show (strsD (xs.map .str)).map _ = _
  rw [strsD_map]
  rfl
theorem mtOk_count (xs : List D) : mtOk .count (.list xs) = true := rfl
theorem map_len {α β : Type} (f : α → β) (xs : List α) : (xs.map f).length = xs.length := List.length_map ..
theorem ph_is_program (h : HasProg T Γ) (n : Nat) {P : Prog} (hP : OkP P) : Phi T Γ exc (n + 12) "is_program" [.val P.enc] = .ok (.val (.bool true), []) := by
  rw [phi_at h.is_program rfl]
  obtain ⟨p1, p2, p3, p4⟩ := hP.parts
  have hs := hP.strs
  have s1 := hP.size
  have t1 := ph_is_tuple_ok (exc := exc) h (n + 10) (xs := [.tuple (P.names.map .str), .tuple (encs P.steps)]) (a := 2) (b := 2) (by simp) (by simp)
  have t2 := ph_is_tuple_ok (exc := exc) h (n + 10) (xs := P.names.map .str) (a := 1) (b := 3) (by rw [map_len]; omega) (by rw [map_len]; omega)
  have hlen : lines (P.names.map PyData.str).length = true := lines_small (by rw [map_len]; omega)
  have hc := comp_map (C := ⟨Phi T Γ exc (n + 11), Γ, [], exc, Phi2 T Γ exc (n + 11)⟩) (own := [1]) (tg := .one 1) (el := .call "is_name" (.cons (.slot 1) .nil)) (g := fun _ => .bool true) (xs := P.names.map .str) (ρ := [some (.val P.enc), none, none, none, none]) [some (.val P.enc), none, none, none, none] rfl rfl (fun x hx => by
    obtain ⟨k, hk, rfl⟩ := List.mem_map.mp hx
    have q := ph_is_name (Γ := Γ) (exc := exc) h (n + 10) (p3 k hk)
    refine ⟨_, rfl, rfl, .val (.bool true), ?_, rfl⟩
    exists q)
  have ha := ph_ascends (exc := exc) h (n + 10) hs (by omega)
  rw [p4] at ha
  have hst := ph_are_steps (Γ := Γ) (exc := exc) h n hs (by omega) 4 (by omega) P.steps hP.ok (by omega)
  have hst : Phi T Γ exc (n + 11) "are_steps" [.val (.tuple (P.names.map .str)), .val (.tuple (encs P.steps)), .val (.int 4)] = .ok (.val (.bool true), []) := hst
  have hd := oks_deep P.steps 4 (by omega) hP.ok
  have hl : Phi T Γ exc (n + 11) "listed" [.val (.tuple (encs P.steps)), .val (.tuple [])] = .ok (.fresh (encL (listeds [] 0 P.steps)), []) := by
    have := ph_listed (exc := exc) h 4 (n + 5) P.steps hd (by omega) [] (by simp)
    exact this
  have e1 := listeds_len [] 0 P.steps
  have e2 := listeds_walks [] 0 P.steps 4 hP.ok
  have hlen2 : lines (encL (listeds [] 0 P.steps)).length = true := lines_small (by rw [encL_len]; omega)
  have hc2 := comp_map (C := ⟨Phi T Γ exc (n + 11), Γ, [], exc, Phi2 T Γ exc (n + 11)⟩) (own := [2, 3]) (tg := .tup [2, 3]) (el := .ix (.slot 3) (.cst (.int 0))) (g := wordD) (xs := encL (listeds [] 0 P.steps)) (ρ := [some (.val P.enc), none, none, none, none]) [some (.val P.enc), none, none, none, none] rfl rfl (fun x hx => by
    obtain ⟨q, hq, rfl⟩ := List.mem_map.mp hx
    obtain ⟨r, e⟩ := enc_word q.2
    rw [e]
    refine ⟨_, rfl, rfl, .val (.str q.2.word), ?_, rfl⟩
    exists pix_tup0)
  have hcnt : (((listeds [] 0 P.steps).map fun q => q.2.word).countP fun z => decide (z = ("walk" : Str))) = walkss P.steps := by
    rw [List.countP_map, ← e2]
    unfold wk
    congr 1
    funext q
    exact word_walk q.2
  have d1 : decide (((((listeds [] 0 P.steps).map fun q => q.2.word).map PyData.str).length : Int) ≤ 14) = true := decide_eq_true (by rw [map_len, map_len, e1]; omega)
  have d2 : decide (((walkss P.steps : Nat) : Int) ≤ 1) = true := decide_eq_true (by have := hP.walks; omega)
  unfold Prog.enc at hc hc2 ⊢
  exists F.f_is_program, t1, pix_tup0, pix_tup1, t2, walkOf, hlen, hc
  exists map_true _ _ rfl, blt_all, all_true, pix_tup0, pix_tup1, ha, h.gDEEP, hst, hl, walkOf, hlen2
  exists hc2, words_of, blt_len_lst, h.gMOST, cmp_le_int, d1, mtOk_count, mt_count, hcnt, d2
theorem ph_is_program_lst (h : HasProg T Γ) (n : Nat) (xs : List D) : Phi T Γ exc (n + 2) "is_program" [.val (.list xs)] = .ok (.val (.bool false), []) := by
  rw [phi_at h.is_program rfl]
  have t1 := ph_is_tuple_lst (exc := exc) h n xs 2 2
  exists F.f_is_program, t1
theorem ph_check_program (h : HasProg T Γ) (n : Nat) {P : Prog} (hP : OkP P) : Phi T Γ exc (n + 13) "check_program" [.val P.enc] = .ok (.val .none, []) := by
  rw [phi_at h.check_program rfl]
  have t1 := ph_is_program (exc := exc) h n hP
  exists F.f_check_program, t1
theorem ph_check_program_lst (h : HasProg T Γ) (n : Nat) (xs : List D) : Phi T Γ exc (n + 3) "check_program" [.val (.list xs)] = .exc "InvalidProgram" none := by
  rw [phi_at h.check_program rfl]
  have t1 := ph_is_program_lst (exc := exc) h n xs
  exists F.f_check_program, t1
end G
set_option maxHeartbeats 4000000
namespace G
open PySem PySem.Builtin.Str
open PyData (strOk)
open TL (tl)
def okW (k : Str) : Bool := decide (1 ≤ k.length) && decide (k.length ≤ 8) && k.cps.toList.all fun c => decide (97 ≤ c) && decide (c ≤ 122)
theorem name_okW {k : Str} (h : isNameB k = true) : okW k = true := by
  unfold isNameB at h
  unfold okW
  simp only [Bool.and_eq_true] at h ⊢
  exact ⟨⟨h.1.1.1, h.1.1.2⟩, h.2⟩
theorem okW_parts {k : Str} (h : okW k = true) : 1 ≤ (tl k).length ∧ (tl k).length ≤ 8 ∧ ∀ c ∈ tl k, 97 ≤ c ∧ c ≤ 122 := by
  unfold okW at h
  simp only [Bool.and_eq_true, decide_eq_true_eq, List.all_eq_true] at h
  rw [TL.len_tl] at h
  exact ⟨h.1.1, h.1.2, fun c hc => by simpa using h.2 c hc⟩
mutual
def St.tidy : St → Bool
  | .pl _ k => okW k
  | .al _ => true
  | .put k n => okW k && (decide (n = 0) || decide (n = 1))
  | .br _ k y n => okW k && tidys y && tidys n
  | .same y n => tidys y && tidys n
  | .walk b => tidys b
def tidys : List St → Bool
  | [] => true
  | s :: r => s.tidy && tidys r
end
theorem body_tidy {ns : List Str} (hn : ∀ x ∈ ns, okW x = true) : ∀ b : List St, b.all (okBody ns) = true → tidys b = true
  | [], _ => by simp [tidys]
  | s :: r, h => by
    simp only [List.all_cons, Bool.and_eq_true] at h
    have ih := body_tidy hn r h.2
    simp only [tidys, ih, Bool.and_true]
    cases s <;> first | (simp [okBody] at h; done) | skip
    · rename_i w k
      simp only [okBody, Bool.and_eq_true, decide_eq_true_eq] at h
      simp only [St.tidy]
      rcases List.mem_append.mp h.1.2 with h | h
      · exact hn k h
      · rw [List.mem_singleton.mp h]
        decide +kernel
    · simp [St.tidy]
mutual
theorem ok_tidy {ns : List Str} (hn : ∀ x ∈ ns, okW x = true) : ∀ (s : St) (d : Nat), s.ok ns d = true → s.tidy = true
  | .pl _ k, _, h => by
    simp only [St.ok, decide_eq_true_eq] at h
    simp only [St.tidy]
    exact hn k h
  | .al _, _, _ => by simp [St.tidy]
  | .put k _, _, h => by
    simp only [St.ok, Bool.and_eq_true, decide_eq_true_eq] at h
    simp only [St.tidy, Bool.and_eq_true]
    exact ⟨hn k h.1, h.2⟩
  | .br _ k y n, d, h => by
    simp only [St.ok, Bool.and_eq_true, decide_eq_true_eq] at h
    simp only [St.tidy, Bool.and_eq_true]
    exact ⟨⟨hn k h.1.1.1, oks_tidy hn y (d - 1) h.1.2⟩, oks_tidy hn n (d - 1) h.2⟩
  | .same y n, d, h => by
    simp only [St.ok, Bool.and_eq_true, decide_eq_true_eq] at h
    simp only [St.tidy, Bool.and_eq_true]
    exact ⟨oks_tidy hn y (d - 1) h.1.2, oks_tidy hn n (d - 1) h.2⟩
  | .walk b, d, h => by
    simp only [St.ok, Bool.and_eq_true, decide_eq_true_eq] at h
    simp only [St.tidy]
    exact body_tidy hn b h.2
theorem oks_tidy {ns : List Str} (hn : ∀ x ∈ ns, okW x = true) : ∀ (ss : List St) (d : Nat), oks ns d ss = true → tidys ss = true
  | [], _, _ => by simp [tidys]
  | s :: r, d, h => by
    simp only [oks, Bool.and_eq_true] at h
    simp only [tidys, Bool.and_eq_true]
    exact ⟨ok_tidy hn s d h.1, oks_tidy hn r d h.2⟩
end
def numS (n : Int) : Str := toString n
def St.parts : St → List D
  | .pl w k => [.str w.str, .str k]
  | .al w => [.str w.str]
  | .put k n => [.str "put", .str k, .int n]
  | .br w k _ _ => [.str w.str, .str k]
  | .same _ _ => [.str "same"]
  | .walk _ => [.str "walk"]
def St.heads : St → List Str
  | .pl w k => [w.str, k]
  | .al w => [w.str]
  | .put k n => ["put", k, numS n]
  | .br w k _ _ => [w.str, k]
  | .same _ _ => ["same"]
  | .walk _ => ["walk"]
theorem enc_parts (s : St) : s.enc = .tuple (s.parts ++ innD s) := by
  cases s <;> simp [St.enc, St.parts, innD, St.inner, blkD]
def pad (d : Nat) : Str := ⟨(rep ("  " : Str).cps.toList (d : Int)).toArray⟩
theorem tl_pad (d : Nat) : tl (pad d) = List.replicate (2 * d) 32 := by
  show (List.replicate (d : Int).toNat [32, 32]).flatten = _
  have e : ((d : Int).toNat) = d := by omega
  rw [e]
  induction d with
  | zero => rfl
  | succ d ih =>
    rw [List.replicate_succ, List.flatten_cons, ih (by omega)]
    have : 2 * (d + 1) = 2 * d + 1 + 1 := by omega
    rw [this, List.replicate_succ, List.replicate_succ]
    rfl
def headS (s : St) : Str := Txt.join " " s.heads
def lineS (d : Nat) (s : St) : Str := pad d ++ headS s
def elseS (d : Nat) : Str := pad d ++ "else"
mutual
def St.lines (d : Nat) : St → List Str
  | .br w k y n => lineS d (.br w k y n) :: (liness (d + 1) y ++ (if n.isEmpty then [] else elseS d :: liness (d + 1) n))
  | .same y n => lineS d (.same y n) :: (liness (d + 1) y ++ (if n.isEmpty then [] else elseS d :: liness (d + 1) n))
  | .walk b => lineS d (.walk b) :: liness (d + 1) b
  | .pl w k => [lineS d (.pl w k)]
  | .al w => [lineS d (.al w)]
  | .put k n => [lineS d (.put k n)]
def liness (d : Nat) : List St → List Str
  | [] => []
  | s :: r => s.lines d ++ liness d r
end
def elseL (d : Nat) (n : List St) : List Str := if n.isEmpty then [] else elseS d :: liness (d + 1) n
theorem liness_append (d : Nat) : ∀ a b : List St, liness d (a ++ b) = liness d a ++ liness d b
  | [], _ => by simp [liness]
  | s :: a, b => by
    simp only [List.cons_append, liness]
    rw [liness_append d a b, List.append_assoc]
theorem line_cases (s : St) : (s.inner = [] ∧ (∀ d, s.lines d = [lineS d s]) ∧ s.enc = .tuple s.parts) ∨
    (∃ b, s.inner = [b] ∧ s = .walk b ∧ (∀ d, s.lines d = lineS d s :: liness (d + 1) b) ∧ deeps b < s.deep ∧ sizes b < s.size ∧ (s.tidy = true → tidys b = true)) ∨
    (∃ y n, s.inner = [y, n] ∧ ((∃ w k, s = .br w k y n) ∨ s = .same y n) ∧ (∀ d, s.lines d = lineS d s :: (liness (d + 1) y ++ elseL d n)) ∧ deeps y < s.deep ∧ deeps n < s.deep ∧ sizes y + sizes n < s.size ∧ (s.tidy = true → tidys y = true ∧ tidys n = true)) := by
  cases s with
  | pl w k => exact .inl ⟨rfl, fun d => by simp [St.lines], by simp [St.enc, St.parts]⟩
  | al w => exact .inl ⟨rfl, fun d => by simp [St.lines], by simp [St.enc, St.parts]⟩
  | put k i => exact .inl ⟨rfl, fun d => by simp [St.lines], by simp [St.enc, St.parts]⟩
  | br w k y n => exact .inr (.inr ⟨y, n, rfl, .inl ⟨w, k, rfl⟩, fun d => by simp only [St.lines, elseL], by simp only [St.deep]; omega, by simp only [St.deep]; omega, by simp only [St.size]; omega, fun h => by
      simp only [St.tidy, Bool.and_eq_true] at h
      exact ⟨h.1.2, h.2⟩⟩)
  | same y n => exact .inr (.inr ⟨y, n, rfl, .inr rfl, fun d => by simp only [St.lines, elseL], by simp only [St.deep]; omega, by simp only [St.deep]; omega, by simp only [St.size]; omega, fun h => by
      simp only [St.tidy, Bool.and_eq_true] at h
      exact h⟩)
  | walk b => exact .inr (.inl ⟨b, rfl, rfl, fun d => by simp only [St.lines], by simp only [St.deep]; omega, by simp only [St.size]; omega, fun h => by
      simpa only [St.tidy] using h⟩)
theorem okW_strOk {k : Str} (h : okW k = true) : strOk k = true := by
  have := okW_parts h
  unfold PyData.strOk
  rw [Array.all_eq_true']
  intro c hc
  have := this.2.2 c (by simpa using hc)
  simp
  omega
def okC (c : Nat) : Prop := (97 ≤ c ∧ c ≤ 122) ∨ c = 48 ∨ c = 49
structure OkWd (k : Str) : Prop where
  len : 1 ≤ (tl k).length ∧ (tl k).length ≤ 8
  sgn : ∀ c ∈ tl k, okC c
theorem okW_wd {k : Str} (h : okW k = true) : OkWd k := by
  have := okW_parts h
  exact ⟨⟨this.1, this.2.1⟩, fun c hc => .inl (this.2.2 c hc)⟩
theorem rw_ok (w : RW) : okW w.str = true := by cases w <;> decide +kernel
theorem aw_ok (w : AW) : okW w.str = true := by cases w <;> decide +kernel
theorem bw_ok (w : BW) : okW w.str = true := by cases w <;> decide +kernel
theorem num_ok {n : Int} (h : n = 0 ∨ n = 1) : OkWd (numS n) := by
  rcases h with rfl | rfl
  · have e : tl (numS 0) = [48] := by decide +kernel
    exact ⟨by rw [e]; decide, fun c hc => by rw [e] at hc; simp at hc; exact .inr (.inl hc)⟩
  · have e : tl (numS 1) = [49] := by decide +kernel
    exact ⟨by rw [e]; decide, fun c hc => by rw [e] at hc; simp at hc; exact .inr (.inr hc)⟩
theorem head_word (s : St) : ∃ r, s.heads = s.word :: r ∧ r.length ≤ 2 ∧ okW s.word = true ∧ s.word ≠ "else" := by
  cases s with
  | pl w k => exact ⟨[k], rfl, by simp, rw_ok w, by cases w <;> (simp only [St.word, RW.str]; decide +kernel)⟩
  | al w => exact ⟨[], rfl, by simp, aw_ok w, by cases w <;> (simp only [St.word, AW.str]; decide +kernel)⟩
  | put k i => exact ⟨[k, numS i], rfl, by simp, by simp only [St.word]; decide +kernel, by simp only [St.word]; decide +kernel⟩
  | br w k y n => exact ⟨[k], rfl, by simp, bw_ok w, by cases w <;> (simp only [St.word, BW.str]; decide +kernel)⟩
  | same y n => exact ⟨[], rfl, by simp, by simp only [St.word]; decide +kernel, by simp only [St.word]; decide +kernel⟩
  | walk b => exact ⟨[], rfl, by simp, by simp only [St.word]; decide +kernel, by simp only [St.word]; decide +kernel⟩
theorem heads_ok {s : St} (h : s.tidy = true) : ∀ k ∈ s.heads, OkWd k := by
  intro k hk
  cases s with
  | pl w j =>
    simp only [St.tidy] at h
    simp only [St.heads, List.mem_cons, List.mem_nil_iff, or_false] at hk
    rcases hk with rfl | rfl
    · exact okW_wd (rw_ok w)
    · exact okW_wd h
  | al w =>
    simp only [St.heads, List.mem_cons, List.mem_nil_iff, or_false] at hk
    rw [hk]
    exact okW_wd (aw_ok w)
  | put j i =>
    simp only [St.tidy, Bool.and_eq_true, Bool.or_eq_true, decide_eq_true_eq] at h
    simp only [St.heads, List.mem_cons, List.mem_nil_iff, or_false] at hk
    rcases hk with rfl | rfl | rfl
    · exact okW_wd (by decide +kernel)
    · exact okW_wd h.1
    · exact num_ok h.2
  | br w j y n =>
    simp only [St.tidy, Bool.and_eq_true] at h
    simp only [St.heads, List.mem_cons, List.mem_nil_iff, or_false] at hk
    rcases hk with rfl | rfl
    · exact okW_wd (bw_ok w)
    · exact okW_wd h.1.1
  | same y n =>
    simp only [St.heads, List.mem_cons, List.mem_nil_iff, or_false] at hk
    rw [hk]
    exact okW_wd (by decide +kernel)
  | walk b =>
    simp only [St.heads, List.mem_cons, List.mem_nil_iff, or_false] at hk
    rw [hk]
    exact okW_wd (by decide +kernel)
theorem tl_sp : tl (" " : Str) = [32] := by decide +kernel
theorem tl_nl : tl ("\n" : Str) = [10] := by decide +kernel
theorem tl_headS (s : St) : tl (headS s) = TL.joinL [32] (s.heads.map tl) := by
  unfold headS
  rw [TL.join_eq, TL.tl_join, tl_sp]
theorem joinL_sgn : ∀ {ws : List (List Nat)}, (∀ w ∈ ws, ∀ c ∈ w, okC c) → ∀ c ∈ TL.joinL [32] ws, okC c ∨ c = 32
  | [], _, c, hc => by simp [TL.joinL] at hc
  | [w], h, c, hc => .inl (h w (by simp) c hc)
  | w :: v :: r, h, c, hc => by
    have e : TL.joinL [32] (w :: v :: r) = w ++ ([32] ++ TL.joinL [32] (v :: r)) := rfl
    rw [e] at hc
    rcases List.mem_append.mp hc with hc | hc
    · exact .inl (h w (by simp) c hc)
    · rcases List.mem_append.mp hc with hc | hc
      · exact .inr (by simpa using hc)
      · exact joinL_sgn (fun x hx => h x (List.mem_cons_of_mem _ hx)) c hc
theorem joinL_len : ∀ {ws : List (List Nat)}, (∀ w ∈ ws, w.length ≤ 8) → (TL.joinL [32] ws).length ≤ 9 * ws.length
  | [], _ => by simp [TL.joinL]
  | [w], h => by
    have := h w (by simp)
    simp only [TL.joinL, List.length_cons, List.length_nil]
    omega
  | w :: v :: r, h => by
    have e : TL.joinL [32] (w :: v :: r) = w ++ ([32] ++ TL.joinL [32] (v :: r)) := rfl
    have := h w (by simp)
    have ih := joinL_len (ws := v :: r) fun x hx => h x (List.mem_cons_of_mem _ hx)
    rw [e]
    simp only [List.length_append, List.length_cons, List.length_nil] at ih ⊢
    omega
theorem headS_facts {s : St} (h : s.tidy = true) : (tl (headS s)).length ≤ 27 ∧ (∀ c ∈ tl (headS s), okC c ∨ c = 32) ∧ (∃ c r, tl (headS s) = c :: r ∧ 97 ≤ c ∧ c ≤ 122) ∧ headS s ≠ "else" := by
  have ho := heads_ok h
  obtain ⟨r, e1, e2, e3, e4⟩ := head_word s
  have hl : s.heads.length ≤ 3 := by rw [e1]; simp; omega
  refine ⟨?_, ?_, ?_, ?_⟩
  · rw [tl_headS]
    have := joinL_len (ws := s.heads.map tl) fun w hw => by
      obtain ⟨k, hk, rfl⟩ := List.mem_map.mp hw
      exact (ho k hk).len.2
    rw [List.length_map] at this
    omega
  · rw [tl_headS]
    exact joinL_sgn fun w hw => by
      obtain ⟨k, hk, rfl⟩ := List.mem_map.mp hw
      exact (ho k hk).sgn
  · rw [tl_headS, e1]
    have hw := okW_parts e3
    cases ew : tl s.word with
    | nil => rw [ew] at hw; simp at hw
    | cons c t =>
      have hc := hw.2.2 c (by rw [ew]; simp)
      cases r with
      | nil => exact ⟨c, t, by simp [TL.joinL, ew], hc.1, hc.2⟩
      | cons v r => exact ⟨c, t ++ ([32] ++ TL.joinL [32] ((v :: r).map tl)), by simp [TL.joinL, ew], hc.1, hc.2⟩
  · intro e
    have e5 : tl (headS s) = tl ("else" : Str) := by rw [e]
    have e6 : tl ("else" : Str) = [101, 108, 115, 101] := by decide +kernel
    rw [tl_headS, e1, e6] at e5
    cases r with
    | nil =>
      apply e4
      apply TL.ext_tl
      rw [e6]
      simpa [TL.joinL] using e5
    | cons v r =>
      have : (32 : Nat) ∈ ([101, 108, 115, 101] : List Nat) := by
        rw [← e5]
        have e : TL.joinL [32] ((s.word :: v :: r).map tl) = tl s.word ++ ([32] ++ TL.joinL [32] ((v :: r).map tl)) := rfl
        rw [e]
        simp
      simp at this
structure IsLn (j : Nat) (x l : Str) : Prop where
  eq : l = pad j ++ x
  hd : ∃ c r, tl x = c :: r ∧ 97 ≤ c ∧ c ≤ 122
  sg : ∀ c ∈ tl x, okC c ∨ c = 32
  len : (tl x).length ≤ 40
theorem isln_line {s : St} (h : s.tidy = true) (d : Nat) : IsLn d (headS s) (lineS d s) := by
  obtain ⟨h1, h2, h3, _⟩ := headS_facts h
  exact ⟨rfl, h3, h2, by omega⟩
theorem isln_else (d : Nat) : IsLn d "else" (elseS d) := by
  have e6 : tl ("else" : Str) = [101, 108, 115, 101] := by decide +kernel
  refine ⟨rfl, ⟨101, [108, 115, 101], e6, by omega, by omega⟩, fun c hc => ?_, by rw [e6]; decide⟩
  rw [e6] at hc
  simp at hc
  exact .inl (.inl (by omega))
theorem IsLn.tl {j : Nat} {x l : Str} (h : IsLn j x l) : TL.tl l = List.replicate (2 * j) 32 ++ TL.tl x := by
  rw [h.eq, TL.tl_append, tl_pad]
theorem IsLn.sgs {j : Nat} {x l : Str} (h : IsLn j x l) : ∀ c ∈ TL.tl l, okC c ∨ c = 32 := fun c hc => by
  rw [h.tl] at hc
  rcases List.mem_append.mp hc with hc | hc
  · exact .inr (List.eq_of_mem_replicate hc)
  · exact h.sg c hc
theorem sgs_strOk {l : Str} (h : ∀ c ∈ tl l, okC c ∨ c = 32) : strOk l = true := by
  unfold PyData.strOk
  rw [Array.all_eq_true']
  intro c hc
  have := h c (by simpa using hc)
  unfold okC at this
  simp
  omega
theorem IsLn.ok {j : Nat} {x l : Str} (h : IsLn j x l) : strOk l = true := sgs_strOk h.sgs
theorem IsLn.okx {j : Nat} {x l : Str} (h : IsLn j x l) : strOk x = true := sgs_strOk h.sg
theorem IsLn.ll {j : Nat} {x l : Str} (h : IsLn j x l) : l.length ≤ 2 * j + 40 := by
  rw [TL.len_tl, h.tl]
  have := h.len
  simp only [List.length_append, List.length_replicate]
  omega
theorem starts_eq (x y : Str) (hy : tl y ≠ []) : Txt.startswith x y = TL.pre (tl y) (tl x) := by
  have := TL.at_iff (x := x) hy 0
  rw [List.drop_zero] at this
  unfold Txt.startswith
  rw [Bool.eq_iff_iff, ← this]
  show (decide (0 + y.length ≤ x.length) && subAt x y 0) = true ↔ 0 + y.length ≤ x.length ∧ subAt x y 0 = true
  rw [Bool.and_eq_true, decide_eq_true_eq]
theorem starts_emp (x : Str) : Txt.startswith x (pad 0) = true := by
  unfold Txt.startswith
  rw [PySem.StrLaws.subAt_eq]
  have e : (pad 0).length = 0 := by decide +kernel
  have e2 : (pad 0).cps.toList = [] := by decide +kernel
  rw [e, e2]
  simp
theorem pad_ne {d : Nat} (h : 0 < d) : tl (pad d) ≠ [] := by
  rw [tl_pad]
  intro e
  have := congrArg List.length e
  simp at this
  omega
theorem starts_same {d : Nat} {x l : Str} (h : IsLn d x l) : Txt.startswith l (pad d) = true := by
  by_cases q : d = 0
  · subst q
    exact starts_emp l
  · rw [starts_eq l (pad d) (pad_ne (by omega)), tl_pad, h.tl]
    exact TL.pre_self _ _
theorem starts_less {j d : Nat} {x l : Str} (h : IsLn j x l) (hj : j < d) : Txt.startswith l (pad d) = false := by
  rw [starts_eq l (pad d) (pad_ne (by omega)), tl_pad, h.tl]
  obtain ⟨c, r, e, hc, _⟩ := h.hd
  rw [e]
  unfold TL.pre
  rw [beq_eq_false_iff_ne, List.length_replicate]
  intro z
  have z1 := congrArg (fun w => w[2 * j]?) z
  simp only [List.getElem?_take, List.getElem?_replicate] at z1
  rw [if_pos (by omega), if_pos (by omega), List.getElem?_append_right (by simp)] at z1
  simp at z1
  omega
theorem cut_pad {d : Nat} {x l : Str} (h : IsLn d x l) : (⟨(cut l.cps.toList (some ((2 * d : Nat) : Int)) none).toArray⟩ : Str) = x := by
  apply TL.ext_tl
  show (cut (tl l) (some ((2 * d : Nat) : Int)) none) = _
  rw [cut_drop, h.tl]
  exact List.drop_left' (by simp)
def Stop (d : Nat) (L : List Str) : Prop := L = [] ∨ ∃ j x l r, L = l :: r ∧ IsLn j x l ∧ j < d ∧ j ≤ 1000
theorem elseL_nil (d : Nat) : elseL d [] = [] := rfl
theorem elseL_ne {d : Nat} {n : List St} (h : n ≠ []) : elseL d n = elseS d :: liness (d + 1) n := by
  cases n with
  | nil => exact absurd rfl h
  | cons a n => rfl
theorem lines_hd (s : St) (d : Nat) : ∃ r, s.lines d = lineS d s :: r := by
  rcases line_cases s with ⟨_, h, _⟩ | ⟨_, _, _, h, _⟩ | ⟨_, _, _, _, h, _⟩ <;> exact ⟨_, h d⟩
theorem stop_more {d : Nat} {ss : List St} {rest : List Str} (h : tidys ss = true) (hd : d ≤ 1000) (hs : Stop d rest) : Stop (d + 1) (liness d ss ++ rest) := by
  cases ss with
  | nil =>
    rcases hs with rfl | ⟨j, x, l, r, e1, e2, e3, e4⟩
    · exact .inl (by simp [liness])
    · exact .inr ⟨j, x, l, r, by simp [liness, e1], e2, by omega, e4⟩
  | cons s ss =>
    simp only [tidys, Bool.and_eq_true] at h
    obtain ⟨r, e⟩ := lines_hd s d
    exact .inr ⟨d, headS s, lineS d s, r ++ liness d ss ++ rest, by simp [liness, e], isln_line h.1 d, by omega, hd⟩
theorem stop_else {d : Nat} {n ss : List St} {rest : List Str} (h : tidys ss = true) (hd : d ≤ 1000) (hs : Stop d rest) : Stop (d + 1) (elseL d n ++ (liness d ss ++ rest)) := by
  cases n with
  | nil => exact stop_more h hd hs
  | cons a n => exact .inr ⟨d, "else", elseS d, liness (d + 1) (a :: n) ++ (liness d ss ++ rest), by rw [elseL_ne (by simp)]; simp, isln_else d, by omega, hd⟩
theorem not_else {d : Nat} {ss : List St} {rest : List Str} (h : tidys ss = true) (hs : Stop d rest) {l : Str} {r : List Str} (e : liness d ss ++ rest = l :: r) : l ≠ elseS d ∧ ∃ j x, IsLn j x l ∧ j ≤ d := by
  cases ss with
  | nil =>
    rcases hs with rfl | ⟨j, x, l', r', e1, e2, e3, e4⟩
    · simp [liness] at e
    · rw [e1] at e
      simp only [liness, List.nil_append, List.cons.injEq] at e
      rw [← e.1]
      refine ⟨fun z => ?_, j, x, e2, by omega⟩
      have q := starts_less e2 e3
      rw [z, starts_same (isln_else d)] at q
      cases q
  | cons s ss =>
    simp only [tidys, Bool.and_eq_true] at h
    obtain ⟨r', e1⟩ := lines_hd s d
    simp only [liness, e1, List.cons_append, List.cons.injEq] at e
    rw [← e.1]
    refine ⟨fun z => ?_, d, headS s, isln_line h.1 d, Nat.le_refl d⟩
    have q := congrArg TL.tl z
    rw [(isln_line h.1 d).tl, (isln_else d).tl] at q
    exact (headS_facts h.1).2.2.2 (TL.ext_tl (List.append_cancel_left q))
theorem all_lines : ∀ (e : Nat) (ss : List St) (d : Nat), deeps ss ≤ e → tidys ss = true → ∀ l ∈ liness d ss, ∃ j x, IsLn j x l ∧ j ≤ d + e := by
  intro e
  induction e with
  | zero =>
    intro ss d hd _ l hl
    cases ss with
    | nil => simp [liness] at hl
    | cons s ss =>
      have : 1 ≤ s.deep := by cases s <;> simp [St.deep] <;> omega
      simp only [deeps] at hd
      omega
  | succ e ih =>
    intro ss d hd ht l hl
    induction ss with
    | nil => simp [liness] at hl
    | cons s ss ih2 =>
      simp only [deeps] at hd
      simp only [tidys, Bool.and_eq_true] at ht
      simp only [liness] at hl
      rcases List.mem_append.mp hl with hl | hl
      · rcases line_cases s with ⟨_, h, _⟩ | ⟨b, _, _, h, h1, _, h2⟩ | ⟨y, n, _, _, h, h1, h2, _, h3⟩
        · rw [h d] at hl
          rw [List.mem_singleton.mp hl]
          exact ⟨d, _, isln_line ht.1 d, by omega⟩
        · rw [h d] at hl
          rcases List.mem_cons.mp hl with rfl | hl
          · exact ⟨d, _, isln_line ht.1 d, by omega⟩
          · obtain ⟨j, x, q1, q2⟩ := ih b (d + 1) (by omega) (h2 ht.1) l hl
            exact ⟨j, x, q1, by omega⟩
        · rw [h d] at hl
          rcases List.mem_cons.mp hl with rfl | hl
          · exact ⟨d, _, isln_line ht.1 d, by omega⟩
          · rcases List.mem_append.mp hl with hl | hl
            · obtain ⟨j, x, q1, q2⟩ := ih y (d + 1) (by omega) (h3 ht.1).1 l hl
              exact ⟨j, x, q1, by omega⟩
            · by_cases hn : n = []
              · rw [hn, elseL_nil] at hl
                cases hl
              · rw [elseL_ne hn] at hl
                rcases List.mem_cons.mp hl with rfl | hl
                · exact ⟨d, _, isln_else d, by omega⟩
                · obtain ⟨j, x, q1, q2⟩ := ih n (d + 1) (by omega) (h3 ht.1).2 l hl
                  exact ⟨j, x, q1, by omega⟩
      · exact ih2 (by omega) ht.2 hl
theorem liness_len : ∀ (e : Nat) (ss : List St) (d : Nat), deeps ss ≤ e → (liness d ss).length ≤ 2 * sizes ss := by
  intro e
  induction e with
  | zero =>
    intro ss d hd
    cases ss with
    | nil => simp [liness]
    | cons s ss =>
      have : 1 ≤ s.deep := by cases s <;> simp [St.deep] <;> omega
      simp only [deeps] at hd
      omega
  | succ e ih =>
    intro ss d hd
    induction ss with
    | nil => simp [liness]
    | cons s ss ih2 =>
      simp only [deeps] at hd
      have := ih2 (by omega)
      have hz : 1 ≤ s.size := by cases s <;> simp [St.size] <;> omega
      simp only [liness, sizes, List.length_append]
      rcases line_cases s with ⟨_, h, _⟩ | ⟨b, _, _, h, h1, h0, h2⟩ | ⟨y, n, _, _, h, h1, h2, h0, h3⟩
      · rw [h d, List.length_singleton]
        omega
      · rw [h d, List.length_cons]
        have := ih b (d + 1) (by omega)
        omega
      · rw [h d, List.length_cons, List.length_append]
        have := ih y (d + 1) (by omega)
        have := ih n (d + 1) (by omega)
        have : (elseL d n).length ≤ 1 + (liness (d + 1) n).length := by
          by_cases hn : n = []
          · rw [hn, elseL_nil]; simp
          · rw [elseL_ne hn, List.length_cons]; omega
        omega
theorem split_head {s : St} (h : s.tidy = true) : Txt.split (headS s) " " = s.heads := by
  obtain ⟨r, e1, _⟩ := head_word s
  refine TL.split_join (s := 32) (S := []) tl_sp (by decide +kernel) (by rw [e1]; simp) fun k hk hc => ?_
  have := (heads_ok h k hk).sgn 32 hc
  unfold okC at this
  omega
end G
set_option maxHeartbeats 4000000
namespace G
open PySem
open PyData (strOk)
open TL (tl)
variable {T : Str → Option MF} {Γ : Str → Option D} {exc : Str → Bool}
structure HasTxt (T : Str → Option MF) : Prop where
  lines_of : T "lines_of" = some F.f_lines_of
  text_of : T "text_of" = some F.f_text_of
  is_line : T "is_line" = some F.f_is_line
  block_at : T "block_at" = some F.f_block_at
  parsed : T "parsed" = some F.f_parsed
  program_text : T "program_text" = some F.f_program_text
  read_program : T "read_program" = some F.f_read_program
theorem bin_mul_pad {d : Nat} (h : d ≤ 1000) : bin .mul (.str "  ") (.int d) = some (.val (.str (pad d))) := by
  have e : ("  " : Str).length = 2 := by decide +kernel
  show (if 0 ≤ (d : Int) ∧ (d : Int) ≤ 1000 ∧ ("  " : Str).length ≤ 1000 then some _ else none) = _
  rw [if_pos ⟨by omega, by omega, by rw [e]; omega⟩]
  rfl
def strD : D → D
  | .int i => .str (toString i)
  | x => x
theorem parts_heads (s : St) : s.parts.map strD = s.heads.map .str := by
  cases s <;> rfl
theorem parts_len (s : St) : s.parts.length = s.heads.length := by
  have := congrArg List.length (parts_heads s)
  simpa using this
theorem heads_len (s : St) : 1 ≤ s.heads.length ∧ s.heads.length ≤ 3 := by
  cases s <;> simp [St.heads]
theorem parts_cases {s : St} (h : s.tidy = true) : ∀ x ∈ s.parts, (∃ k, x = .str k ∧ okW k = true) ∨ ∃ i : Int, x = .int i ∧ (i = 0 ∨ i = 1) := by
  intro x hx
  cases s with
  | pl w k =>
    simp only [St.tidy] at h
    simp only [St.parts, List.mem_cons, List.mem_nil_iff, or_false] at hx
    rcases hx with rfl | rfl
    · exact .inl ⟨_, rfl, rw_ok w⟩
    · exact .inl ⟨_, rfl, h⟩
  | al w =>
    simp only [St.parts, List.mem_cons, List.mem_nil_iff, or_false] at hx
    exact .inl ⟨_, hx, aw_ok w⟩
  | put k i =>
    simp only [St.tidy, Bool.and_eq_true, Bool.or_eq_true, decide_eq_true_eq] at h
    simp only [St.parts, List.mem_cons, List.mem_nil_iff, or_false] at hx
    rcases hx with rfl | rfl | rfl
    · exact .inl ⟨_, rfl, by decide +kernel⟩
    · exact .inl ⟨_, rfl, h.1⟩
    · exact .inr ⟨_, rfl, h.2⟩
  | br w k y n =>
    simp only [St.tidy, Bool.and_eq_true] at h
    simp only [St.parts, List.mem_cons, List.mem_nil_iff, or_false] at hx
    rcases hx with rfl | rfl
    · exact .inl ⟨_, rfl, bw_ok w⟩
    · exact .inl ⟨_, rfl, h.1.1⟩
  | same y n =>
    simp only [St.parts, List.mem_cons, List.mem_nil_iff, or_false] at hx
    exact .inl ⟨_, hx, by decide +kernel⟩
  | walk b =>
    simp only [St.parts, List.mem_cons, List.mem_nil_iff, or_false] at hx
    exact .inl ⟨_, hx, by decide +kernel⟩
theorem blt_str_int {i : Int} (h : i = 0 ∨ i = 1) : blt .str [.int i] = some (.val (.str (toString i))) := by
  show (if i.natAbs.log2 < 1920 then some _ else none) = _
  rw [if_pos (by rcases h with rfl | rfl <;> decide)]
theorem blt_str_str (s : Str) : blt .str [.str s] = some (.val (.str s)) := rfl
theorem mtOk_join (s : Str) : mtOk .join (.str s) = true := rfl
theorem mtOk_split (s : Str) : mtOk .split (.str s) = true := rfl
theorem mtOk_starts (s : Str) : mtOk .startswith (.str s) = true := rfl
theorem sum_le {α : Type} (f : α → Nat) (b : Nat) : ∀ xs : List α, (∀ x ∈ xs, f x ≤ b) → (xs.map f).sum ≤ b * xs.length
  | [], _ => by simp
  | x :: xs, h => by
    have := sum_le f b xs fun y hy => h y (List.mem_cons_of_mem _ hy)
    have := h x (by simp)
    simp only [List.map_cons, List.sum_cons, List.length_cons, Nat.mul_add]
    omega
theorem mt_join_l (t : Str) {xs : List Str} (h : (xs.map (·.length)).sum + xs.length * t.length ≤ 16777216) : meth .join (.str t) [.list (xs.map .str)] = some (.val (.str (Txt.join t xs))) := by
  show (strsD (xs.map .str)).bind _ = _
  rw [strsD_map]
  exact if_pos h
theorem mt_join_t (t : Str) {xs : List Str} (h : (xs.map (·.length)).sum + xs.length * t.length ≤ 16777216) : meth .join (.str t) [.tuple (xs.map .str)] = some (.val (.str (Txt.join t xs))) := by
  show (strsD (xs.map .str)).bind _ = _
  rw [strsD_map]
  exact if_pos h
theorem len_sp : (" " : Str).length = 1 := by decide +kernel
theorem len_nl : ("\n" : Str).length = 1 := by decide +kernel
theorem heads_sum {s : St} (h : s.tidy = true) : (s.heads.map (·.length)).sum + s.heads.length * (" " : Str).length ≤ 16777216 := by
  have h1 := sum_le (fun k : Str => k.length) 8 s.heads fun k hk => by
    show k.length ≤ 8
    rw [TL.len_tl]
    exact (heads_ok h k hk).len.2
  have := heads_len s
  rw [len_sp]
  omega
theorem join_head {s : St} (h : s.tidy = true) : meth .join (.str " ") [.list (s.parts.map strD)] = some (.val (.str (headS s))) := by
  rw [parts_heads]
  exact mt_join_l " " (heads_sum h)
theorem line_big2 : 16777216 = sizeLine := (rfl)
theorem add_line {s : St} (h : s.tidy = true) {d : Nat} (hd : d ≤ 1000) : bin .add (.str (pad d)) (.str (headS s)) = some (.val (.str (lineS d s))) := by
  refine bin_add_str ?_
  rw [TL.len_tl, TL.len_tl, tl_pad, List.length_replicate]
  have := (headS_facts h).1
  have : (10000 : Nat) ≤ sizeLine := by decide
  omega
theorem len_else : ("else" : Str).length = 4 := by decide +kernel
theorem add_else {d : Nat} (hd : d ≤ 1000) : bin .add (.str (pad d)) (.str "else") = some (.val (.str (elseS d))) := by
  refine bin_add_str ?_
  rw [len_else, TL.len_tl, tl_pad, List.length_replicate]
  have : (10000 : Nat) ≤ sizeLine := by decide
  omega
mutual
theorem sh_enc : ∀ (s : St), s.tidy = true → Sh (2 * s.deep) s.enc
  | .pl w k, h => by
    simp only [St.tidy] at h
    simp only [St.enc, St.deep]
    exact sh_tup.mpr fun x hx => by
      simp only [List.mem_cons, List.mem_nil_iff, or_false] at hx
      rcases hx with rfl | rfl
      · exact sh_str _ (okW_strOk (rw_ok w))
      · exact sh_str _ (okW_strOk h)
  | .al w, _ => by
    simp only [St.enc, St.deep]
    exact sh_tup.mpr fun x hx => by
      simp only [List.mem_cons, List.mem_nil_iff, or_false] at hx
      rw [hx]
      exact sh_str _ (okW_strOk (aw_ok w))
  | .put k n, h => by
    simp only [St.tidy, Bool.and_eq_true] at h
    simp only [St.enc, St.deep]
    exact sh_tup.mpr fun x hx => by
      simp only [List.mem_cons, List.mem_nil_iff, or_false] at hx
      rcases hx with rfl | rfl | rfl
      · exact sh_str _ (by decide +kernel)
      · exact sh_str _ (okW_strOk h.1)
      · exact sh_int _ _
  | .br w k y n, h => by
    simp only [St.tidy, Bool.and_eq_true] at h
    have h1 := sh_encs y h.1.2
    have h2 := sh_encs n h.2
    simp only [St.enc, St.deep]
    have e : 2 * (1 + max (deeps y) (deeps n)) = 2 * max (deeps y) (deeps n) + 1 + 1 := by omega
    rw [e]
    exact sh_tup.mpr fun x hx => by
      simp only [List.mem_cons, List.mem_nil_iff, or_false] at hx
      rcases hx with rfl | rfl | rfl | rfl
      · exact sh_str _ (okW_strOk (bw_ok w))
      · exact sh_str _ (okW_strOk h.1.1)
      · exact sh_tup.mpr fun z hz => (h1 z hz).mono (by omega)
      · exact sh_tup.mpr fun z hz => (h2 z hz).mono (by omega)
  | .same y n, h => by
    simp only [St.tidy, Bool.and_eq_true] at h
    have h1 := sh_encs y h.1
    have h2 := sh_encs n h.2
    simp only [St.enc, St.deep]
    have e : 2 * (1 + max (deeps y) (deeps n)) = 2 * max (deeps y) (deeps n) + 1 + 1 := by omega
    rw [e]
    exact sh_tup.mpr fun x hx => by
      simp only [List.mem_cons, List.mem_nil_iff, or_false] at hx
      rcases hx with rfl | rfl | rfl
      · exact sh_str _ (by decide +kernel)
      · exact sh_tup.mpr fun z hz => (h1 z hz).mono (by omega)
      · exact sh_tup.mpr fun z hz => (h2 z hz).mono (by omega)
  | .walk b, h => by
    simp only [St.tidy] at h
    have h1 := sh_encs b h
    simp only [St.enc, St.deep]
    have e : 2 * (1 + deeps b) = 2 * deeps b + 1 + 1 := by omega
    rw [e]
    exact sh_tup.mpr fun x hx => by
      simp only [List.mem_cons, List.mem_nil_iff, or_false] at hx
      rcases hx with rfl | rfl
      · exact sh_str _ (by decide +kernel)
      · exact sh_tup.mpr fun z hz => h1 z hz
theorem sh_encs : ∀ (ss : List St), tidys ss = true → ∀ x ∈ encs ss, Sh (2 * deeps ss) x
  | [], _, x, hx => by simp [encs] at hx
  | s :: r, h, x, hx => by
    simp only [tidys, Bool.and_eq_true] at h
    have h1 := sh_enc s h.1
    have h2 := sh_encs r h.2
    simp only [encs, List.mem_cons] at hx
    simp only [deeps]
    rcases hx with rfl | hx
    · exact h1.mono (by omega)
    · exact (h2 x hx).mono (by omega)
end
theorem shaped_encs {ss : List St} (h : tidys ss = true) (hd : deeps ss ≤ 20) : SeqAt.shaped (.tuple (encs ss)) = true :=
  (sh_tup (n := 40).mpr fun x hx => (sh_encs ss h x hx).mono (by omega)).shaped (by omega)
theorem shaped_nil : SeqAt.shaped (.tuple []) = true := by decide +kernel
theorem ne_empty {ss : List St} (h : tidys ss = true) (hd : deeps ss ≤ 20) : cmp .ne (.tuple (encs ss)) (.tuple []) = some (!ss.isEmpty) := by
  rw [cmp_ne (shaped_encs h hd) shaped_nil]
  cases ss with
  | nil => rfl
  | cons s ss => rfl
theorem app_cons {α : Type} (a : List α) (x : α) (b : List α) : a ++ [x] ++ b = a ++ x :: b := by simp
def LinesR (T : Str → Option MF) (Γ : Str → Option D) (exc : Str → Bool) (f : Str) (m e : Nat) : Prop := ∀ ss, deeps ss ≤ e → tidys ss = true → sizes ss ≤ 1000 → ∀ d : Nat, d + e ≤ 1000 → Phi T Γ exc m f [.val (.tuple (encs ss)), .val (.int d)] = .ok (.fresh ((liness d ss).map .str), [])
theorem len_enc (s : St) : bin .sub (.int (s.parts ++ innD s : List D).length) (.int (innD s).length) = some (.val (.int (s.parts.length : Nat))) := by
  rw [bin_sub_int, List.length_append]
  have : (((s.parts.length + (innD s).length : Nat) : Int) - ((innD s).length : Nat)) = (s.parts.length : Nat) := by omega
  rw [this]
theorem cut_parts (s : St) : cut (s.parts ++ innD s) none (some (s.parts.length : Nat)) = s.parts := by
  rw [cut_take]
  exact List.take_left' rfl
theorem dec01 : decide (((0 : Nat) : Int) = 1) = false := by decide
theorem dec11 : decide (((1 : Nat) : Int) = 1) = true := by decide
theorem lines_more (d : Nat) (pre : List St) (s : St) : (liness d (pre ++ [s])).map PyData.str = (liness d pre).map .str ++ (s.lines d).map .str := by
  rw [liness_append, List.map_append]
  simp [liness]
theorem ph_lines_step (h : HasProg T Γ) (ht : HasTxt T) (n e : Nat) (he : e ≤ 20) (IH : ∀ e', e' < e → LinesR T Γ exc "lines_of" (n + 1) e') : LinesR T Γ exc "lines_of" (n + 2) e := by
  intro ss hd htd hz d hde
  have big : (100000 : Nat) ≤ sizeLine := by decide
  obtain ⟨ρ', h1, h2⟩ := loop_run (C := ⟨Phi T Γ exc (n + 1), Γ, [], exc, Phi2 T Γ exc (n + 1)⟩) (cl := [4, 5, 7, 8]) (tg := .one 4) (body := (F.f_lines_of.body.at 2).body)
    (P := fun xs ρ => ∃ pre r, ss = pre ++ r ∧ xs = encs r ∧ ρ = [some (.val (.tuple (encs ss))), some (.val (.int d)), some (.val (.str (pad d))), some (.own ((liness d pre).map .str)), none, none, none, none, none]) (by
    intro x rest ρ ⟨pre, r, es, er, eρ⟩
    subst eρ
    cases r with
    | nil => simp [encs] at er
    | cons s r =>
      simp only [encs, List.cons.injEq] at er
      obtain ⟨rfl, rfl⟩ := er
      have hsub : s.deep ≤ e ∧ s.tidy = true ∧ sizes pre + (s.size + sizes r) ≤ 1000 ∧ deeps pre ≤ e := by
        rw [es] at hd htd hz
        clear es
        refine ⟨?_, ?_, by rw [sizes_append] at hz; simpa [sizes] using hz, ?_⟩
        · clear htd hz
          induction pre with
          | nil => simp only [List.nil_append, deeps] at hd; omega
          | cons a pre ih => simp only [List.cons_append, deeps] at hd; exact ih (by omega)
        · clear hd hz
          induction pre with
          | nil => simp only [List.nil_append, tidys, Bool.and_eq_true] at htd; exact htd.1
          | cons a pre ih => simp only [List.cons_append, tidys, Bool.and_eq_true] at htd; exact ih htd.2
        · clear htd hz
          induction pre with
          | nil => simp [deeps]
          | cons a pre ih => simp only [List.cons_append, deeps] at hd ⊢; have := ih (by omega); omega
      obtain ⟨hds, hts, hsz, hdp⟩ := hsub
      have l1 := liness_len e pre d hdp
      have q1 : ((liness d pre).map PyData.str).length < sizeLine := by rw [map_len]; omega
      have q2 := ph_blocks (exc := exc) h n s
      have e0 := lines_more d pre s
      have hlen : lines s.parts.length = true := lines_small (by rw [parts_len]; have := heads_len s; omega)
      have hc := comp_map (C := ⟨Phi T Γ exc (n + 1), Γ, [], exc, Phi2 T Γ exc (n + 1)⟩) (own := [6]) (tg := .one 6) (el := .blt .str (.cons (.slot 6) .nil)) (g := strD) (xs := s.parts) (ρ := [some (.val (.tuple (encs ss))), some (.val (.int d)), some (.val (.str (pad d))), some (.own ((liness d pre).map .str)), some (.val (.tuple (s.parts ++ innD s))), some (.val (.tuple (innD s))), none, none, none]) [some (.val (.tuple (encs ss))), some (.val (.int d)), some (.val (.str (pad d))), some (.own ((liness d pre).map .str)), some (.val (.tuple (s.parts ++ innD s))), some (.val (.tuple (innD s))), none, none, none] rfl rfl (fun x hx => by
        rcases parts_cases hts x hx with ⟨k, rfl, hk⟩ | ⟨i, rfl, hi⟩
        · refine ⟨_, rfl, rfl, .val (.str k), ?_, rfl⟩
          exists blt_str_str
        · refine ⟨_, rfl, rfl, .val (.str (toString i)), ?_, rfl⟩
          exists blt_str_int hi)
      have hj := join_head hts
      have ha := add_line hts (d := d) (by omega)
      have hel := add_else (d := d) (by omega)
      have hb := bin_add_int d 1
      have ed : ((d : Int) + 1) = ((d + 1 : Nat) : Int) := by omega
      refine ⟨_, [some (.val (.tuple (encs ss))), some (.val (.int d)), some (.val (.str (pad d))), some (.own ((liness d (pre ++ [s])).map .str)), some (.val (.tuple (s.parts ++ innD s))), some (.val (.tuple (innD s))), none, none, none], rfl, ?_, pre ++ [s], r, by rw [es, List.append_assoc]; rfl, rfl, rfl⟩
      rw [enc_parts] at q2 ⊢
      rcases line_cases s with ⟨ei, el, _⟩ | ⟨b, ei, _, el, h1, h0, h2⟩ | ⟨y, n', ei, _, el, h1, h2, h0, h3⟩
      · rw [el] at e0
        exists F.f_lines_of, MSs.at, MS.body, q2, blt_len_tup, len_enc, psl_tup, cut_parts, walkOf, hlen
        exists hc, hj, mtOk_join, ha, lm_append _ _ q1
        have ei' : innD s = [] := by simp only [innD, ei, List.map]
        exists enumI_tup, pairs, e0, ei'
      · rw [el] at e0
        have i1 := IH (deeps b) (by omega) b (Nat.le_refl _) (h2 hts) (by omega) (d + 1) (by omega)
        have k1 := liness_len (deeps b) b (d + 1) (Nat.le_refl _)
        have x1 := lm_extend ((liness d pre).map PyData.str ++ [.str (lineS d s)]) ((liness (d + 1) b).map PyData.str) (by rw [List.length_append, map_len, map_len, List.length_singleton]; omega)
        rw [List.map_cons, ← app_cons _ (PyData.str (lineS d s))] at e0
        exists F.f_lines_of, MSs.at, MS.body, q2, blt_len_tup, len_enc, psl_tup, cut_parts, walkOf, hlen
        exists hc, hj, mtOk_join, ha, lm_append _ _ q1
        have ei' : innD s = [blkD b] := by simp only [innD, ei, List.map]
        exists enumI_tup, pairs, loop_cons, ei', cmp_eq_int, dec01, bin_add_int, ed, blkD, i1, x1, e0
      · rw [el] at e0
        have ei' : innD s = [blkD y, blkD n'] := by simp only [innD, ei, List.map]
        have i1 := IH (deeps y) (by omega) y (Nat.le_refl _) (h3 hts).1 (by omega) (d + 1) (by omega)
        have i2 := IH (deeps n') (by omega) n' (Nat.le_refl _) (h3 hts).2 (by omega) (d + 1) (by omega)
        have k1 := liness_len (deeps y) y (d + 1) (Nat.le_refl _)
        have k2 := liness_len (deeps n') n' (d + 1) (Nat.le_refl _)
        have x1 := lm_extend ((liness d pre).map PyData.str ++ [.str (lineS d s)]) ((liness (d + 1) y).map PyData.str) (by rw [List.length_append, map_len, map_len, List.length_singleton]; omega)
        rw [List.map_cons, List.map_append, ← app_cons _ (PyData.str (lineS d s)), ← List.append_assoc _ ((liness (d + 1) y).map PyData.str)] at e0
        have hne := ne_empty (h3 hts).2 (by omega)
        by_cases hn : n' = []
        · subst hn
          rw [elseL_nil, List.map_nil, List.append_nil] at e0
          have i2' : Phi T Γ exc (n + 1) "lines_of" [.val (.tuple []), .val (.int ((d + 1 : Nat) : Int))] = .ok (.fresh [], []) := i2
          have x2 := lm_extend ((liness d pre).map PyData.str ++ [.str (lineS d s)] ++ (liness (d + 1) y).map PyData.str) [] (by rw [List.length_append, List.length_append, map_len, map_len, List.length_singleton]; simp; omega)
          have hne : cmp .ne (.tuple []) (.tuple []) = some false := hne
          exists F.f_lines_of, MSs.at, MS.body, q2, blt_len_tup, len_enc, psl_tup, cut_parts, walkOf, hlen
          exists hc, hj, mtOk_join, ha, lm_append _ _ q1
          exists enumI_tup, pairs, loop_cons, ei', cmp_eq_int, dec01, dec11, bin_add_int, ed, blkD, i1, i2', hne, encs, x1, x2, e0
        · have hn' : n'.isEmpty = false := by cases n' with
            | nil => exact absurd rfl hn
            | cons a b => rfl
          rw [hn'] at hne
          rw [elseL_ne hn, List.map_cons, ← app_cons _ (PyData.str (elseS d))] at e0
          have x0 := lm_append ((liness d pre).map PyData.str ++ [.str (lineS d s)] ++ (liness (d + 1) y).map PyData.str) (.str (elseS d)) (by rw [List.length_append, List.length_append, map_len, map_len, List.length_singleton]; omega)
          have x2 := lm_extend ((liness d pre).map PyData.str ++ [.str (lineS d s)] ++ (liness (d + 1) y).map PyData.str ++ [.str (elseS d)]) ((liness (d + 1) n').map PyData.str) (by rw [List.length_append, List.length_append, List.length_append, map_len, map_len, map_len, List.length_singleton, List.length_singleton]; omega)
          exists F.f_lines_of, MSs.at, MS.body, q2, blt_len_tup, len_enc, psl_tup, cut_parts, walkOf, hlen
          exists hc, hj, mtOk_join, ha, lm_append _ _ q1
          exists enumI_tup, pairs, loop_cons, ei', cmp_eq_int, dec01, dec11, bin_add_int, ed, blkD, i1, i2, hne, hel, x0, x1, x2, e0) (encs ss) [some (.val (.tuple (encs ss))), some (.val (.int d)), some (.val (.str (pad d))), some (.own []), none, none, none, none, none] ⟨[], ss, rfl, rfl, rfl⟩
  obtain ⟨pre, r, es, er, eρ⟩ := h2
  have : r = [] := by
    cases r with
    | nil => rfl
    | cons a r => simp [encs] at er
  subst this
  rw [List.append_nil] at es
  subst es
  subst eρ
  dsimp only [F.f_lines_of, MSs.at, MS.body] at h1
  rw [phi_at ht.lines_of rfl]
  have hb := bin_mul_pad (d := d) (by omega)
  exists F.f_lines_of, hb, walkOf, h1
theorem ph_lines_of (h : HasProg T Γ) (ht : HasTxt T) : ∀ e n, e ≤ 20 → LinesR T Γ exc "lines_of" (n + e + 2) e
  | e, n, he => by
    induction e using Nat.strongRecOn generalizing n with
    | _ e ih =>
      refine ph_lines_step h ht (n + e) e he fun e' h' => ?_
      have := ih e' h' (n + e - e' - 1) (by omega)
      have e3 : n + e - e' - 1 + e' + 2 = n + e + 1 := by omega
      rw [e3] at this
      exact this
end G
set_option maxHeartbeats 4000000
namespace G
open PySem
open PyData (strOk)
open TL (tl)
variable {T : Str → Option MF} {Γ : Str → Option D} {exc : Str → Bool}
def namesS (P : Prog) : Str := Txt.join " " ("names" :: P.names)
def textL (P : Prog) : List Str := namesS P :: liness 0 P.steps
def textS (P : Prog) : Str := Txt.join "\n" (textL P)
theorem OkP.tidy {P : Prog} (h : OkP P) : tidys P.steps = true := oks_tidy (fun x hx => name_okW (h.parts.2.2.1 x hx)) P.steps 4 h.ok
theorem OkP.deep {P : Prog} (h : OkP P) : deeps P.steps ≤ 4 := oks_deep P.steps 4 (by omega) h.ok
theorem OkP.wd {P : Prog} (h : OkP P) : ∀ k ∈ (("names" : Str) :: P.names), OkWd k := fun k hk => by
  rcases List.mem_cons.mp hk with rfl | hk
  · exact okW_wd (by decide +kernel)
  · exact okW_wd (name_okW (h.parts.2.2.1 k hk))
theorem tl_namesS (P : Prog) : tl (namesS P) = TL.joinL [32] ((("names" : Str) :: P.names).map tl) := by
  unfold namesS
  rw [TL.join_eq, TL.tl_join, tl_sp]
theorem names_sg {P : Prog} (h : OkP P) : ∀ c ∈ tl (namesS P), okC c ∨ c = 32 := by
  rw [tl_namesS]
  exact joinL_sgn fun w hw => by
    obtain ⟨k, hk, rfl⟩ := List.mem_map.mp hw
    exact (h.wd k hk).sgn
theorem names_ll {P : Prog} (h : OkP P) : (namesS P).length ≤ 40 := by
  rw [TL.len_tl, tl_namesS]
  have := joinL_len (ws := (("names" : Str) :: P.names).map tl) fun w hw => by
    obtain ⟨k, hk, rfl⟩ := List.mem_map.mp hw
    exact (h.wd k hk).len.2
  rw [List.length_map, List.length_cons] at this
  have := h.parts.2.1
  omega
theorem textL_facts {P : Prog} (h : OkP P) : (textL P).length ≤ 29 ∧ ∀ l ∈ textL P, l.length ≤ 100 ∧ ∀ c ∈ tl l, okC c ∨ c = 32 := by
  have h1 := liness_len 4 P.steps 0 h.deep
  have h2 := h.size
  refine ⟨by unfold textL; rw [List.length_cons]; omega, fun l hl => ?_⟩
  rcases List.mem_cons.mp hl with rfl | hl
  · exact ⟨by have := names_ll h; omega, names_sg h⟩
  · obtain ⟨j, x, q1, q2⟩ := all_lines 4 P.steps 0 h.deep h.tidy l hl
    exact ⟨by have := q1.ll; omega, q1.sgs⟩
theorem joinN_sgn {Q : Nat → Prop} {s : Nat} : ∀ {ws : List (List Nat)}, (∀ w ∈ ws, ∀ c ∈ w, Q c) → ∀ c ∈ TL.joinL [s] ws, Q c ∨ c = s
  | [], _, c, hc => by simp [TL.joinL] at hc
  | [w], h, c, hc => .inl (h w (by simp) c hc)
  | w :: v :: r, h, c, hc => by
    have e : TL.joinL [s] (w :: v :: r) = w ++ ([s] ++ TL.joinL [s] (v :: r)) := rfl
    rw [e] at hc
    rcases List.mem_append.mp hc with hc | hc
    · exact .inl (h w (by simp) c hc)
    · rcases List.mem_append.mp hc with hc | hc
      · exact .inr (by simpa using hc)
      · exact joinN_sgn (s := s) (fun x hx => h x (List.mem_cons_of_mem _ hx)) c hc
theorem joinN_len {s b : Nat} : ∀ {ws : List (List Nat)}, (∀ w ∈ ws, w.length ≤ b) → (TL.joinL [s] ws).length ≤ (b + 1) * ws.length
  | [], _ => by simp [TL.joinL]
  | [w], h => by
    have := h w (by simp)
    simp only [TL.joinL, List.length_cons, List.length_nil]
    omega
  | w :: v :: r, h => by
    have e : TL.joinL [s] (w :: v :: r) = w ++ ([s] ++ TL.joinL [s] (v :: r)) := rfl
    have := h w (by simp)
    have ih := joinN_len (s := s) (ws := v :: r) fun x hx => h x (List.mem_cons_of_mem _ hx)
    rw [e, List.length_cons, Nat.mul_add]
    simp only [List.length_append, List.length_cons, List.length_nil] at ih ⊢
    omega
theorem text_ok {P : Prog} (h : OkP P) : strOk (textS P) = true ∧ (textS P).length ≤ 3000 := by
  obtain ⟨h1, h2⟩ := textL_facts h
  have e : tl (textS P) = TL.joinL [10] ((textL P).map tl) := by
    unfold textS
    rw [TL.join_eq, TL.tl_join, tl_nl]
  constructor
  · unfold PyData.strOk
    rw [Array.all_eq_true']
    intro c hc
    have hc : c ∈ tl (textS P) := by simpa using hc
    rw [e] at hc
    have := joinN_sgn (Q := fun c => okC c ∨ c = 32) (s := 10) (ws := (textL P).map tl) (fun w hw => by
      obtain ⟨l, hl, rfl⟩ := List.mem_map.mp hw
      exact (h2 l hl).2) c hc
    unfold okC at this
    simp
    omega
  · rw [TL.len_tl, e]
    have := joinN_len (s := 10) (b := 100) (ws := (textL P).map tl) fun w hw => by
      obtain ⟨l, hl, rfl⟩ := List.mem_map.mp hw
      have := (h2 l hl).1
      rw [TL.len_tl] at this
      exact this
    rw [List.length_map] at this
    omega
theorem join_text {P : Prog} (h : OkP P) : meth .join (.str "\n") [.list ((textL P).map .str)] = some (.val (.str (textS P))) := by
  obtain ⟨h1, h2⟩ := textL_facts h
  have := sum_le (fun k : Str => k.length) 100 (textL P) fun k hk => (h2 k hk).1
  exact mt_join_l "\n" (by rw [len_nl]; omega)
theorem names_sum {P : Prog} (h : OkP P) : ((("names" : Str) :: P.names).map (·.length)).sum + (("names" : Str) :: P.names).length * (" " : Str).length ≤ 16777216 := by
  have := sum_le (fun k : Str => k.length) 8 (("names" : Str) :: P.names) fun k hk => by
    show k.length ≤ 8
    rw [TL.len_tl]
    exact (h.wd k hk).len.2
  have h2 := h.parts.2.1
  rw [len_sp, List.length_cons] at *
  omega
theorem ph_text_of (h : HasProg T Γ) (ht : HasTxt T) (n : Nat) {P : Prog} (hP : OkP P) : Phi T Γ exc (n + 7) "text_of" [.val P.enc] = .ok (.val (.str (textS P)), []) := by
  rw [phi_at ht.text_of rfl]
  have big : (3000 : Nat) ≤ sizeLine := by decide
  have h1 : Phi T Γ exc (n + 6) "lines_of" [.val (.tuple (encs P.steps)), .val (.int 0)] = .ok (.fresh ((liness 0 P.steps).map .str), []) := ph_lines_of (exc := exc) h ht 4 n (by omega) P.steps hP.deep hP.tidy (by have := hP.size; omega) 0 (by omega)
  have h2 : bin .add (.tuple [.str "names"]) (.tuple (P.names.map .str)) = some (.val (.tuple ((("names" : Str) :: P.names).map .str))) := bin_add_tup (by rw [map_len, List.length_singleton]; have := hP.parts.2.1; omega)
  have h3 : meth .join (.str " ") [.tuple ((("names" : Str) :: P.names).map .str)] = some (.val (.str (namesS P))) := mt_join_t " " (names_sum hP)
  have h4 : bin .add (.list [.str (namesS P)]) (.list ((liness 0 P.steps).map .str)) = some (.fresh ((textL P).map .str)) := bin_add_lst (by rw [map_len, List.length_singleton]; have := (textL_facts hP).1; unfold textL at this; rw [List.length_cons] at this; omega)
  unfold Prog.enc
  have h5 : (PyData.str "names" :: P.names.map PyData.str) = ((("names" : Str) :: P.names).map PyData.str) := rfl
  rw [List.map_cons] at h2 h3
  exists F.f_text_of, pix_tup0, pix_tup1, h1, h2, mtOk_join, h3, h4, join_text hP
theorem ph_program_text (h : HasProg T Γ) (ht : HasTxt T) (n : Nat) {P : Prog} (hP : OkP P) : Phi T Γ exc (n + 14) "program_text" [.val P.enc] = .ok (.val (.str (textS P)), []) := by
  rw [phi_at ht.program_text rfl]
  have h1 := ph_check_program (exc := exc) h n hP
  have h2 := ph_text_of (exc := exc) h ht (n + 6) hP
  exists F.f_program_text, h1, h2
theorem ph_program_text_lst (h : HasProg T Γ) (ht : HasTxt T) (n : Nat) (xs : List D) : Phi T Γ exc (n + 4) "program_text" [.val (.list xs)] = .exc "InvalidProgram" none := by
  rw [phi_at ht.program_text rfl]
  have h1 := ph_check_program_lst (exc := exc) h n xs
  exists F.f_program_text, h1
theorem psl_str {s : Str} (h : s.length ≤ sizeLine) (lo hi : Option Int) : psl (.str s) lo hi = some (.val (.str ⟨(cut s.cps.toList lo hi).toArray⟩)) := if_pos h
theorem mul2 {d : Nat} (h : d ≤ 1000) : bin .mul (.int 2) (.int d) = some (.val (.int ((2 * d : Nat) : Int))) := by
  rw [bin_mul_int (m := 3) (n := 20) (by decide) (by omega) (by decide)]
  have : (2 : Int) * (d : Int) = ((2 * d : Nat) : Int) := by omega
  rw [this]
theorem mt_starts (x y : Str) : meth .startswith (.str x) [.str y] = some (.val (.bool (Txt.startswith x y))) := rfl
theorem strOk_else : strOk ("else" : Str) = true := by decide +kernel
theorem cut_one {x : Str} {c : Nat} {r : List Nat} (h : tl x = c :: r) : (⟨(cut x.cps.toList none (some 1)).toArray⟩ : Str) = ⟨#[c]⟩ := by
  have := cut_take (tl x) 1
  rw [h] at this
  apply TL.ext_tl
  show cut (tl x) none (some 1) = _
  rw [h]
  exact this
theorem notIn_blank {c : Nat} (h : 97 ≤ c ∧ c ≤ 122) : cmp .notIn (.str ⟨#[c]⟩) (.tuple [.str "", .str " "]) = some true := by
  have key : ∀ c ∈ List.range' 97 26, cmp .notIn (.str ⟨#[c]⟩) (.tuple [.str "", .str " "]) = some true := by decide +kernel
  exact key c (by rw [List.mem_range']; exact ⟨c - 97, by omega, by omega⟩)
theorem IsLn.fits {j : Nat} {x l : Str} (h : IsLn j x l) (hj : j ≤ 1000) : l.length ≤ sizeLine := by
  have := h.ll
  have : (3000 : Nat) ≤ sizeLine := by decide
  omega
theorem ph_is_line (ht : HasTxt T) (n : Nat) {d : Nat} (hd : d ≤ 1000) {x l : Str} (hl : IsLn d x l) (hx : x ≠ "else") : Phi T Γ exc (n + 1) "is_line" [.val (.str l), .val (.int d)] = .ok (.val (.bool true), []) := by
  rw [phi_at ht.is_line rfl]
  obtain ⟨c, r, e, hc⟩ := hl.hd
  have h1 := mul2 hd
  have h2 := psl_str (hl.fits hd) (some ((2 * d : Nat) : Int)) none
  rw [cut_pad hl] at h2
  have h3 := bin_mul_pad hd
  have h4 := mt_starts l (pad d)
  rw [starts_same hl] at h4
  have h5 := cmp_ne_str hl.okx strOk_else
  rw [decide_eq_false hx] at h5
  have h6 := psl_str (s := x) (by rw [TL.len_tl]; have := hl.len; have : (3000 : Nat) ≤ sizeLine := by decide
                                  omega) none (some 1)
  rw [cut_one e] at h6
  have h7 := notIn_blank hc
  exists F.f_is_line, h1, h2, h3, mtOk_starts, h4, h5, h6, h7
theorem ph_is_line_no (ht : HasTxt T) (n : Nat) {d j : Nat} (hd : d ≤ 1000) {x l : Str} (hl : IsLn j x l) (hj : j < d) : Phi T Γ exc (n + 1) "is_line" [.val (.str l), .val (.int d)] = .ok (.val (.bool false), []) := by
  rw [phi_at ht.is_line rfl]
  have h1 := mul2 hd
  have h2 := psl_str (hl.fits (by omega)) (some ((2 * d : Nat) : Int)) none
  have h3 := bin_mul_pad hd
  have h4 := mt_starts l (pad d)
  rw [starts_less hl hj] at h4
  exists F.f_is_line, h1, h2, h3, mtOk_starts, h4
end G
set_option maxHeartbeats 4000000
namespace G
open PySem
open PyData (strOk)
open TL (tl)
variable {T : Str → Option MF} {Γ : Str → Option D} {exc : Str → Bool}
def MS.cnd : MS → ME
  | .whl c _ => c
  | _ => .cst .none
theorem drop_cons {α : Type} {L : List α} {i : Nat} {x : α} {r : List α} (h : L.drop i = x :: r) : L[i]? = some x ∧ L.drop (i + 1) = r ∧ i < L.length := by
  have hi : i < L.length := by
    rcases Nat.lt_or_ge i L.length with q | q
    · exact q
    · rw [List.drop_eq_nil_of_le q] at h; cases h
  have e := List.drop_eq_getElem_cons hi
  rw [e] at h
  simp only [List.cons.injEq] at h
  exact ⟨by rw [List.getElem?_eq_getElem hi, h.1], h.2, hi⟩
theorem drop_app {α : Type} {L : List α} {i : Nat} {A r : List α} (h : L.drop i = A ++ r) : L.drop (i + A.length) = r := by
  rw [← List.drop_drop, h]
  exact List.drop_left' rfl
theorem drop_nil {α : Type} {L : List α} {i : Nat} (h : L.drop i = []) : L.length ≤ i := List.drop_eq_nil_iff.mp h
theorem pix_line {L : List Str} {i : Nat} {x : Str} (h : L[i]? = some x) : pix (.list (L.map .str)) (.int i) = some (.str x) := pix_lst (by rw [List.getElem?_map, h]; rfl)
abbrev t01 : D := .tuple [.str "0", .str "1"]
def numD : D → D
  | .str k => if k = "0" then .int 0 else if k = "1" then .int 1 else .str k
  | x => x
theorem okW_not {k : Str} (h : okW k = true) : k ≠ "0" ∧ k ≠ "1" := by
  constructor <;> (rintro rfl; revert h; decide +kernel)
theorem numD_ok {k : Str} (h : okW k = true) : numD (.str k) = .str k := by
  have := okW_not h
  simp only [numD, if_neg this.1, if_neg this.2]
theorem heads_num {s : St} (h : s.tidy = true) : (s.heads.map PyData.str).map numD = s.parts := by
  cases s with
  | pl w k =>
    simp only [St.tidy] at h
    simp only [St.heads, St.parts, List.map, numD_ok (rw_ok w), numD_ok h]
  | al w => simp only [St.heads, St.parts, List.map, numD_ok (aw_ok w)]
  | put k i =>
    simp only [St.tidy, Bool.and_eq_true, Bool.or_eq_true, decide_eq_true_eq] at h
    have e : okW ("put" : Str) = true := by decide +kernel
    have e2 : numD (.str (numS i)) = .int i := by
      rcases h.2 with rfl | rfl
      · have q : numS 0 = "0" := by decide +kernel
        rw [q]
        rfl
      · have q : numS 1 = "1" := by decide +kernel
        have q2 : ("1" : Str) ≠ "0" := by decide +kernel
        rw [q]
        simp only [numD, if_neg q2, if_true]
    simp only [St.heads, St.parts, List.map, numD_ok e, numD_ok h.1, e2]
  | br w k y n =>
    simp only [St.tidy, Bool.and_eq_true] at h
    simp only [St.heads, St.parts, List.map, numD_ok (bw_ok w), numD_ok h.1.1]
  | same y n =>
    have e : okW ("same" : Str) = true := by decide +kernel
    simp only [St.heads, St.parts, List.map, numD_ok e]
  | walk b =>
    have e : okW ("walk" : Str) = true := by decide +kernel
    simp only [St.heads, St.parts, List.map, numD_ok e]
theorem heads_cases {s : St} (h : s.tidy = true) : ∀ k ∈ s.heads, okW k = true ∨ k = "0" ∨ k = "1" := by
  intro k hk
  have hm : numD (.str k) ∈ s.parts := by
    rw [← heads_num h]
    exact List.mem_map_of_mem (List.mem_map_of_mem hk)
  by_cases q0 : k = "0"
  · exact .inr (.inl q0)
  by_cases q1 : k = "1"
  · exact .inr (.inr q1)
  simp only [numD, if_neg q0, if_neg q1] at hm
  rcases parts_cases h _ hm with ⟨j, e, hj⟩ | ⟨i, e, _⟩
  · cases e
    exact .inl hj
  · cases e
theorem in01_no {k : Str} (h : okW k = true) : cmp .in_ (.str k) t01 = some false := by
  have := pin_strs (x := k) (xs := [("0" : Str), "1"]) (okW_strOk h) (by decide +kernel)
  have q := okW_not h
  rw [decide_eq_false (by simp [q.1, q.2])] at this
  exact this
theorem in01_0 : cmp .in_ (.str "0") t01 = some true := by decide +kernel
theorem in01_1 : cmp .in_ (.str "1") t01 = some true := by decide +kernel
theorem int_0 : blt .int [.str "0"] = some (.val (.int 0)) := by
  have e : PySem.intText? "0" = some 0 := by decide +kernel
  have e2 : ("0" : Str).length ≤ 640 := by decide +kernel
  show (if ("0" : Str).length ≤ 640 then (PySem.intText? "0").map fun n => Rs.val (.int n) else none) = _
  rw [if_pos e2, e]
  rfl
theorem int_1 : blt .int [.str "1"] = some (.val (.int 1)) := by
  have e : PySem.intText? "1" = some 1 := by decide +kernel
  have e2 : ("1" : Str).length ≤ 640 := by decide +kernel
  show (if ("1" : Str).length ≤ 640 then (PySem.intText? "1").map fun n => Rs.val (.int n) else none) = _
  rw [if_pos e2, e]
  rfl
theorem mt_split {s t : Str} (h : (t.length == 0) = false) (h2 : s.length + 2 ≤ sizeLine) : meth .split (.str s) [.str t] = some (.fresh ((Txt.split s t).map .str)) := if_pos ⟨h, h2⟩
theorem split_line {s : St} (h : s.tidy = true) : meth .split (.str (headS s)) [.str " "] = some (.fresh (s.heads.map .str)) := by
  rw [mt_split (by decide +kernel) (by rw [TL.len_tl]; have := (headS_facts h).1; have : (3000 : Nat) ≤ sizeLine := by decide
                                       omega), split_head h]
theorem parts_word (s : St) : ∃ r, s.parts = .str s.word :: r ∧ r.length ≤ 2 := by
  cases s <;> exact ⟨_, rfl, by simp⟩
theorem word_none {s : St} (h : s.inner = []) : cmp .in_ (.str s.word) cBRANCHED = some false ∧ cmp .in_ (.str s.word) tSW = some false := by
  cases s with
  | pl w k => exact ⟨in_BR_RW w, in_SW_RW w⟩
  | al w => exact ⟨in_BR_AW w, in_SW_AW w⟩
  | put k i => exact ⟨in_BR_put, in_SW_put⟩
  | br w k y n => simp [St.inner] at h
  | same y n => simp [St.inner] at h
  | walk b => simp [St.inner] at h
theorem ne_walk_BW (w : BW) : cmp .ne (.str w.str) (.str "walk") = some true := by cases w <;> decide +kernel
theorem ne_walk_same : cmp .ne (.str "same") (.str "walk") = some true := by decide +kernel
theorem ne_walk_walk : cmp .ne (.str "walk") (.str "walk") = some false := by decide +kernel
def BlkR (T : Str → Option MF) (Γ : Str → Option D) (exc : Str → Bool) (L : List Str) (m e : Nat) : Prop := ∀ ss, deeps ss ≤ e → tidys ss = true → ∀ (d spot : Nat) (rest : List Str), d + e ≤ 900 → L.drop spot = liness d ss ++ rest → Stop d rest →
  Phi T Γ exc m "block_at" [.val (.list (L.map .str)), .val (.int spot), .val (.int d)] = .ok (.val (.tuple [.tuple (encs ss), .int ((spot + (liness d ss).length : Nat) : Int)]), [])
theorem elseS_len {d : Nat} (h : d ≤ 900) : strOk (elseS d) = true := (isln_else d).ok
theorem block_while (h : HasProg T Γ) (ht : HasTxt T) (n e : Nat) {L : List Str} (hL : L.length ≤ 1000) {d : Nat} (hde : d + e ≤ 900) (IH : ∀ e', e' < e → BlkR T Γ exc L (n + 1) e') {rest : List Str} (hst : Stop d rest) :
    ∀ (ss : List St) (f : Nat) (done : List St) (spot : Nat) (o5 o6 o7 o8 : Option Cell), ss.length < f → done.length + ss.length ≤ 1000 → deeps ss ≤ e → tidys ss = true → L.drop spot = liness d ss ++ rest →
    ∃ p5 p6 p7 p8, wloop ⟨Phi T Γ exc (n + 1), Γ, [], exc, Phi2 T Γ exc (n + 1)⟩ (F.f_block_at.body.at 1).cnd (F.f_block_at.body.at 1).body f [some (.val (.list (L.map .str))), some (.val (.int spot)), some (.val (.int d)), some (.own (encs done)), none, o5, o6, o7, o8] =
      .ok (.nx, [some (.val (.list (L.map .str))), some (.val (.int ((spot + (liness d ss).length : Nat) : Int))), some (.val (.int d)), some (.own (encs (done ++ ss))), none, p5, p6, p7, p8]) := by
  have big : (100000 : Nat) ≤ sizeLine := by decide
  intro ss
  induction ss with
  | nil =>
    intro f done spot o5 o6 o7 o8 hf _ _ _ hdr
    obtain ⟨f, rfl⟩ : ∃ k, f = k + 1 := ⟨f - 1, by simp at hf; omega⟩
    refine ⟨o5, o6, o7, o8, ?_⟩
    rw [wloop_succ]
    have e1 : ((spot + (liness d []).length : Nat) : Int) = (spot : Int) := by simp [liness]
    have e2 : done ++ [] = done := List.append_nil done
    simp only [liness, List.nil_append] at hdr
    rcases hst with rfl | ⟨j, x, l, r, e3, e4, e5, _⟩
    · have q := drop_nil hdr
      have q2 : decide ((spot : Int) < ((L.map PyData.str).length : Int)) = false := decide_eq_false (by rw [map_len]; omega)
      exists F.f_block_at, MSs.at, MS.body, MS.cnd, blt_len_lst, cmp_lt_int, q2, e1, e2
    · rw [e3] at hdr
      obtain ⟨q, _, q3⟩ := drop_cons hdr
      have q2 : decide ((spot : Int) < ((L.map PyData.str).length : Int)) = true := decide_eq_true (by rw [map_len]; omega)
      have q4 := ph_is_line_no (Γ := Γ) (exc := exc) ht n (by omega) e4 e5
      exists F.f_block_at, MSs.at, MS.body, MS.cnd, blt_len_lst, cmp_lt_int, q2, pix_line q, q4, e1, e2
  | cons s ss ih =>
    intro f done spot o5 o6 o7 o8 hf hdl hd htd hdr
    obtain ⟨f, rfl⟩ : ∃ k, f = k + 1 := ⟨f - 1, by simp at hf; omega⟩
    simp only [deeps] at hd
    simp only [tidys, Bool.and_eq_true] at htd
    obtain ⟨hts, htss⟩ := htd
    simp only [List.length_cons] at hf hdl
    have hln := isln_line hts d
    obtain ⟨r0, er0⟩ := lines_hd s d
    have hdr0 := hdr
    simp only [liness, er0, List.cons_append, List.append_assoc] at hdr
    obtain ⟨q1, q2, q3⟩ := drop_cons hdr
    have c1 : decide ((spot : Int) < ((L.map PyData.str).length : Int)) = true := decide_eq_true (by rw [map_len]; omega)
    have c2 := ph_is_line (Γ := Γ) (exc := exc) ht n (by omega) hln (headS_facts hts).2.2.2
    have c3 := mul2 (d := d) (by omega)
    have c4 := psl_str (hln.fits (by omega)) (some ((2 * d : Nat) : Int)) none
    rw [cut_pad hln] at c4
    have c5 := split_line hts
    have hlen : lines (s.heads.map PyData.str).length = true := lines_small (by rw [map_len]; have := heads_len s; omega)
    have hc := comp_map (C := ⟨Phi T Γ exc (n + 1), Γ, [], exc, Phi2 T Γ exc (n + 1)⟩) (own := [4]) (tg := .one 4) (el := .ite (.cmp .in_ (.slot 4) (.tup (.cons (.cst (.str "0")) (.cons (.cst (.str "1")) .nil)))) (.blt .int (.cons (.slot 4) .nil)) (.slot 4)) (g := numD) (xs := s.heads.map .str) (ρ := [some (.val (.list (L.map .str))), some (.val (.int spot)), some (.val (.int d)), some (.own (encs done)), none, o5, o6, o7, o8]) [some (.val (.list (L.map .str))), some (.val (.int spot)), some (.val (.int d)), some (.own (encs done)), none, o5, o6, o7, o8] rfl rfl (fun x hx => by
      obtain ⟨k, hk, rfl⟩ := List.mem_map.mp hx
      rcases heads_cases hts k hk with q | rfl | rfl
      · have z := numD_ok q
        refine ⟨_, rfl, rfl, .val (.str k), ?_, by rw [z]; rfl⟩
        exists in01_no q
      · refine ⟨_, rfl, rfl, .val (.int 0), ?_, rfl⟩
        exists in01_0, int_0
      · refine ⟨_, rfl, rfl, .val (.int 1), ?_, by rfl⟩
        exists in01_1, int_1)
    rw [heads_num hts] at hc
    obtain ⟨pr, ep, hpr⟩ := parts_word s
    have eb : ((spot : Int) + 1) = ((spot + 1 : Nat) : Int) := by omega
    have ed : ((d : Int) + 1) = ((d + 1 : Nat) : Int) := by omega
    have la := lm_append (encs done) s.enc (by rw [encs_length]; omega)
    have een : encs done ++ [s.enc] = encs (done ++ [s]) := by rw [encs_append]; rfl
    have eapp : done ++ [s] ++ ss = done ++ s :: ss := app_cons done s ss
    have hlen1 : (done ++ [s]).length + ss.length ≤ 1000 := by simp; omega
    rw [wloop_succ]
    rcases line_cases s with ⟨ei, el, ee⟩ | ⟨b, ei, es, el, h1, h0, h2⟩ | ⟨y, n', ei, es, el, h1, h2, h0, h3⟩
    · have er : r0 = [] := by
        have := er0.symm.trans (el d)
        simpa using this
      subst er
      have hn1 : L.drop (spot + 1) = liness d ss ++ rest := by simpa using q2
      obtain ⟨p5, p6, p7, p8, e⟩ := ih f (done ++ [s]) (spot + 1) (some (.val (.list s.parts))) (some (.val s.enc)) o7 o8 (by omega) hlen1 (by omega) htss hn1
      refine ⟨p5, p6, p7, p8, ?_⟩
      have e3 : ((spot + (liness d (s :: ss)).length : Nat) : Int) = ((spot + 1 + (liness d ss).length : Nat) : Int) := by
        simp only [liness, er0, List.length_append, List.length_cons, List.length_nil]
        omega
      obtain ⟨w1, w2⟩ := word_none ei
      rw [e3, ← eapp]
      refine Eq.trans ?_ e
      rw [ee] at la een ⊢
      rw [ep] at hc la een ⊢
      exists F.f_block_at, MSs.at, MS.body, MS.cnd, blt_len_lst, cmp_lt_int, c1, pix_line q1, c2, c3, c4, mtOk_split, c5, walkOf, hlen
      exists hc, blt_tuple, bin_add_int, eb, pix_tup0, w1, w2, h.gBRANCHED, la, een
    · have er : r0 = liness (d + 1) b := by
        have := er0.symm.trans (el d)
        simpa using this
      subst er
      have hn1 : L.drop (spot + 1) = liness (d + 1) b ++ (liness d ss ++ rest) := by simpa using q2
      have hn2 := drop_app hn1
      obtain ⟨p5, p6, p7, p8, e⟩ := ih f (done ++ [s]) (spot + 1 + (liness (d + 1) b).length) (some (.val (.list s.parts))) (some (.val s.enc)) (some (.val (.tuple (encs b)))) o8 (by omega) hlen1 (by omega) htss hn2
      refine ⟨p5, p6, p7, p8, ?_⟩
      have e3 : ((spot + (liness d (s :: ss)).length : Nat) : Int) = ((spot + 1 + (liness (d + 1) b).length + (liness d ss).length : Nat) : Int) := by
        simp only [liness, er0, List.length_append, List.length_cons]
        omega
      have i1 := IH (deeps b) (by omega) b (Nat.le_refl _) (h2 hts) (d + 1) (spot + 1) _ (by omega) hn1 (stop_more htss (by omega) hst)
      have a1 : bin .add (.tuple s.parts) (.tuple [.tuple (encs b)]) = some (.val s.enc) := by
        rw [bin_add_tup (by rw [ep, List.length_cons, List.length_singleton]; omega), enc_parts]
        simp only [innD, ei, List.map, blkD]
      have en : pix s.enc (.int 0) = some (.str s.word) := by
        rw [enc_parts, ep]
        exact pix_tup0 _ _
      rw [e3, ← eapp]
      refine Eq.trans ?_ e
      have ew : s.word = "walk" := by rw [es]; rfl
      rw [ew] at en ep
      rw [ep] at hc a1 ⊢
      exists F.f_block_at, MSs.at, MS.body, MS.cnd, blt_len_lst, cmp_lt_int, c1, pix_line q1, c2, c3, c4, mtOk_split, c5, walkOf, hlen
      exists hc, blt_tuple, bin_add_int, eb, ed, pix_tup0, in_BR_walk, in_SW_walk, h.gBRANCHED, i1, a1, en, ne_walk_walk, la, een
    · have er : r0 = liness (d + 1) y ++ elseL d n' := by
        have := er0.symm.trans (el d)
        simpa using this
      subst er
      have hn1 : L.drop (spot + 1) = liness (d + 1) y ++ (elseL d n' ++ (liness d ss ++ rest)) := by simpa using q2
      have hn2 := drop_app hn1
      have i1 := IH (deeps y) (by omega) y (Nat.le_refl _) (h3 hts).1 (d + 1) (spot + 1) _ (by omega) hn1 (stop_else htss (by omega) hst)
      have a1 : bin .add (.tuple (.str s.word :: pr)) (.tuple [.tuple (encs y)]) = some (.val (.tuple (.str s.word :: (pr ++ [.tuple (encs y)])))) := bin_add_tup (by rw [List.length_cons, List.length_singleton]; omega)
      have a2 : bin .add (.tuple (.str s.word :: (pr ++ [.tuple (encs y)]))) (.tuple [.tuple (encs n')]) = some (.val s.enc) := by
        rw [bin_add_tup (by rw [List.length_cons, List.length_append, List.length_singleton, List.length_singleton]; omega), enc_parts, ep]
        simp [innD, ei, blkD]
      have wnw : cmp .ne (.str s.word) (.str "walk") = some true := by
        rcases es with ⟨w, k, rfl⟩ | rfl
        · exact ne_walk_BW w
        · exact ne_walk_same
      obtain ⟨bb, wbb, wb2⟩ : ∃ bb, cmp .in_ (.str s.word) cBRANCHED = some bb ∧ (bb = false → cmp .in_ (.str s.word) tSW = some true) := by
        rcases es with ⟨w, k, rfl⟩ | rfl
        · exact ⟨true, in_BR_BW w, fun z => by cases z⟩
        · exact ⟨false, in_BR_same, fun _ => in_SW_same⟩
      have c6 := bin_mul_pad (d := d) (by omega)
      have c7 := add_else (d := d) (by omega)
      rw [ep] at hc
      by_cases hn : n' = []
      · subst hn
        simp only [elseL_nil, List.nil_append] at hn2
        obtain ⟨p5, p6, p7, p8, e⟩ := ih f (done ++ [s]) (spot + 1 + (liness (d + 1) y).length) (some (.val (.list (.str s.word :: pr)))) (some (.val s.enc)) (some (.val (.tuple (encs y)))) (some (.val (.tuple []))) (by omega) hlen1 (by omega) htss hn2
        refine ⟨p5, p6, p7, p8, ?_⟩
        have e3 : ((spot + (liness d (s :: ss)).length : Nat) : Int) = ((spot + 1 + (liness (d + 1) y).length + (liness d ss).length : Nat) : Int) := by
          simp only [liness, er0, List.length_append, List.length_cons, elseL_nil, List.length_nil]
          omega
        have a2 : bin .add (.tuple (.str s.word :: (pr ++ [.tuple (encs y)]))) (.tuple [.tuple []]) = some (.val s.enc) := a2
        rw [e3, ← eapp]
        refine Eq.trans ?_ e
        cases hx : liness d ss ++ rest with
        | nil =>
          rw [hx] at hn2
          have z := drop_nil hn2
          have c8 : decide (((spot + 1 + (liness (d + 1) y).length : Nat) : Int) < ((L.map PyData.str).length : Int)) = false := decide_eq_false (by rw [map_len]; omega)
          cases bb with
          | true =>
            exists F.f_block_at, MSs.at, MS.body, MS.cnd, blt_len_lst, cmp_lt_int, c1, pix_line q1, c2, c3, c4, mtOk_split, c5, walkOf, hlen
            exists hc, blt_tuple, bin_add_int, eb, ed, pix_tup0, wbb, h.gBRANCHED, i1, a1, wnw, blt_len_lst, cmp_lt_int, c8, a2, la, een
          | false =>
            exists F.f_block_at, MSs.at, MS.body, MS.cnd, blt_len_lst, cmp_lt_int, c1, pix_line q1, c2, c3, c4, mtOk_split, c5, walkOf, hlen
            exists hc, blt_tuple, bin_add_int, eb, ed, pix_tup0, wbb, wb2 rfl, h.gBRANCHED, i1, a1, wnw, blt_len_lst, cmp_lt_int, c8, a2, la, een
        | cons l r =>
          obtain ⟨z1, j, x, z2, z3⟩ := not_else htss hst hx
          rw [hx] at hn2
          obtain ⟨z4, _, z5⟩ := drop_cons hn2
          have c8 : decide (((spot + 1 + (liness (d + 1) y).length : Nat) : Int) < ((L.map PyData.str).length : Int)) = true := decide_eq_true (by rw [map_len]; omega)
          have c9 := cmp_eq_str z2.ok (isln_else d).ok
          rw [decide_eq_false z1] at c9
          cases bb with
          | true =>
            exists F.f_block_at, MSs.at, MS.body, MS.cnd, blt_len_lst, cmp_lt_int, c1, pix_line q1, c2, c3, c4, mtOk_split, c5, walkOf, hlen
            exists hc, blt_tuple, bin_add_int, eb, ed, pix_tup0, wbb, h.gBRANCHED, i1, a1, wnw, blt_len_lst, cmp_lt_int, c8, pix_line z4, c6, c7, c9, a2, la, een
          | false =>
            exists F.f_block_at, MSs.at, MS.body, MS.cnd, blt_len_lst, cmp_lt_int, c1, pix_line q1, c2, c3, c4, mtOk_split, c5, walkOf, hlen
            exists hc, blt_tuple, bin_add_int, eb, ed, pix_tup0, wbb, wb2 rfl, h.gBRANCHED, i1, a1, wnw, blt_len_lst, cmp_lt_int, c8, pix_line z4, c6, c7, c9, a2, la, een
      · rw [elseL_ne hn] at hn2
        simp only [List.cons_append] at hn2
        obtain ⟨z4, hn3, z5⟩ := drop_cons hn2
        have hn4 := drop_app hn3
        have i2 := IH (deeps n') (by omega) n' (Nat.le_refl _) (h3 hts).2 (d + 1) (spot + 1 + (liness (d + 1) y).length + 1) _ (by omega) hn3 (stop_more htss (by omega) hst)
        obtain ⟨p5, p6, p7, p8, e⟩ := ih f (done ++ [s]) (spot + 1 + (liness (d + 1) y).length + 1 + (liness (d + 1) n').length) (some (.val (.list (.str s.word :: pr)))) (some (.val s.enc)) (some (.val (.tuple (encs y)))) (some (.val (.tuple (encs n')))) (by omega) hlen1 (by omega) htss hn4
        refine ⟨p5, p6, p7, p8, ?_⟩
        have e3 : ((spot + (liness d (s :: ss)).length : Nat) : Int) = ((spot + 1 + (liness (d + 1) y).length + 1 + (liness (d + 1) n').length + (liness d ss).length : Nat) : Int) := by
          simp only [liness, er0, List.length_append, List.length_cons, elseL_ne hn]
          omega
        have eb2 : (((spot + 1 + (liness (d + 1) y).length : Nat) : Int) + 1) = ((spot + 1 + (liness (d + 1) y).length + 1 : Nat) : Int) := by omega
        rw [e3, ← eapp]
        refine Eq.trans ?_ e
        have c8 : decide (((spot + 1 + (liness (d + 1) y).length : Nat) : Int) < ((L.map PyData.str).length : Int)) = true := decide_eq_true (by rw [map_len]; omega)
        have c9 := cmp_eq_str (isln_else d).ok (isln_else d).ok
        rw [decide_eq_true rfl] at c9
        cases bb with
        | true =>
          exists F.f_block_at, MSs.at, MS.body, MS.cnd, blt_len_lst, cmp_lt_int, c1, pix_line q1, c2, c3, c4, mtOk_split, c5, walkOf, hlen
          exists hc, blt_tuple, bin_add_int, eb, ed, pix_tup0, wbb, h.gBRANCHED, i1, a1, wnw, blt_len_lst, cmp_lt_int, c8, pix_line z4, c6, c7, c9, eb2, i2, a2, la, een
        | false =>
          exists F.f_block_at, MSs.at, MS.body, MS.cnd, blt_len_lst, cmp_lt_int, c1, pix_line q1, c2, c3, c4, mtOk_split, c5, walkOf, hlen
          exists hc, blt_tuple, bin_add_int, eb, ed, pix_tup0, wbb, wb2 rfl, h.gBRANCHED, i1, a1, wnw, blt_len_lst, cmp_lt_int, c8, pix_line z4, c6, c7, c9, eb2, i2, a2, la, een
end G
set_option maxHeartbeats 4000000
namespace G
open PySem
open PyData (strOk)
open TL (tl)
variable {T : Str → Option MF} {Γ : Str → Option D} {exc : Str → Bool}
theorem ph_block_step (h : HasProg T Γ) (ht : HasTxt T) (n e : Nat) {L : List Str} (hL : L.length ≤ 1000) (IH : ∀ e', e' < e → BlkR T Γ exc L (n + 1) e') : BlkR T Γ exc L (n + 2) e := by
  intro ss hd htd d spot rest hde hdr hst
  have hl : ss.length ≤ 1000 := by
    have h1 : ss.length ≤ (liness d ss).length := by
      clear hd htd hdr
      induction ss with
      | nil => simp
      | cons s ss ih =>
        obtain ⟨r, e⟩ := lines_hd s d
        simp only [liness, List.length_append, List.length_cons, e]
        omega
    have h2 := congrArg List.length hdr
    rw [List.length_drop, List.length_append] at h2
    omega
  obtain ⟨p5, p6, p7, p8, h1⟩ := block_while (exc := exc) h ht n e hL hde IH hst ss fuel [] spot none none none none (by unfold fuel; omega) (by simp; omega) hd htd hdr
  dsimp only [F.f_block_at, MSs.at, MS.body, MS.cnd, List.nil_append, encs] at h1
  rw [phi_at ht.block_at rfl]
  exists F.f_block_at
  exists h1, blt_tuple
theorem ph_block_at (h : HasProg T Γ) (ht : HasTxt T) {L : List Str} (hL : L.length ≤ 1000) : ∀ e n, BlkR T Γ exc L (n + e + 2) e
  | e, n => by
    induction e using Nat.strongRecOn generalizing n with
    | _ e ih =>
      refine ph_block_step h ht (n + e) e hL fun e' h' => ?_
      have := ih e' h' (n + e - e' - 1)
      have e3 : n + e - e' - 1 + e' + 2 = n + e + 1 := by omega
      rw [e3] at this
      exact this
theorem split_names {P : Prog} (h : OkP P) : meth .split (.str (namesS P)) [.str " "] = some (.fresh ((("names" : Str) :: P.names).map .str)) := by
  rw [mt_split (by decide +kernel) (by have := names_ll h; have : (3000 : Nat) ≤ sizeLine := by decide
                                       omega)]
  unfold namesS
  rw [TL.split_join (s := 32) (S := []) tl_sp (by decide +kernel) (by simp) fun k hk hc => by
    have := (h.wd k hk).sgn 32 hc
    unfold okC at this
    omega]
theorem split_text {P : Prog} (h : OkP P) : meth .split (.str (textS P)) [.str "\n"] = some (.fresh ((textL P).map .str)) := by
  rw [mt_split (by decide +kernel) (by have := (text_ok h).2; have : (10000 : Nat) ≤ sizeLine := by decide
                                       omega)]
  unfold textS
  rw [TL.split_join (s := 10) (S := []) tl_nl (by decide +kernel) (by simp [textL]) fun l hl hc => by
    have := ((textL_facts h).2 l hl).2 10 hc
    unfold okC at this
    omega]
theorem cmp_ne_names : cmp .ne (.str "names") (.str "names") = some false := by decide +kernel
theorem ph_parsed (h : HasProg T Γ) (ht : HasTxt T) (n : Nat) {P : Prog} (hP : OkP P) : Phi T Γ exc (n + 7) "parsed" [.val (.list ((textL P).map .str))] = .ok (.val P.enc, []) := by
  rw [phi_at ht.parsed rfl]
  have h1 := split_names hP
  rw [List.map_cons] at h1
  have hl := (textL_facts hP).1
  have h2 : Phi T Γ exc (n + 6) "block_at" [.val (.list ((textL P).map .str)), .val (.int 1), .val (.int 0)] = .ok (.val (.tuple [.tuple (encs P.steps), .int (((textL P).length : Nat) : Int)]), []) := by
    have := ph_block_at (exc := exc) h ht (L := textL P) (by omega) 4 n P.steps hP.deep hP.tidy 0 1 [] (by omega) (by simp [textL]) (.inl rfl)
    have e : 1 + (liness 0 P.steps).length = (textL P).length := by unfold textL; rw [List.length_cons]; omega
    rw [e] at this
    exact this
  have h3 : pix (.list ((textL P).map .str)) (.int 0) = some (.str (namesS P)) := pix_lst0 _ _
  have h4 : decide ((((textL P).length : Nat) : Int) < (((textL P).map PyData.str).length : Int)) = false := decide_eq_false (by rw [map_len]; omega)
  have h5 : cut (.str "names" :: P.names.map PyData.str) (some 1) none = P.names.map PyData.str := by
    have := cut_drop (.str "names" :: P.names.map PyData.str) 1
    exact this
  unfold Prog.enc
  exists F.f_parsed, h3, mtOk_split, h1, h2, pix_lst0, cmp_ne_names, blt_len_lst, cmp_lt_int, h4, psl_lst, h5, blt_tuple
theorem ph_read_program (h : HasProg T Γ) (ht : HasTxt T) (n : Nat) {P : Prog} (hP : OkP P) : Phi T Γ exc (n + 13) "read_program" [.val (.str (textS P))] = .ok (.val P.enc, []) := by
  rw [phi_at ht.read_program rfl]
  have h1 := split_text hP
  have h2 := ph_parsed (exc := exc) h ht (n + 5) hP
  have h3 := ph_is_program (exc := exc) h n hP
  have h4 := ph_text_of (exc := exc) h ht (n + 5) hP
  have h5 := cmp_ne_str (text_ok hP).1 (text_ok hP).1
  rw [decide_eq_true rfl] at h5
  have h6 : cmp .isN P.enc .none = some false := rfl
  exists F.f_read_program, isi_str, beq_self_eq_true, mtOk_split, h1, h2, h6, h3, h4, h5
end G
set_option maxHeartbeats 4000000
namespace G
open PySem
open PyData (strOk)
open TL (tl)
variable {T : Str → Option MF} {Γ : Str → Option D} {exc : Str → Bool}
structure HasLaw (T : Str → Option MF) : Prop where
  blocks : T "_law_blocks" = some F.f__law_blocks
  listed : T "_law_listed" = some F.f__law_listed
theorem ph_law_blocks (h : HasLaw T) (n : Nat) (s : St) : Phi T Γ exc (n + 1) "_law_blocks" [.val s.enc] = .ok (.val (.tuple (innD s)), []) := by
  rw [phi_at h.blocks rfl]
  cases s with
  | pl w k => exists F.f__law_blocks, St.enc, innD, St.inner, pix_tup0, in_BR_RW, in_SW_RW
  | al w => exists F.f__law_blocks, St.enc, innD, St.inner, pix_tup0, in_BR_AW, in_SW_AW
  | put k i => exists F.f__law_blocks, St.enc, innD, St.inner, pix_tup0, in_BR_put, in_SW_put
  | br w k y n => exists F.f__law_blocks, St.enc, innD, St.inner, blkD, pix_tup0, in_BR_BW, psl_tup, cut2_4
  | same y n => exists F.f__law_blocks, St.enc, innD, St.inner, blkD, pix_tup0, in_BR_same, in_SW_same, psl_tup, cut1_3
  | walk b => exists F.f__law_blocks, St.enc, innD, St.inner, blkD, pix_tup0, in_BR_walk, in_SW_walk, psl_tup, cut1_2
theorem range0 : rangeI [.int 0] = some [] := rfl
theorem range1 : rangeI [.int 1] = some [.int 0] := rfl
theorem range2 : rangeI [.int 2] = some [.int 0, .int 1] := rfl
theorem path1z : PyData.tuple [.int 0] = pathD [0] := rfl
theorem path2z (i : Nat) : PyData.tuple [.int i, .int 0] = pathD [i, 0] := rfl
theorem path2o (i : Nat) : PyData.tuple [.int i, .int 1] = pathD [i, 1] := rfl
theorem encs_at (pre : List St) (s : St) (r : List St) : (encs (pre ++ s :: r))[pre.length]? = some s.enc := by
  rw [encs_append, List.getElem?_append_right (by rw [encs_length]; omega), encs_length, Nat.sub_self]
  rfl
theorem sub_facts {pre : List St} {s : St} {r : List St} {ss : List St} {e : Nat} (es : ss = pre ++ s :: r) (hd : deeps ss ≤ e) : s.deep ≤ e ∧ deeps pre ≤ e := by
  subst es
  induction pre with
  | nil => simp only [List.nil_append, deeps] at hd ⊢; omega
  | cons a pre ih =>
    simp only [List.cons_append, deeps] at hd ⊢
    have := ih (by omega)
    omega
theorem sub_tidy {pre : List St} {s : St} {r : List St} {ss : List St} (es : ss = pre ++ s :: r) (h : tidys ss = true) : s.tidy = true := by
  subst es
  induction pre with
  | nil => simp only [List.nil_append, tidys, Bool.and_eq_true] at h; exact h.1
  | cons a pre ih => simp only [List.cons_append, tidys, Bool.and_eq_true] at h; exact ih h.2
theorem law_listed_step (h : HasLaw T) (n k d : Nat) (IH : ∀ e, e < d → ListR T Γ exc "_law_listed" (n + 1) k e) : ListR T Γ exc "_law_listed" (n + 2) (k + 2) d := by
  intro ss hd hz p hp
  have big : (3000 : Nat) ≤ sizeLine := by decide
  have hls : ss.length ≤ 1000 := Nat.le_trans (len_sizes ss) hz
  obtain ⟨ρ', h1, h2⟩ := loop_run (C := ⟨Phi T Γ exc (n + 1), Γ, [], exc, Phi2 T Γ exc (n + 1)⟩) (cl := [3, 4, 5]) (tg := .one 3) (body := (F.f__law_listed.body.at 1).body)
    (P := fun xs ρ => ∃ pre r, ss = pre ++ r ∧ xs = (List.range' pre.length r.length).map (fun (k : Nat) => PyData.int k) ∧ ρ = [some (.val (.tuple (encs ss))), some (.val (pathD p)), some (.own (encL (listeds p 0 pre))), none, none, none]) (by
    intro x rest ρ ⟨pre, r, es, er, eρ⟩
    subst eρ
    cases r with
    | nil => simp at er
    | cons s r =>
      simp only [List.length_cons, List.range'_succ, List.map_cons, List.cons.injEq] at er
      obtain ⟨rfl, rfl⟩ := er
      obtain ⟨hds, hdp⟩ := sub_facts es hd
      have hsz : sizes pre + (s.size + sizes r) ≤ 1000 := by rw [es, sizes_append] at hz; simpa [sizes] using hz
      have l1 := listeds_len p 0 pre
      have hll := listed_len (p ++ [pre.length]) s
      have q1 : (encL (listeds p 0 pre)).length < sizeLine := by rw [encL_len, l1]; omega
      have q2 := ph_law_blocks (Γ := Γ) (exc := exc) h n s
      have e0 := listed_more p pre s
      have hix : pix (.tuple (encs ss)) (.int pre.length) = some s.enc := pix_tup (by rw [es]; exact encs_at pre s r)
      have ha : bin .add (pathD p) (pathD [pre.length]) = some (.val (pathD (p ++ [pre.length]))) := add_path (by simp only [List.length_singleton]; omega)
      have hp2 : ∀ i : Nat, bin .add (pathD p) (pathD [pre.length, i]) = some (.val (pathD (p ++ [pre.length, i]))) := fun i => add_path (by simp only [List.length_cons, List.length_nil]; omega)
      have pa : ∀ j : Nat, p ++ [pre.length] ++ [j] = p ++ [pre.length, j] := fun j => by simp
      refine ⟨_, [some (.val (.tuple (encs ss))), some (.val (pathD p)), some (.own (encL (listeds p 0 (pre ++ [s])))), some (.val (.int pre.length)), some (.val (.tuple (innD s))), none], rfl, ?_, pre ++ [s], r, by rw [es, List.append_assoc]; rfl, by rw [List.length_append]; rfl, rfl⟩
      have z0 := hp2 0
      have z1 := hp2 1
      rcases inner_cases s with ⟨ei, el⟩ | ⟨b, ei, el, ed, ez⟩ | ⟨y, n', ei, el, ed1, ed2, ez⟩
      · rw [el] at e0
        simp only [innD, ei, List.map] at q2 ⊢
        exists F.f__law_listed, MSs.at, MS.body, path1, hix, ha, lm_append _ _ q1, q2, blt_len_t0, range0, e0, encL_nil
      · have i1 := IH (deeps b) (by omega) b (Nat.le_refl _) (by omega) (p ++ [pre.length, 0]) (by simp only [List.length_append, List.length_cons, List.length_nil]; omega)
        have k1 := listeds_len (p ++ [pre.length, 0]) 0 b
        rw [el, pa] at e0
        have x1 := bin_add_lst (i := encL (listeds p 0 pre) ++ [.tuple [pathD (p ++ [pre.length]), s.enc]]) (j := encL (listeds (p ++ [pre.length, 0]) 0 b)) (by rw [List.length_append, encL_len, encL_len, k1, l1, List.length_singleton]; omega)
        simp only [innD, ei, List.map, blkD] at q2 ⊢
        exists F.f__law_listed, MSs.at, MS.body, path1, hix, ha, lm_append _ _ q1, q2, blt_len_t1, range1, loop_cons, pix_tup0, path2z, z0, i1, x1, e0
      · have i1 := IH (deeps y) (by omega) y (Nat.le_refl _) (by omega) (p ++ [pre.length, 0]) (by simp only [List.length_append, List.length_cons, List.length_nil]; omega)
        have i2 := IH (deeps n') (by omega) n' (Nat.le_refl _) (by omega) (p ++ [pre.length, 1]) (by simp only [List.length_append, List.length_cons, List.length_nil]; omega)
        have k1 := listeds_len (p ++ [pre.length, 0]) 0 y
        have k2 := listeds_len (p ++ [pre.length, 1]) 0 n'
        rw [el, pa, pa, encL_append, ← List.append_assoc] at e0
        have x1 := bin_add_lst (i := encL (listeds p 0 pre) ++ [.tuple [pathD (p ++ [pre.length]), s.enc]]) (j := encL (listeds (p ++ [pre.length, 0]) 0 y)) (by rw [List.length_append, encL_len, encL_len, k1, l1, List.length_singleton]; omega)
        have x2 := bin_add_lst (i := encL (listeds p 0 pre) ++ [.tuple [pathD (p ++ [pre.length]), s.enc]] ++ encL (listeds (p ++ [pre.length, 0]) 0 y)) (j := encL (listeds (p ++ [pre.length, 1]) 0 n')) (by rw [List.length_append, List.length_append, encL_len, encL_len, encL_len, k1, k2, l1, List.length_singleton]; omega)
        simp only [innD, ei, List.map, blkD] at q2 ⊢
        exists F.f__law_listed, MSs.at, MS.body, path1, hix, ha, lm_append _ _ q1, q2, blt_len_t2, range2, loop_cons, pix_tup0, pix_tup1, path2z, path2o, z0, z1, i1, i2, x1, x2, e0) ((List.range ss.length).map (fun (k : Nat) => PyData.int k)) [some (.val (.tuple (encs ss))), some (.val (pathD p)), some (.own []), none, none, none] ⟨[], ss, rfl, by rw [List.range_eq_range']; rfl, rfl⟩
  obtain ⟨pre, r, es, er, eρ⟩ := h2
  have : r = [] := by
    cases r with
    | nil => rfl
    | cons a r => simp [List.range'_succ] at er
  subst this
  rw [List.append_nil] at es
  subst es
  subst eρ
  dsimp only [F.f__law_listed, MSs.at, MS.body] at h1
  have hr := rangeI_nat ss.length (by omega)
  rw [phi_at h.listed rfl]
  exists F.f__law_listed, blt_len_tup, encs_length, hr, h1
theorem ph_law_listed (h : HasLaw T) : ∀ d n, ListR T Γ exc "_law_listed" (n + d + 2) (2 * d + 2) d
  | d, n => by
    induction d using Nat.strongRecOn generalizing n with
    | _ d ih =>
      have e2 : 2 * d + 2 = (2 * d) + 2 := rfl
      rw [e2]
      refine law_listed_step h (n + d) (2 * d) d fun e he => ?_
      have := ih e he (n + d - e - 1)
      have e3 : n + d - e - 1 + e + 2 = n + d + 1 := by omega
      rw [e3] at this
      intro ss h1 h2 p hp
      exact this ss h1 h2 p (by omega)
structure HasLawT (T : Str → Option MF) : Prop extends HasLaw T where
  lines : T "_law_lines" = some F.f__law_lines
  text : T "_law_text" = some F.f__law_text
theorem shaped_two {a b : List St} (ha : tidys a = true) (hb : tidys b = true) (da : deeps a ≤ 20) (db : deeps b ≤ 20) : SeqAt.shaped (.tuple [blkD a, blkD b]) = true :=
  (sh_tup (n := 41).mpr fun x hx => by
    simp only [List.mem_cons, List.mem_nil_iff, or_false] at hx
    rcases hx with rfl | rfl
    · exact sh_tup.mpr fun z hz => (sh_encs a ha z hz).mono (by omega)
    · exact sh_tup.mpr fun z hz => (sh_encs b hb z hz).mono (by omega)).shaped (by omega)
theorem shaped_one {a : List St} (ha : tidys a = true) (da : deeps a ≤ 20) : SeqAt.shaped (.tuple [blkD a]) = true :=
  (sh_tup (n := 41).mpr fun x hx => by
    simp only [List.mem_cons, List.mem_nil_iff, or_false] at hx
    rw [hx]
    exact sh_tup.mpr fun z hz => (sh_encs a ha z hz).mono (by omega)).shaped (by omega)
theorem ne_in2 {a b : List St} (ha : tidys a = true) (hb : tidys b = true) (da : deeps a ≤ 20) (db : deeps b ≤ 20) : cmp .ne (.tuple [.tuple (encs a), .tuple (encs b)]) (.tuple []) = some true := by
  have := cmp_ne (shaped_two ha hb da db) shaped_nil
  exact this
theorem ne_in1 {a : List St} (ha : tidys a = true) (da : deeps a ≤ 20) : cmp .ne (.tuple [.tuple (encs a)]) (.tuple []) = some true := by
  have := cmp_ne (shaped_one ha da) shaped_nil
  exact this
theorem ne_in0 : cmp .ne (.tuple []) (.tuple []) = some false := by decide +kernel
theorem law_lines_step (h : HasLawT T) (n e : Nat) (he : e ≤ 20) (IH : ∀ e', e' < e → LinesR T Γ exc "_law_lines" (n + 1) e') : LinesR T Γ exc "_law_lines" (n + 2) e := by
  intro ss hd htd hz d hde
  have big : (100000 : Nat) ≤ sizeLine := by decide
  obtain ⟨ρ', h1, h2⟩ := loop_run (C := ⟨Phi T Γ exc (n + 1), Γ, [], exc, Phi2 T Γ exc (n + 1)⟩) (cl := [3, 4, 5]) (tg := .one 3) (body := (F.f__law_lines.body.at 1).body)
    (P := fun xs ρ => ∃ pre r, ss = pre ++ r ∧ xs = encs r ∧ ρ = [some (.val (.tuple (encs ss))), some (.val (.int d)), some (.own ((liness d pre).map .str)), none, none, none, none]) (by
    intro x rest ρ ⟨pre, r, es, er, eρ⟩
    subst eρ
    cases r with
    | nil => simp [encs] at er
    | cons s r =>
      simp only [encs, List.cons.injEq] at er
      obtain ⟨rfl, rfl⟩ := er
      obtain ⟨hds, hdp⟩ := sub_facts es hd
      have hts := sub_tidy es htd
      have hsz : sizes pre + (s.size + sizes r) ≤ 1000 := by rw [es, sizes_append] at hz; simpa [sizes] using hz
      have l1 := liness_len e pre d hdp
      have q1 : ((liness d pre).map PyData.str).length < sizeLine := by rw [map_len]; omega
      have q2 := ph_law_blocks (Γ := Γ) (exc := exc) h.toHasLaw n s
      have e0 := lines_more d pre s
      have hlen : lines s.parts.length = true := lines_small (by rw [parts_len]; have := heads_len s; omega)
      have hc := comp_map (C := ⟨Phi T Γ exc (n + 1), Γ, [], exc, Phi2 T Γ exc (n + 1)⟩) (own := [6]) (tg := .one 6) (el := .ite (.isi (.slot 6) "str") (.slot 6) (.blt .str (.cons (.slot 6) .nil))) (g := strD) (xs := s.parts) (ρ := [some (.val (.tuple (encs ss))), some (.val (.int d)), some (.own ((liness d pre).map .str)), some (.val (.tuple (s.parts ++ innD s))), some (.val (.tuple (innD s))), some (.val (.tuple s.parts)), none]) [some (.val (.tuple (encs ss))), some (.val (.int d)), some (.own ((liness d pre).map .str)), some (.val (.tuple (s.parts ++ innD s))), some (.val (.tuple (innD s))), some (.val (.tuple s.parts)), none] rfl rfl (fun x hx => by
        rcases parts_cases hts x hx with ⟨k, rfl, hk⟩ | ⟨i, rfl, hi⟩
        · refine ⟨_, rfl, rfl, .val (.str k), ?_, rfl⟩
          exists isi_str, beq_self_eq_true
        · refine ⟨_, rfl, rfl, .val (.str (toString i)), ?_, rfl⟩
          have e2 : ("str" == "int") = false := by decide
          have e3 : ("int" == "str") = false := by decide
          exists isi_int, e2, e3, blt_str_int hi)
      have hj := join_head hts
      have ha := add_line hts (d := d) (by omega)
      have hb := bin_mul_pad (d := d) (by omega)
      have hel := add_else (d := d) (by omega)
      have ed : ((d : Int) + 1) = ((d + 1 : Nat) : Int) := by omega
      refine ⟨_, [some (.val (.tuple (encs ss))), some (.val (.int d)), some (.own ((liness d (pre ++ [s])).map .str)), some (.val (.tuple (s.parts ++ innD s))), some (.val (.tuple (innD s))), some (.val (.tuple s.parts)), none], rfl, ?_, pre ++ [s], r, by rw [es, List.append_assoc]; rfl, rfl, rfl⟩
      rw [enc_parts] at q2 ⊢
      rcases line_cases s with ⟨ei, el, _⟩ | ⟨b, ei, _, el, h1, h0, h2⟩ | ⟨y, n', ei, _, el, h1, h2, h0, h3⟩
      · rw [el] at e0
        exists F.f__law_lines, MSs.at, MS.body, q2, blt_len_tup, len_enc, psl_tup, cut_parts, walkOf, hlen, hb
        exists hc, hj, mtOk_join, ha, lm_append _ _ q1
        have ei' : innD s = [] := by simp only [innD, ei, List.map]
        have d02 : decide (((0 : Nat) : Int) = 2) = false := by decide
        exists e0, ei', ne_in0, blt_len_tup, cmp_eq_int, d02
      · rw [el] at e0
        have i1 := IH (deeps b) (by omega) b (Nat.le_refl _) (h2 hts) (by omega) (d + 1) (by omega)
        have k1 := liness_len (deeps b) b (d + 1) (Nat.le_refl _)
        have x1 := bin_add_lst (i := (liness d pre).map PyData.str ++ [.str (lineS d s)]) (j := (liness (d + 1) b).map PyData.str) (by rw [List.length_append, map_len, map_len, List.length_singleton]; omega)
        rw [List.map_cons, ← app_cons _ (PyData.str (lineS d s))] at e0
        exists F.f__law_lines, MSs.at, MS.body, q2, blt_len_tup, len_enc, psl_tup, cut_parts, walkOf, hlen, hb
        exists hc, hj, mtOk_join, ha, lm_append _ _ q1
        have ei' : innD s = [.tuple (encs b)] := by simp only [innD, ei, List.map, blkD]
        have d02 : decide (((1 : Nat) : Int) = 2) = false := by decide
        exists ei', ne_in1 (h2 hts) (by omega), pix_tup0, bin_add_int, ed, i1, x1, e0, blt_len_tup, cmp_eq_int, d02
      · rw [el] at e0
        have ei' : innD s = [.tuple (encs y), .tuple (encs n')] := by simp only [innD, ei, List.map, blkD]
        have i1 := IH (deeps y) (by omega) y (Nat.le_refl _) (h3 hts).1 (by omega) (d + 1) (by omega)
        have i2 := IH (deeps n') (by omega) n' (Nat.le_refl _) (h3 hts).2 (by omega) (d + 1) (by omega)
        have k1 := liness_len (deeps y) y (d + 1) (Nat.le_refl _)
        have k2 := liness_len (deeps n') n' (d + 1) (Nat.le_refl _)
        have x1 := bin_add_lst (i := (liness d pre).map PyData.str ++ [.str (lineS d s)]) (j := (liness (d + 1) y).map PyData.str) (by rw [List.length_append, map_len, map_len, List.length_singleton]; omega)
        rw [List.map_cons, List.map_append, ← app_cons _ (PyData.str (lineS d s)), ← List.append_assoc _ ((liness (d + 1) y).map PyData.str)] at e0
        have hne := ne_empty (h3 hts).2 (by omega)
        have hn2 := ne_in2 (h3 hts).1 (h3 hts).2 (by omega) (by omega)
        have d02 : decide (((2 : Nat) : Int) = 2) = true := by decide
        by_cases hn : n' = []
        · subst hn
          rw [elseL_nil, List.map_nil, List.append_nil] at e0
          exists F.f__law_lines, MSs.at, MS.body, q2, blt_len_tup, len_enc, psl_tup, cut_parts, walkOf, hlen, hb
          exists hc, hj, mtOk_join, ha, lm_append _ _ q1
          exists ei', hn2, pix_tup0, pix_tup1, bin_add_int, ed, i1, x1, e0, blt_len_tup, cmp_eq_int, d02, hne, List.isEmpty_nil
        · have hn' : n'.isEmpty = false := by cases n' with
            | nil => exact absurd rfl hn
            | cons a b => rfl
          rw [hn'] at hne
          rw [elseL_ne hn, List.map_cons, ← app_cons _ (PyData.str (elseS d))] at e0
          have x0 := bin_add_lst (i := (liness d pre).map PyData.str ++ [.str (lineS d s)] ++ (liness (d + 1) y).map PyData.str) (j := [.str (elseS d)]) (by rw [List.length_append, List.length_append, map_len, map_len, List.length_singleton, List.length_singleton]; omega)
          have x2 := bin_add_lst (i := (liness d pre).map PyData.str ++ [.str (lineS d s)] ++ (liness (d + 1) y).map PyData.str ++ [.str (elseS d)]) (j := (liness (d + 1) n').map PyData.str) (by rw [List.length_append, List.length_append, List.length_append, map_len, map_len, map_len, List.length_singleton, List.length_singleton]; omega)
          exists F.f__law_lines, MSs.at, MS.body, q2, blt_len_tup, len_enc, psl_tup, cut_parts, walkOf, hlen, hb
          exists hc, hj, mtOk_join, ha, lm_append _ _ q1
          exists ei', hn2, pix_tup0, pix_tup1, bin_add_int, ed, i1, x1, blt_len_tup, cmp_eq_int, d02, hne, hb, hel, x0, i2, x2, e0) (encs ss) [some (.val (.tuple (encs ss))), some (.val (.int d)), some (.own []), none, none, none, none] ⟨[], ss, rfl, rfl, rfl⟩
  obtain ⟨pre, r, es, er, eρ⟩ := h2
  have : r = [] := by
    cases r with
    | nil => rfl
    | cons a r => simp [encs] at er
  subst this
  rw [List.append_nil] at es
  subst es
  subst eρ
  dsimp only [F.f__law_lines, MSs.at, MS.body] at h1
  rw [phi_at h.lines rfl]
  exists F.f__law_lines, walkOf, h1
theorem ph_law_lines (h : HasLawT T) : ∀ e n, e ≤ 20 → LinesR T Γ exc "_law_lines" (n + e + 2) e
  | e, n, he => by
    induction e using Nat.strongRecOn generalizing n with
    | _ e ih =>
      refine law_lines_step h (n + e) e he fun e' h' => ?_
      have := ih e' h' (n + e - e' - 1) (by omega)
      have e3 : n + e - e' - 1 + e' + 2 = n + e + 1 := by omega
      rw [e3] at this
      exact this
theorem ph_law_text (h : HasLawT T) (n : Nat) {P : Prog} (hP : OkP P) : Phi T Γ exc (n + 7) "_law_text" [.val P.enc] = .ok (.val (.str (textS P)), []) := by
  rw [phi_at h.text rfl]
  have big : (3000 : Nat) ≤ sizeLine := by decide
  have h1 : Phi T Γ exc (n + 6) "_law_lines" [.val (.tuple (encs P.steps)), .val (.int 0)] = .ok (.fresh ((liness 0 P.steps).map .str), []) := ph_law_lines (exc := exc) h 4 n (by omega) P.steps hP.deep hP.tidy (by have := hP.size; omega) 0 (by omega)
  have h2 : bin .add (.list [.str "names"]) (.list (P.names.map .str)) = some (.fresh ((("names" : Str) :: P.names).map .str)) := bin_add_lst (by rw [map_len, List.length_singleton]; have := hP.parts.2.1; omega)
  have h3 : meth .join (.str " ") [.list ((("names" : Str) :: P.names).map .str)] = some (.val (.str (namesS P))) := mt_join_l " " (names_sum hP)
  have h4 : bin .add (.list [.str (namesS P)]) (.list ((liness 0 P.steps).map .str)) = some (.fresh ((textL P).map .str)) := bin_add_lst (by rw [map_len, List.length_singleton]; have := (textL_facts hP).1; unfold textL at this; rw [List.length_cons] at this; omega)
  unfold Prog.enc
  rw [List.map_cons] at h2 h3
  exists F.f__law_text, pix_tup0, pix_tup1, h1, blt_list, h2, mtOk_join, h3, h4, join_text hP
end G
set_option maxHeartbeats 4000000
namespace G
open PySem
open PyData (strOk)
variable {T : Str → Option MF} {Γ : Str → Option D} {exc : Str → Bool}
inductive InAt : List St → List Nat → St → Prop where
  | here (pre : List St) (s : St) (post : List St) : InAt (pre ++ s :: post) [pre.length] s
  | deep (pre : List St) (t : St) (post : List St) (il : List (List St)) (b : List St) (ir : List (List St)) (p : List Nat) (s : St) (hi : t.inner = il ++ b :: ir) (hb : InAt b p s) : InAt (pre ++ t :: post) (pre.length :: il.length :: p) s
theorem InAt.one {ss : List St} {p : List Nat} {s : St} (h : InAt ss p s) : ∀ {s' : St}, InAt ss p s' → s = s' := by
  induction h with
  | here pre s post =>
    intro s' h'
    generalize e1 : pre ++ s :: post = ss at h'
    generalize e2 : [pre.length] = p at h'
    cases h' with
    | here pre' s2 post' =>
      simp only [List.cons.injEq, and_true] at e2
      have := List.append_inj e1 e2
      simp only [List.cons.injEq] at this
      exact this.2.1
    | deep pre' t post' il b ir p s hi hb => simp at e2
  | deep pre t post il b ir p s hi hb ih =>
    intro s' h'
    generalize e1 : pre ++ t :: post = ss at h'
    generalize e2 : pre.length :: il.length :: p = q at h'
    cases h' with
    | here pre' s2 post' => simp at e2
    | deep pre' t' post' il' b' ir' p' s hi' hb' =>
      simp only [List.cons.injEq] at e2
      have := List.append_inj e1 e2.1
      simp only [List.cons.injEq] at this
      obtain ⟨_, rfl, _⟩ := this
      rw [hi] at hi'
      have := List.append_inj hi' e2.2.1
      simp only [List.cons.injEq] at this
      obtain ⟨_, rfl, _⟩ := this
      rw [← e2.2.2] at hb'
      exact ih hb'
theorem in_listed : ∀ (e : Nat) (ss : List St), deeps ss ≤ e → ∀ (a : List Nat) (q : List Nat × St), q ∈ listeds a 0 ss → ∃ p, q.1 = a ++ p ∧ InAt ss p q.2 := by
  intro e
  induction e with
  | zero =>
    intro ss hd a q hq
    cases ss with
    | nil => simp [listeds] at hq
    | cons s ss =>
      have : 1 ≤ s.deep := by cases s <;> simp [St.deep] <;> omega
      simp only [deeps] at hd
      omega
  | succ e ih =>
    intro ss hd a q hq
    have key : ∀ (r pre : List St), ss = pre ++ r → ∀ q ∈ listeds a pre.length r, ∃ p, q.1 = a ++ p ∧ InAt ss p q.2 := by
      intro r
      induction r with
      | nil => intro pre _ q hq; simp [listeds] at hq
      | cons s r ihr =>
        intro pre es q hq
        obtain ⟨hds, _⟩ := sub_facts es hd
        simp only [listeds, List.cons_append, List.mem_cons, List.mem_append] at hq
        rcases hq with rfl | hq | hq
        · exact ⟨[pre.length], rfl, by rw [es]; exact .here pre s r⟩
        · rcases inner_cases s with ⟨ei, el⟩ | ⟨b, ei, el, ed, ez⟩ | ⟨y, n', ei, el, ed1, ed2, ez⟩
          · rw [el] at hq
            cases hq
          · rw [el] at hq
            obtain ⟨p, e1, e2⟩ := ih b (by omega) _ q hq
            exact ⟨pre.length :: 0 :: p, by rw [e1]; simp, by rw [es]; exact .deep pre s r [] b [] p q.2 ei e2⟩
          · rw [el] at hq
            rcases List.mem_append.mp hq with hq | hq
            · obtain ⟨p, e1, e2⟩ := ih y (by omega) _ q hq
              exact ⟨pre.length :: 0 :: p, by rw [e1]; simp, by rw [es]; exact .deep pre s r [] y [n'] p q.2 ei e2⟩
            · obtain ⟨p, e1, e2⟩ := ih n' (by omega) _ q hq
              exact ⟨pre.length :: 1 :: p, by rw [e1]; simp, by rw [es]; exact .deep pre s r [y] n' [] p q.2 ei e2⟩
        · exact ihr (pre ++ [s]) (by rw [es]; simp) q (by rw [List.length_append]; exact hq)
    exact key ss [] rfl q hq
structure Like (more : List St) (s : St) : Prop where
  ok : ∀ ns d, s.ok ns d = true → oks ns d more = true
  body : ∀ ns, okBody ns s = true → more.all (okBody ns) = true
  len : more.length ≤ 1
  size : sizes more ≤ s.size
  walks : walkss more ≤ s.walks
structure NoWorse (ss ss' : List St) : Prop where
  ok : ∀ ns d, oks ns d ss = true → oks ns d ss' = true
  body : ∀ ns, ss.all (okBody ns) = true → ss'.all (okBody ns) = true
  len : ss'.length ≤ ss.length
  size : sizes ss' ≤ sizes ss
  walks : walkss ss' ≤ walkss ss
theorem like_put {pre : List St} {s : St} {post more : List St} (h : Like more s) : NoWorse (pre ++ s :: post) (pre ++ more ++ post) := by
  have h1 := h.len
  have h2 := h.size
  have h3 := h.walks
  refine ⟨fun ns d ho => ?_, fun ns ho => ?_, ?_, ?_, ?_⟩
  · rw [oks_append, Bool.and_eq_true] at ho
    simp only [oks, Bool.and_eq_true] at ho
    rw [oks_append, oks_append, ho.1, ho.2.2, h.ok ns d ho.2.1]
    rfl
  · rw [List.all_append, Bool.and_eq_true] at ho
    simp only [List.all_cons, Bool.and_eq_true] at ho
    rw [List.all_append, List.all_append, ho.1, ho.2.2, h.body ns ho.2.1]
    rfl
  · simp only [List.length_append, List.length_cons]
    omega
  · rw [sizes_append, sizes_append, sizes_append]
    simp only [sizes]
    omega
  · rw [walkss_append, walkss_append, walkss_append]
    simp only [walkss]
    omega
def St.setB : St → Nat → List St → St
  | .br w k _ n, 0, b => .br w k b n
  | .br w k y _, _ + 1, b => .br w k y b
  | .same _ n, 0, b => .same b n
  | .same y _, _ + 1, b => .same y b
  | .walk _, _, b => .walk b
  | s, _, _ => s
def setF : List Nat → St → List St → List St
  | [], _, ss => ss
  | [k], x, ss => ss.set k x
  | k :: j :: p, x, ss => match ss[k]? with
    | some t => match t.inner[j]? with
      | some b => ss.set k (t.setB j (setF p x b))
      | none => ss
    | none => ss
theorem setF_here (pre : List St) (s : St) (post : List St) (x : St) : setF [pre.length] x (pre ++ s :: post) = pre ++ [x] ++ post := by
  show (pre ++ s :: post).set pre.length x = _
  rw [List.set_append_right _ _ (Nat.le_refl _), Nat.sub_self]
  simp
theorem setF_deep (pre : List St) (t : St) (post : List St) {il : List (List St)} {b : List St} {ir : List (List St)} (p : List Nat) (x : St) (hi : t.inner = il ++ b :: ir) : setF (pre.length :: il.length :: p) x (pre ++ t :: post) = pre ++ [t.setB il.length (setF p x b)] ++ post := by
  have h1 : (pre ++ t :: post)[pre.length]? = some t := by rw [List.getElem?_append_right (Nat.le_refl _), Nat.sub_self]; rfl
  have h2 : t.inner[il.length]? = some b := by rw [hi, List.getElem?_append_right (Nat.le_refl _), Nat.sub_self]; rfl
  show (match (pre ++ t :: post)[pre.length]? with
    | some t' => match t'.inner[il.length]? with
      | some b => (pre ++ t :: post).set pre.length (t'.setB il.length (setF p x b))
      | none => pre ++ t :: post
    | none => pre ++ t :: post) = _
  rw [h1]
  simp only [h2]
  rw [List.set_append_right _ _ (Nat.le_refl _), Nat.sub_self]
  simp
theorem rebuild {t : St} {il : List (List St)} {b : List St} {ir : List (List St)} {b' : List St} (hi : t.inner = il ++ b :: ir) (hb : NoWorse b b') :
    ∃ t' : St, t' = t.setB il.length b' ∧ t'.enc = .tuple (t.parts ++ (il.map blkD ++ [blkD b'] ++ ir.map blkD)) ∧ Like [t'] t := by
  cases t with
  | pl w k => simp [St.inner] at hi
  | al w => simp [St.inner] at hi
  | put k i => simp [St.inner] at hi
  | br w k y n =>
    simp only [St.inner] at hi
    have h1 := hb.size
    have h2 := hb.walks
    match il, hi with
    | [], hi =>
      simp only [List.nil_append, List.cons.injEq] at hi
      obtain ⟨rfl, rfl⟩ := hi
      refine ⟨.br w k b' n, rfl, by simp [St.enc, St.parts, blkD], fun ns d ho => ?_, fun ns ho => by simp [okBody] at ho, Nat.le_refl _, by simp only [sizes, St.size]; omega, by simp only [walkss, St.walks]; omega⟩
      simp only [St.ok, oks, Bool.and_eq_true, Bool.and_true] at ho ⊢
      exact ⟨⟨ho.1.1, hb.ok _ _ ho.1.2⟩, ho.2⟩
    | [y'], hi =>
      simp only [List.cons_append, List.nil_append, List.cons.injEq] at hi
      obtain ⟨rfl, rfl, rfl⟩ := hi
      refine ⟨.br w k y b', rfl, by simp [St.enc, St.parts, blkD], fun ns d ho => ?_, fun ns ho => by simp [okBody] at ho, Nat.le_refl _, by simp only [sizes, St.size]; omega, by simp only [walkss, St.walks]; omega⟩
      simp only [St.ok, oks, Bool.and_eq_true, Bool.and_true] at ho ⊢
      exact ⟨ho.1, hb.ok _ _ ho.2⟩
    | _ :: _ :: _, hi => simp at hi
  | same y n =>
    simp only [St.inner] at hi
    have h1 := hb.size
    have h2 := hb.walks
    match il, hi with
    | [], hi =>
      simp only [List.nil_append, List.cons.injEq] at hi
      obtain ⟨rfl, rfl⟩ := hi
      refine ⟨.same b' n, rfl, by simp [St.enc, St.parts, blkD], fun ns d ho => ?_, fun ns ho => by simp [okBody] at ho, Nat.le_refl _, by simp only [sizes, St.size]; omega, by simp only [walkss, St.walks]; omega⟩
      simp only [St.ok, oks, Bool.and_eq_true, Bool.and_true] at ho ⊢
      exact ⟨⟨ho.1.1, hb.ok _ _ ho.1.2⟩, ho.2⟩
    | [y'], hi =>
      simp only [List.cons_append, List.nil_append, List.cons.injEq] at hi
      obtain ⟨rfl, rfl, rfl⟩ := hi
      refine ⟨.same y b', rfl, by simp [St.enc, St.parts, blkD], fun ns d ho => ?_, fun ns ho => by simp [okBody] at ho, Nat.le_refl _, by simp only [sizes, St.size]; omega, by simp only [walkss, St.walks]; omega⟩
      simp only [St.ok, oks, Bool.and_eq_true, Bool.and_true] at ho ⊢
      exact ⟨ho.1, hb.ok _ _ ho.2⟩
    | _ :: _ :: _, hi => simp at hi
  | walk y =>
    simp only [St.inner] at hi
    have h1 := hb.size
    have h2 := hb.len
    match il, hi with
    | [], hi =>
      simp only [List.nil_append, List.cons.injEq] at hi
      obtain ⟨rfl, rfl⟩ := hi
      refine ⟨.walk b', rfl, by simp [St.enc, St.parts, blkD], fun ns d ho => ?_, fun ns ho => by simp [okBody] at ho, Nat.le_refl _, by simp only [sizes, St.size]; omega, by simp only [walkss, St.walks]; omega⟩
      simp only [St.ok, oks, Bool.and_eq_true, Bool.and_true, decide_eq_true_eq] at ho ⊢
      exact ⟨⟨ho.1.1, by omega⟩, hb.body _ ho.2⟩
    | _ :: _, hi => simp at hi
structure HasPut (T : Str → Option MF) : Prop extends HasLaw T where
  put : T "_law_put" = some F.f__law_put
theorem pathD_cons (k : Nat) (p : List Nat) : pathD (k :: p) = .tuple (.int k :: p.map fun (k : Nat) => PyData.int k) := rfl
theorem pix_path0 (k : Nat) (p : List Nat) : pix (pathD (k :: p)) (.int 0) = some (.int k) := pix_tup0 _ _
theorem pix_path1 (k j : Nat) (p : List Nat) : pix (pathD (k :: j :: p)) (.int 1) = some (.int j) := pix_tup1 _ _ _
theorem len_path (p : List Nat) : blt .len [pathD p] = some (.val (.int p.length)) := by
  unfold pathD
  rw [blt_len_tup, List.length_map]
theorem psl_path (k j : Nat) (p : List Nat) : psl (pathD (k :: j :: p)) (some 2) none = some (.val (pathD p)) := by
  unfold pathD
  rw [psl_tup]
  have := cut_drop ((k :: j :: p).map fun (k : Nat) => PyData.int k) 2
  have e : cut ((k :: j :: p).map fun (k : Nat) => PyData.int k) (some 2) none = p.map fun (k : Nat) => PyData.int k := this
  rw [e]
theorem cut_pre (pre : List St) (s : St) (post : List St) : cut (encs (pre ++ s :: post)) none (some (pre.length : Int)) = encs pre := by
  rw [cut_take, encs_append]
  exact List.take_left' (encs_length pre)
theorem cut_post (pre : List St) (s : St) (post : List St) : cut (encs (pre ++ s :: post)) (some ((pre.length + 1 : Nat) : Int)) none = encs post := by
  have e : pre ++ s :: post = (pre ++ [s]) ++ post := by simp
  rw [cut_drop, e, encs_append]
  exact List.drop_left' (by rw [encs_length, List.length_append]; rfl)
theorem put_ok (h : HasPut T) {ss : List St} {p : List Nat} {s : St} (hp : InAt ss p s) {more : List St} (hm : Like more s) : sizes ss ≤ 1000 → ∃ ss', NoWorse ss ss' ∧ (∀ x, more = [x] → ss' = setF p x ss) ∧ ∀ m, p.length + 2 ≤ m → Phi T Γ exc m "_law_put" [.val (.tuple (encs ss)), .val (pathD p), .val (.tuple (encs more))] = .ok (.val (.tuple (encs ss')), []) := by
  have big : (10000 : Nat) ≤ sizeLine := by decide
  have hml := hm.len
  induction hp with
  | here pre s post =>
    intro hz
    refine ⟨pre ++ more ++ post, like_put hm, fun x hx => by rw [hx, setF_here], fun m hle => ?_⟩
    obtain ⟨m, rfl⟩ : ∃ k, m = k + 1 := ⟨m - 1, by omega⟩
    have hz' := len_sizes (pre ++ s :: post)
    rw [List.length_append, List.length_cons] at hz'
    rw [phi_at h.put rfl]
    have hix : pix (.tuple (encs (pre ++ s :: post))) (.int pre.length) = some s.enc := pix_tup (encs_at pre s post)
    have hl : blt .len [pathD [pre.length]] = some (.val (.int 1)) := len_path [pre.length]
    have g : decide ((1 : Int) > 1) = false := by decide
    have a1 := bin_add_tup (i := encs pre) (j := encs more) (by rw [encs_length, encs_length]; omega)
    rw [← encs_append] at a1
    have a2 := bin_add_tup (i := encs (pre ++ more)) (j := encs post) (by rw [encs_length, encs_length, List.length_append]; omega)
    rw [← encs_append] at a2
    have eb : ((pre.length : Int) + 1) = ((pre.length + 1 : Nat) : Int) := by omega
    exists F.f__law_put, pix_path0, hix, hl, cmp_gt_int, g, psl_tup, cut_pre, cut_post, bin_add_int, eb, a1, a2
  | deep pre t post il b ir p s hi hb ih =>
    intro hz
    have hz2 := hz
    rw [sizes_append] at hz2
    simp only [sizes] at hz2
    have hbz : sizes b ≤ t.size := by
      cases t <;> simp [St.inner] at hi <;> simp only [St.size]
      all_goals first
        | (match il, hi with
           | [], hi => (simp at hi; obtain ⟨rfl, _⟩ := hi; omega)
           | [_], hi => (simp at hi; obtain ⟨_, rfl, _⟩ := hi; omega)
           | _ :: _ :: _, hi => simp at hi)
        | (match il, hi with
           | [], hi => (simp at hi; obtain ⟨rfl, _⟩ := hi; omega)
           | _ :: _, hi => simp at hi)
    obtain ⟨b', hw, hsb, hphi⟩ := ih hm (by omega)
    obtain ⟨t', est, et', hlike⟩ := rebuild hi hw
    have hnw := like_put (pre := pre) (post := post) hlike
    refine ⟨pre ++ [t'] ++ post, hnw, fun x hx => by rw [setF_deep pre t post p x hi, ← hsb x hx, est], fun m hle => ?_⟩
    simp only [List.length_cons] at hle
    obtain ⟨m, rfl⟩ : ∃ k, m = k + 1 + 1 := ⟨m - 2, by omega⟩
    have hz' := len_sizes (pre ++ t :: post)
    rw [List.length_append, List.length_cons] at hz'
    rw [phi_at h.put rfl]
    have hix : pix (.tuple (encs (pre ++ t :: post))) (.int pre.length) = some t.enc := pix_tup (encs_at pre t post)
    have hl : blt .len [pathD (pre.length :: il.length :: p)] = some (.val (.int ((p.length + 2 : Nat) : Int))) := len_path (pre.length :: il.length :: p)
    have g : decide (((p.length + 2 : Nat) : Int) > 1) = true := decide_eq_true (by omega)
    have hbl := ph_law_blocks (Γ := Γ) (exc := exc) h.toHasLaw m t
    have hil : (innD t).length ≤ 2 := by unfold innD; rw [List.length_map]; cases t <;> simp [St.inner]
    have ein : innD t = il.map blkD ++ (blkD b :: ir.map blkD) := by unfold innD; rw [hi, List.map_append]; rfl
    have hlen : il.length + (ir.length + 1) ≤ 2 := by rw [ein] at hil; simpa using hil
    have hix2 : pix (.tuple (innD t)) (.int il.length) = some (.tuple (encs b)) := pix_tup (by rw [ein, List.getElem?_append_right (by rw [List.length_map]; omega), List.length_map, Nat.sub_self]; rfl)
    have hc1 : cut (innD t) none (some (il.length : Int)) = il.map blkD := by rw [cut_take, ein]; exact List.take_left' (List.length_map ..)
    have hc2 : cut (innD t) (some ((il.length + 1 : Nat) : Int)) none = ir.map blkD := by
      have e : il.map blkD ++ (blkD b :: ir.map blkD) = (il.map blkD ++ [blkD b]) ++ ir.map blkD := by simp
      rw [cut_drop, ein, e]
      exact List.drop_left' (by simp)
    have hphi := hphi (m + 1) (by omega)
    have hpt := parts_len t
    have hpt2 := heads_len t
    have b1 := bin_add_tup (i := t.parts) (j := il.map blkD) (by rw [List.length_map]; omega)
    have b2 := bin_add_tup (i := t.parts ++ il.map blkD) (j := [.tuple (encs b')]) (by rw [List.length_append, List.length_map, List.length_singleton]; omega)
    have b3 := bin_add_tup (i := t.parts ++ il.map blkD ++ [.tuple (encs b')]) (j := ir.map blkD) (by rw [List.length_append, List.length_append, List.length_map, List.length_singleton, List.length_map]; omega)
    have e3 : (PyData.tuple (t.parts ++ il.map blkD ++ [.tuple (encs b')] ++ ir.map blkD)) = t'.enc := by rw [et']; simp [blkD]
    rw [e3] at b3
    have a1 : bin .add (.tuple (encs pre)) (.tuple [t'.enc]) = some (.val (.tuple (encs (pre ++ [t'])))) := by
      rw [encs_append]
      exact bin_add_tup (by rw [encs_length, List.length_singleton]; omega)
    have a2 := bin_add_tup (i := encs (pre ++ [t'])) (j := encs post) (by rw [encs_length, encs_length, List.length_append, List.length_singleton]; omega)
    rw [← encs_append] at a2
    have eb : ((pre.length : Int) + 1) = ((pre.length + 1 : Nat) : Int) := by omega
    have eb2 : ((il.length : Int) + 1) = ((il.length + 1 : Nat) : Int) := by omega
    have elen : blt .len [t.enc] = some (.val (.int ((t.parts ++ innD t : List D).length : Nat))) := by rw [enc_parts, blt_len_tup]
    have esl : psl t.enc none (some (t.parts.length : Nat)) = some (.val (.tuple t.parts)) := by rw [enc_parts, psl_tup, cut_parts]
    exists F.f__law_put, pix_path0, pix_path1, hix, hl, cmp_gt_int, g, hbl, elen, blt_len_tup, len_enc, esl, hix2, psl_path, hphi, psl_tup, hc1, hc2, b1, b2, b3, cut_pre, cut_post, bin_add_int, eb, eb2, a1, a2
end G
set_option maxHeartbeats 4000000
namespace G
open PySem
open PyData (strOk)
variable {T : Str → Option MF} {Γ : Str → Option D} {exc : Str → Bool}
theorem InAt.len {ss : List St} {p : List Nat} {s : St} (h : InAt ss p s) : p.length ≤ 2 * deeps ss := by
  induction h with
  | here pre s post =>
    have : 1 ≤ s.deep := by cases s <;> simp [St.deep] <;> omega
    have := (sub_facts (ss := pre ++ s :: post) rfl (Nat.le_refl _)).1
    simp only [List.length_cons, List.length_nil]
    omega
  | deep pre t post il b ir p s hi hb ih =>
    have h1 := (sub_facts (ss := pre ++ t :: post) rfl (Nat.le_refl _)).1
    have h2 : deeps b < t.deep := by
      rcases inner_cases t with ⟨ei, el⟩ | ⟨c, ei, el, ed, ez⟩ | ⟨y, n', ei, el, ed1, ed2, ez⟩
      · rw [ei] at hi
        simp at hi
      · rw [ei] at hi
        match il, hi with
        | [], hi =>
          simp at hi
          rw [← hi.1]
          exact ed
        | _ :: _, hi => simp at hi
      · rw [ei] at hi
        match il, hi with
        | [], hi =>
          simp at hi
          rw [← hi.1]
          exact ed1
        | [_], hi =>
          simp at hi
          rw [← hi.2.1]
          exact ed2
        | _ :: _ :: _, hi => simp at hi
    simp only [List.length_cons]
    omega
theorem pkeys_enc : ∀ l : List (List Nat × St), pkeys (encL l) = some (l.map fun q => (q.1.map fun (k : Nat) => (k : Int), q.2.enc))
  | [] => rfl
  | q :: l => by
    have e : intsD (q.1.map fun (k : Nat) => PyData.int k) = some (q.1.map fun (k : Nat) => (k : Int)) := by
      have := intsD_map (q.1.map fun (k : Nat) => (k : Int))
      rw [List.map_map] at this
      exact this
    show (intsD (q.1.map fun (k : Nat) => PyData.int k)).bind (fun k => (pkeys (encL l)).map ((k, q.2.enc) :: ·)) = _
    rw [e, pkeys_enc l]
    rfl
theorem lastAt_eq {k : List Int} {d : D} : ∀ {l : List (List Int × D)}, (∀ q ∈ l, q.1 = k → q.2 = d) → (∃ q ∈ l, q.1 = k) → lastAt k l = some d
  | [], _, h => by
    obtain ⟨q, hq, _⟩ := h
    cases hq
  | q :: l, h1, h2 => by
    have h1' := fun x hx => h1 x (List.mem_cons_of_mem _ hx)
    unfold lastAt
    by_cases hl : ∃ x ∈ l, x.1 = k
    · rw [lastAt_eq h1' hl]
    · have hn : lastAt k l = none := by
        clear h1 h2 h1'
        induction l with
        | nil => rfl
        | cons y l ih =>
          have := ih fun ⟨x, hx, e⟩ => hl ⟨x, List.mem_cons_of_mem _ hx, e⟩
          unfold lastAt
          rw [this]
          exact if_neg fun e => hl ⟨y, List.mem_cons_self, e⟩
      rw [hn]
      obtain ⟨x, hx, e⟩ := h2
      rcases List.mem_cons.mp hx with rfl | hx
      · simp only [e, if_true]
        rw [h1 x List.mem_cons_self e]
      · exact absurd ⟨x, hx, e⟩ hl
theorem castP_inj : ∀ {p q : List Nat}, (p.map fun (k : Nat) => (k : Int)) = q.map (fun (k : Nat) => (k : Int)) → p = q
  | [], [], _ => rfl
  | [], _ :: _, h => by simp at h
  | _ :: _, [], h => by simp at h
  | a :: p, b :: q, h => by
    simp only [List.map_cons, List.cons.injEq] at h
    rw [castP_inj h.2]
    have : a = b := by omega
    rw [this]
theorem dget_listed {ss : List St} (hz : sizes ss ≤ 1000) {q : List Nat × St} (hq : q ∈ listeds [] 0 ss) : dgetD (.list (encL (listeds [] 0 ss))) (pathD q.1) = some q.2.enc := by
  have big : (10000 : Nat) ≤ sizeLine := by decide
  have hl : (encL (listeds [] 0 ss)).length ≤ sizeLine := by rw [encL_len, listeds_len]; omega
  have e : intsD (q.1.map fun (k : Nat) => PyData.int k) = some (q.1.map fun (k : Nat) => (k : Int)) := by
    have := intsD_map (q.1.map fun (k : Nat) => (k : Int))
    rw [List.map_map] at this
    exact this
  show (if (encL (listeds [] 0 ss)).length ≤ sizeLine then (pkeys (encL (listeds [] 0 ss))).bind (fun xs => (intsD (q.1.map fun (k : Nat) => PyData.int k)).bind fun k => lastAt k xs) else none) = _
  rw [if_pos hl, pkeys_enc, e]
  refine lastAt_eq (fun x hx ex => ?_) ⟨_, List.mem_map_of_mem hq, rfl⟩
  obtain ⟨y, hy, rfl⟩ := List.mem_map.mp hx
  have ey := castP_inj ex
  obtain ⟨p1, e1, i1⟩ := in_listed _ ss (Nat.le_refl _) [] q hq
  obtain ⟨p2, e2, i2⟩ := in_listed _ ss (Nat.le_refl _) [] y hy
  rw [List.nil_append] at e1 e2
  rw [← e1] at i1
  rw [← e2, ey] at i2
  rw [i1.one i2]
abbrev twD : D := dctD [("look", "peek"), ("peek", "look"), ("tell", "get"), ("get", "tell"), ("zero", "nil"), ("nil", "zero")]
theorem dfind_eq : ∀ (kvs : List (Str × Str)) (x : Str), dfind (kvs.map fun p => (.str p.1, .str p.2)) x = some ((kvs.find? fun p => decide (p.1 = x)).map fun p => .str p.2)
  | [], _ => rfl
  | p :: r, x => by
    show (dfind (r.map fun p => (.str p.1, .str p.2)) x).map (fun o => if p.1 = x then some (.str p.2) else o) = _
    rw [dfind_eq r x, List.find?_cons]
    by_cases h : p.1 = x <;> simp [h]
theorem pin_dct (kvs : List (Str × Str)) (x : Str) : cmp .in_ (.str x) (dctD kvs) = some (kvs.find? fun p => decide (p.1 = x)).isSome := by
  show (dfind (kvs.map fun p => (.str p.1, .str p.2)) x).map (·.isSome) = _
  rw [dfind_eq]
  cases kvs.find? fun p => decide (p.1 = x) <;> rfl
theorem pix_dct (kvs : List (Str × Str)) (x : Str) : pix (dctD kvs) (.str x) = (kvs.find? fun p => decide (p.1 = x)).map fun p => .str p.2 := by
  have e : pix (dctD kvs) (.str x) = (dfind (kvs.map fun p => (.str p.1, .str p.2)) x).bind id := by
    cases kvs <;> rfl
  rw [e, dfind_eq]
  rfl
abbrev twL : List (Str × Str) := [("look", "peek"), ("peek", "look"), ("tell", "get"), ("get", "tell"), ("zero", "nil"), ("nil", "zero")]
theorem like_pl {w w' : RW} (k : Str) (h : w ≠ .drop) (h' : w' ≠ .drop) : Like [.pl w' k] (.pl w k) :=
  ⟨fun ns d ho => by simpa [oks, St.ok] using ho, fun ns ho => by simp [okBody, h, h'] at ho ⊢; exact ho, Nat.le_refl _, Nat.le_refl _, Nat.le_refl _⟩
theorem like_br {w w' : BW} (k : Str) (y n : List St) : Like [.br w' k y n] (.br w k y n) :=
  ⟨fun ns d ho => by simpa [oks, St.ok] using ho, fun ns ho => by simp [okBody] at ho, Nat.le_refl _, Nat.le_refl _, Nat.le_refl _⟩
theorem twin_cases (s : St) : cmp .in_ (.str s.word) twD = some false ∨ ∃ s' r, cmp .in_ (.str s.word) twD = some true ∧ pix twD (.str s.word) = some (.str s'.word) ∧ s.enc = .tuple (.str s.word :: r) ∧ s'.enc = .tuple (.str s'.word :: r) ∧ r.length ≤ 3 ∧ Like [s'] s := by
  have no : ∀ x : Str, (twL.find? fun p => decide (p.1 = x)).isSome = false → cmp .in_ (.str x) twD = some false := fun x h => by
    rw [pin_dct, h]
  have yes : ∀ x y : Str, ((twL.find? fun p => decide (p.1 = x)).map fun p => p.2) = some y → cmp .in_ (.str x) twD = some true ∧ pix twD (.str x) = some (.str y) := fun x y h => by
    rw [pin_dct, pix_dct]
    obtain ⟨p, hp, rfl⟩ := Option.map_eq_some_iff.mp h
    rw [hp]
    exact ⟨rfl, rfl⟩
  have pl : ∀ (w w' : RW) (k : Str), w ≠ .drop → w' ≠ .drop → ((twL.find? fun p => decide (p.1 = w.str)).map fun p => p.2) = some w'.str → _ := fun w w' k h h' e =>
    (⟨.pl w' k, [.str k], (yes _ _ e).1, (yes _ _ e).2, by simp [St.enc, St.word], by simp [St.enc, St.word], by simp, like_pl k h h'⟩ : ∃ s' r, cmp .in_ (.str (St.pl w k).word) twD = some true ∧ pix twD (.str (St.pl w k).word) = some (.str s'.word) ∧ (St.pl w k).enc = .tuple (.str (St.pl w k).word :: r) ∧ s'.enc = .tuple (.str s'.word :: r) ∧ r.length ≤ 3 ∧ Like [s'] (St.pl w k))
  have br : ∀ (w w' : BW) (k : Str) (y n : List St), ((twL.find? fun p => decide (p.1 = w.str)).map fun p => p.2) = some w'.str → _ := fun w w' k y n e =>
    (⟨.br w' k y n, [.str k, .tuple (encs y), .tuple (encs n)], (yes _ _ e).1, (yes _ _ e).2, by simp [St.enc, St.word], by simp [St.enc, St.word], by simp, like_br k y n⟩ : ∃ s' r, cmp .in_ (.str (St.br w k y n).word) twD = some true ∧ pix twD (.str (St.br w k y n).word) = some (.str s'.word) ∧ (St.br w k y n).enc = .tuple (.str (St.br w k y n).word :: r) ∧ s'.enc = .tuple (.str s'.word :: r) ∧ r.length ≤ 3 ∧ Like [s'] (St.br w k y n))
  cases s with
  | pl w k =>
    cases w with
    | look => exact .inr (pl .look .peek k (by simp) (by simp) (by decide +kernel))
    | peek => exact .inr (pl .peek .look k (by simp) (by simp) (by decide +kernel))
    | tell => exact .inr (pl .tell .get k (by simp) (by simp) (by decide +kernel))
    | get => exact .inr (pl .get .tell k (by simp) (by simp) (by decide +kernel))
    | drop => exact .inl (no "drop" (by decide +kernel))
  | al w => exact .inl (no _ (by cases w <;> (simp only [St.word, AW.str]; decide +kernel)))
  | put k i => exact .inl (no "put" (by decide +kernel))
  | br w k y n =>
    cases w with
    | zero => exact .inr (br .zero .nil k y n (by decide +kernel))
    | nil => exact .inr (br .nil .zero k y n (by decide +kernel))
    | has => exact .inl (no "has" (by decide +kernel))
  | same y n => exact .inl (no "same" (by decide +kernel))
  | walk b => exact .inl (no "walk" (by decide +kernel))
structure HasNear (T : Str → Option MF) : Prop extends HasPut T, HasGen T where
  near : T "_law_near" = some F.f__law_near
theorem GenP.okp {m : Nat} {P : Prog} (h : GenP m P) : OkP P := ⟨allNames_ok h.names, h.ok, Nat.le_trans h.size (by decide), h.walks⟩
theorem eq_lit (i j : Int) (b : Bool) (h : decide (i = j) = b) : cmp .eq (.int i) (.int j) = some b := by rw [cmp_eq_int, h]
theorem shaped_paths (l : List (List Nat × St)) : SeqAt.shaped (.list (l.map fun q => pathD q.1)) = true :=
  (sh_lst (n := 1).mpr fun x hx => by
    obtain ⟨q, _, rfl⟩ := List.mem_map.mp hx
    exact sh_tup.mpr fun y hy => by
      obtain ⟨k, _, rfl⟩ := List.mem_map.mp hy
      exact sh_int 0 _).shaped (by omega)
theorem eq_paths (l : List (List Nat × St)) : cmp .eq (.list (l.map fun q => pathD q.1)) (.list []) = some l.isEmpty := by
  rw [cmp_eq (shaped_paths l) (show SeqAt.shaped (.list []) = true by decide +kernel)]
  cases l <;> rfl
def fstD : D → D
  | .tuple [x, _] => x
  | _ => .none
theorem ph_near (h : HasNear T) (n : Nat) {ds : List D} (hd : Dr ds) {m : Nat} {P : Prog} (hP : GenP m P) :
    ∃ P' ds', Phi T Γ exc (n + 12) "_law_near" [.own ds, .val P.enc] = .ok (.val P'.enc, [ds']) ∧ OkP P' ∧ Dr ds' := by
  have big : (10000 : Nat) ≤ sizeLine := by decide
  have hO := hP.okp
  have hz := hP.size
  have hdp := hO.deep
  obtain ⟨r, d1, f1, r0, r1, hd1⟩ := ph_draw (Γ := Γ) (exc := exc) h.toHasDraw (n + 10) hd (m := 4) (by decide) (by decide)
  have f1 : Phi T Γ exc (n + 11) "_law_draw" [.own ds, .val (.int 4)] = .ok (.val (.int r), [d1]) := f1
  have hl : Phi T Γ exc (n + 11) "_law_listed" [.val (.tuple (encs P.steps)), .val (.tuple [])] = .ok (.fresh (encL (listeds [] 0 P.steps)), []) :=
    ph_law_listed (exc := exc) h.toHasLaw 4 (n + 5) P.steps hdp (by omega) [] (by simp)
  have e1 := listeds_len [] 0 P.steps
  have hlen : lines (encL (listeds [] 0 P.steps)).length = true := lines_small (by rw [encL_len]; omega)
  have hc := comp_map (C := ⟨Phi T Γ exc (n + 11), Γ, [0], exc, Phi2 T Γ exc (n + 11)⟩) (own := [4, 5]) (tg := .tup [4, 5]) (el := .slot 4) (g := fstD) (xs := encL (listeds [] 0 P.steps)) (ρ := [some (.own ds), some (.val P.enc), some (.val (.tuple (P.names.map .str))), some (.val (.tuple (encs P.steps))), none, none, none, none, none]) [some (.own ds), some (.val P.enc), some (.val (.tuple (P.names.map .str))), some (.val (.tuple (encs P.steps))), none, none, none, none, none] rfl rfl (fun x hx => by
    obtain ⟨q, hq, rfl⟩ := List.mem_map.mp hx
    exact ⟨_, rfl, rfl, .val (pathD q.1), rfl, rfl⟩)
  have hm : (encL (listeds [] 0 P.steps)).map fstD = (listeds [] 0 P.steps).map fun q => pathD q.1 := by
    unfold encL
    rw [List.map_map]
    rfl
  rw [hm] at hc
  have hq := eq_paths (listeds [] 0 P.steps)
  have l2 : ∀ i : Nat, L2.ixN 2 i = some i → True := fun _ _ => trivial
  by_cases hE : (listeds [] 0 P.steps).isEmpty = true
  · refine ⟨P, d1, ?_, hO, hd1⟩
    rw [hE] at hq
    rw [phi_at h.near rfl]
    unfold Prog.enc at hc ⊢
    exists F.f__law_near, hl, walkOf, hlen
    exists hc, f1, hq
  rw [Bool.not_eq_true] at hE
  rw [hE] at hq
  have hcase : r = 0 ∨ r = 1 ∨ r = 2 ∨ r = 3 := by omega
  rcases hcase with rfl | hr
  · refine ⟨P, d1, ?_, hO, hd1⟩
    have z := eq_lit 0 0 true (by decide)
    rw [phi_at h.near rfl]
    unfold Prog.enc at hc ⊢
    exists F.f__law_near, hl, walkOf, hlen
    exists hc, f1, hq, z
  obtain ⟨x, d2, f2, hx, hd2⟩ := ph_of (Γ := Γ) (exc := exc) h.toHasDraw (n + 9) hd1 (xs := (listeds [] 0 P.steps).map fun q => pathD q.1) (by
    intro z
    rw [List.map_eq_nil_iff] at z
    rw [z] at hE
    cases hE) (by rw [List.length_map]; omega)
  have f2 : Phi T Γ exc (n + 11) "_law_of" [.own d1, .val (.list ((listeds [] 0 P.steps).map fun q => pathD q.1))] = .ok (.val x, [d2]) := f2
  obtain ⟨⟨p, s⟩, hps, rfl⟩ := List.mem_map.mp hx
  obtain ⟨p', ep, hin⟩ := in_listed _ P.steps (Nat.le_refl _) [] (p, s) hps
  rw [List.nil_append] at ep
  simp only at ep hin
  subst ep
  have hpl := hin.len
  have hg := dget_listed (ss := P.steps) (by omega) hps
  simp only at hg
  have okput : ∀ ss', NoWorse P.steps ss' → OkP ⟨P.names, ss'⟩ := fun ss' hw => ⟨hO.names, hw.ok _ _ hO.ok, Nat.le_trans hw.size hO.size, Nat.le_trans hw.walks hO.walks⟩
  rcases hr with rfl | hr
  · obtain ⟨ss', hw, _, hput⟩ := put_ok (Γ := Γ) (exc := exc) h.toHasPut hin (more := []) ⟨fun _ _ _ => by simp [oks], fun _ _ => rfl, by simp, by simp [sizes], by simp [walkss]⟩ (by omega)
    have hput : Phi T Γ exc (n + 11) "_law_put" [.val (.tuple (encs P.steps)), .val (pathD p), .val (.tuple [])] = .ok (.val (.tuple (encs ss')), []) := hput (n + 11) (by omega)
    refine ⟨⟨P.names, ss'⟩, d2, ?_, okput ss' hw, hd2⟩
    have z := eq_lit 1 0 false (by decide)
    have z1 := eq_lit 1 1 true (by decide)
    rw [phi_at h.near rfl]
    unfold Prog.enc at hc ⊢
    exists F.f__law_near, hl, walkOf, hlen
    exists hc, f1, hq, z, f2, z1, hput
  · have hw1 : ∃ rr, s.enc = .tuple (.str s.word :: rr) := enc_word s
    have main3 : cmp .eq (.int r) (.int 2) = some false ∨ cmp .in_ (.str s.word) twD = some false → ∃ P' ds', Phi T Γ exc (n + 12) "_law_near" [.own ds, .val P.enc] = .ok (.val P'.enc, [ds']) ∧ OkP P' ∧ Dr ds' := by
      intro hor
      have z := eq_lit r 0 false (decide_eq_false (by omega))
      have z1 := eq_lit r 1 false (decide_eq_false (by omega))
      have z2 : ∃ b, cmp .eq (.int r) (.int 2) = some b ∧ (b = true → cmp .in_ (.str s.word) twD = some false) := by
        rcases hor with hor | hor
        · exact ⟨false, hor, fun z => by cases z⟩
        · exact ⟨decide (r = 2), cmp_eq_int r 2, fun _ => hor⟩
      obtain ⟨b, z2, z3⟩ := z2
      obtain ⟨rr, er⟩ := hw1
      have hpl1 := len_path p
      by_cases h1 : p.length = 1
      · obtain ⟨sp, d3, f3, hsp, hso, hd3⟩ := ph_plain (Γ := Γ) (exc := exc) h.toHasGen (n + 8) hd2 hP.names
        have f3 : Phi T Γ exc (n + 11) "_law_plain_one" [.own d2, .val (.tuple (P.names.map .str))] = .ok (.val sp.enc, [d3]) := f3
        obtain ⟨pre, post, es, epp⟩ : ∃ pre post, P.steps = pre ++ s :: post ∧ p = [pre.length] := by
          generalize P.steps = ss at hin
          cases hin with
          | here pre s post => exact ⟨pre, post, rfl, rfl⟩
          | deep pre t post il b ir p s hi hb => simp at h1
        subst epp
        have c1 : cmp .eq (.int ((1 : Nat) : Int)) (.int 1) = some true := eq_lit _ _ _ (by decide)
        have c2 : cmp .lt (.int (((listeds [] 0 P.steps).map fun q => pathD q.1).length : Nat)) (.int 14) = some true := by
          rw [cmp_lt_int, List.length_map, decide_eq_true (by omega)]
        have hl0 := len_sizes P.steps
        rw [es, List.length_append, List.length_cons] at hl0
        have k1 : cut (encs P.steps) none (some (pre.length : Int)) = encs pre := by rw [es]; exact cut_pre pre s post
        have k2 : cut (encs P.steps) (some (pre.length : Int)) none = encs (s :: post) := by
          rw [cut_drop, es, encs_append]
          exact List.drop_left' (encs_length pre)
        have a1 : bin .add (.tuple (encs pre)) (.tuple [sp.enc]) = some (.val (.tuple (encs (pre ++ [sp])))) := by
          rw [encs_append]
          refine bin_add_tup ?_
          rw [encs_length, List.length_singleton]
          rw [es, sizes_append] at hz
          have := len_sizes pre
          omega
        have a2 := bin_add_tup (i := encs (pre ++ [sp])) (j := encs (s :: post)) (by
          rw [encs_length, encs_length, List.length_append, List.length_singleton]
          have := len_sizes (pre ++ s :: post)
          rw [← es, es, List.length_append] at this
          rw [es] at hz
          omega)
        rw [← encs_append] at a2
        refine ⟨⟨P.names, pre ++ [sp] ++ (s :: post)⟩, d3, ?_, ⟨hO.names, ?_, ?_, ?_⟩, hd3⟩
        · have z3' := z3
          rw [phi_at h.near rfl]
          unfold Prog.enc at hc ⊢
          cases b with
          | false =>
            exists F.f__law_near, hl, walkOf, hlen
            exists hc, f1, hq, z, f2, z1, z2, hl, hg, er, pix_tup0, len_path, c1, blt_len_lst, c2, pix_path0, psl_tup, k1, k2, f3, a1, a2
          | true =>
            exists F.f__law_near, hl, walkOf, hlen
            exists hc, f1, hq, z, f2, z1, z2, z3 rfl, hl, hg, er, pix_tup0, len_path, c1, blt_len_lst, c2, pix_path0, psl_tup, k1, k2, f3, a1, a2
        · have := hO.ok
          rw [es, oks_append, Bool.and_eq_true] at this
          show oks P.names 4 (pre ++ [sp] ++ (s :: post)) = true
          rw [oks_append, oks_append, this.1, this.2]
          simp only [oks, hso 4, Bool.and_self]
        · show sizes (pre ++ [sp] ++ (s :: post)) ≤ 14
          rw [sizes_append, sizes_append]
          rw [es, sizes_append] at hz
          have := (plain_size hsp).1
          simp only [sizes] at hz ⊢
          omega
        · show walkss (pre ++ [sp] ++ (s :: post)) ≤ 1
          have hwk := hP.walks
          rw [walkss_append, walkss_append]
          rw [es, walkss_append] at hwk
          have := (plain_size hsp).2
          simp only [walkss] at hwk ⊢
          omega
      · have c1 : cmp .eq (.int (p.length : Int)) (.int 1) = some false := eq_lit _ _ _ (decide_eq_false (by omega))
        refine ⟨P, d2, ?_, hO, hd2⟩
        rw [phi_at h.near rfl]
        unfold Prog.enc at hc ⊢
        cases b with
        | false =>
          exists F.f__law_near, hl, walkOf, hlen
          exists hc, f1, hq, z, f2, z1, z2, hl, hg, er, pix_tup0, len_path, c1
        | true =>
          exists F.f__law_near, hl, walkOf, hlen
          exists hc, f1, hq, z, f2, z1, z2, z3 rfl, hl, hg, er, pix_tup0, len_path, c1
    rcases hr with rfl | rfl
    · rcases twin_cases s with ht | ⟨s', rr, t1, t2, t3, t4, t5, t6⟩
      · exact main3 (.inr ht)
      · obtain ⟨ss', hw, _, hput⟩ := put_ok (Γ := Γ) (exc := exc) h.toHasPut hin (more := [s']) t6 (by omega)
        have hput : Phi T Γ exc (n + 11) "_law_put" [.val (.tuple (encs P.steps)), .val (pathD p), .val (.tuple [s'.enc])] = .ok (.val (.tuple (encs ss')), []) := hput (n + 11) (by omega)
        refine ⟨⟨P.names, ss'⟩, d2, ?_, okput ss' hw, hd2⟩
        have z := eq_lit 2 0 false (by decide)
        have z1 := eq_lit 2 1 false (by decide)
        have z2 := eq_lit 2 2 true (by decide)
        have k1 : cut (.str s.word :: rr) (some 1) none = rr := cut_drop (.str s.word :: rr) 1
        have a1 : bin .add (.tuple [.str s'.word]) (.tuple rr) = some (.val s'.enc) := by
          rw [t4]
          exact bin_add_tup (by rw [List.length_singleton]; omega)
        rw [phi_at h.near rfl]
        unfold Prog.enc at hc ⊢
        exists F.f__law_near, hl, walkOf, hlen
        exists hc, f1, hq, z, f2, z1, z2, hl, hg, t3, pix_tup0, t1, t2, psl_tup, k1, a1, hput
    · exact main3 (.inl (eq_lit 3 2 false (by decide)))
end G
set_option maxHeartbeats 4000000
namespace G
open PySem
open PyData (strOk)
variable {T : Str → Option MF} {Γ : Str → Option D} {exc : Str → Bool}
theorem hide_nil : hide [] = [] := rfl
theorem hide_val (d : D) (ρ : Rho) : hide (some (.val d) :: ρ) = some (.val d) :: hide ρ := rfl
theorem hide_own (d : List D) (ρ : Rho) : hide (some (.own d) :: ρ) = none :: hide ρ := rfl
theorem hide_none (ρ : Rho) : hide (none :: ρ) = none :: hide ρ := rfl
theorem toldV_val (exc : Str → Bool) (ρ ρ' : Rho) (d : D) : toldV exc ρ (.ok (.val d, ρ')) = .ok (.val (.tuple [.str "told", d]), ρ) := rfl
theorem toldV_fresh (exc : Str → Bool) (ρ ρ' : Rho) (d : List D) : toldV exc ρ (.ok (.fresh d, ρ')) = .ok (.val (.tuple [.str "told", .list d]), ρ) := rfl
theorem toldV_exc {exc : Str → Bool} {e : Str} (h : exc e = true) (ρ : Rho) : toldV exc ρ (.exc e none) = .ok (.val (.tuple [.str (e ++ " +")]), ρ) := if_pos h
theorem eqvAll_self : ∀ {xs : List D}, (∀ x ∈ xs, PyData.eqv x x = true) → PyData.eqvAll xs xs = true
  | [], _ => by simp [PyData.eqvAll]
  | x :: xs, h => by
    have := eqvAll_self (xs := xs) fun y hy => h y (List.mem_cons_of_mem _ hy)
    simp [PyData.eqvAll, h x (by simp), this]
theorem eqv_tup {xs : List D} (h : ∀ x ∈ xs, PyData.eqv x x = true) : PyData.eqv (.tuple xs) (.tuple xs) = true := by
  rw [PyData.eqv]
  exact eqvAll_self h
theorem eqv_lst {xs : List D} (h : ∀ x ∈ xs, PyData.eqv x x = true) : PyData.eqv (.list xs) (.list xs) = true := by
  rw [PyData.eqv]
  exact eqvAll_self h
theorem eqv_str_self (x : Str) : PyData.eqv (.str x) (.str x) = true := by rw [eqv_str]; exact decide_eq_true rfl
theorem eqv_int_self (x : Int) : PyData.eqv (.int x) (.int x) = true := by rw [eqv_int]; exact decide_eq_true rfl
mutual
theorem eqv_enc : ∀ s : St, PyData.eqv s.enc s.enc = true
  | .pl w k => by
    simp only [St.enc]
    exact eqv_tup fun x hx => by
      simp only [List.mem_cons, List.mem_nil_iff, or_false] at hx
      rcases hx with rfl | rfl <;> exact eqv_str_self _
  | .al w => by
    simp only [St.enc]
    exact eqv_tup fun x hx => by
      simp only [List.mem_cons, List.mem_nil_iff, or_false] at hx
      rw [hx]
      exact eqv_str_self _
  | .put k n => by
    simp only [St.enc]
    exact eqv_tup fun x hx => by
      simp only [List.mem_cons, List.mem_nil_iff, or_false] at hx
      rcases hx with rfl | rfl | rfl <;> first | exact eqv_str_self _ | exact eqv_int_self _
  | .br w k y n => by
    have h1 := eqv_encs y
    have h2 := eqv_encs n
    simp only [St.enc]
    exact eqv_tup fun x hx => by
      simp only [List.mem_cons, List.mem_nil_iff, or_false] at hx
      rcases hx with rfl | rfl | rfl | rfl <;> first | exact eqv_str_self _ | exact eqv_tup h1 | exact eqv_tup h2
  | .same y n => by
    have h1 := eqv_encs y
    have h2 := eqv_encs n
    simp only [St.enc]
    exact eqv_tup fun x hx => by
      simp only [List.mem_cons, List.mem_nil_iff, or_false] at hx
      rcases hx with rfl | rfl | rfl <;> first | exact eqv_str_self _ | exact eqv_tup h1 | exact eqv_tup h2
  | .walk b => by
    have h1 := eqv_encs b
    simp only [St.enc]
    exact eqv_tup fun x hx => by
      simp only [List.mem_cons, List.mem_nil_iff, or_false] at hx
      rcases hx with rfl | rfl <;> first | exact eqv_str_self _ | exact eqv_tup h1
theorem eqv_encs : ∀ ss : List St, ∀ x ∈ encs ss, PyData.eqv x x = true
  | [], x, hx => by simp [encs] at hx
  | s :: r, x, hx => by
    have h1 := eqv_enc s
    have h2 := eqv_encs r
    simp only [encs, List.mem_cons] at hx
    rcases hx with rfl | hx
    · exact h1
    · exact h2 x hx
end
theorem eqv_prog (P : Prog) : PyData.eqv P.enc P.enc = true := by
  unfold Prog.enc
  exact eqv_tup fun x hx => by
    simp only [List.mem_cons, List.mem_nil_iff, or_false] at hx
    rcases hx with rfl | rfl
    · exact eqv_tup fun y hy => by
        obtain ⟨k, _, rfl⟩ := List.mem_map.mp hy
        exact eqv_str_self k
    · exact eqv_tup (eqv_encs P.steps)
theorem sh_prog {P : Prog} (h : OkP P) : Sh 10 P.enc := by
  unfold Prog.enc
  exact sh_tup.mpr fun x hx => by
    simp only [List.mem_cons, List.mem_nil_iff, or_false] at hx
    rcases hx with rfl | rfl
    · exact sh_tup.mpr (sh_strs h.strs)
    · have := h.deep
      exact sh_tup.mpr fun z hz => (sh_encs P.steps h.tidy z hz).mono (by omega)
theorem ne_told {P : Prog} (h : OkP P) : cmp .ne (.tuple [.str "told", P.enc]) (.tuple [.str "told", P.enc]) = some false := by
  have hs : SeqAt.shaped (.tuple [.str "told", P.enc]) = true := (sh_tup (n := 10).mpr fun x hx => by
    simp only [List.mem_cons, List.mem_nil_iff, or_false] at hx
    rcases hx with rfl | rfl
    · exact sh_str _ (by decide +kernel)
    · exact sh_prog h).shaped (by omega)
  rw [cmp_ne hs hs, eqv_tup fun x hx => by
    simp only [List.mem_cons, List.mem_nil_iff, or_false] at hx
    rcases hx with rfl | rfl
    · exact eqv_str_self _
    · exact eqv_prog P]
  rfl
end G
set_option maxHeartbeats 4000000
namespace G
open PySem
open PyData (strOk)
variable {T : Str → Option MF} {Γ : Str → Option D} {exc : Str → Bool}
def castP (p : List Nat) : List Int := p.map fun (k : Nat) => (k : Int)
theorem pathD_cast (p : List Nat) : pathD p = .tuple ((castP p).map .int) := by
  unfold pathD castP
  rw [List.map_map]
  rfl
def ltP (p q : List Nat) : Bool := decide (castP p < castP q)
def leP (p q : List Nat) : Bool := decide (castP p ≤ castP q)
theorem dataLt_path (p q : List Nat) : PySem.W.dataLt (pathD p) (pathD q) = ltP p q := by
  rw [pathD_cast, pathD_cast, PySem.W.dataLt_tuple]
  exact PySem.W.dataLt_ints (castP p) (castP q)
theorem alike_path (p q : List Nat) : PySem.W.alike (pathD p) (pathD q) = true := by
  rw [pathD_cast, pathD_cast]
  simp only [PySem.W.alike]
  exact PySem.W.alike_ints (castP p) (castP q)
theorem shaped_path (p : List Nat) : SeqAt.shaped (pathD p) = true :=
  (sh_tup (n := 0).mpr fun y hy => by
    obtain ⟨k, _, rfl⟩ := List.mem_map.mp hy
    exact sh_int 0 _).shaped (by omega)
theorem sh_path (p : List Nat) : Sh 1 (pathD p) := sh_tup.mpr fun y hy => by
  obtain ⟨k, _, rfl⟩ := List.mem_map.mp hy
  exact sh_int 0 _
theorem cmp_lt_path (p q : List Nat) : cmp .lt (pathD p) (pathD q) = some (ltP p q) := by
  have : cmpOk (pathD p) (pathD q) = true := by
    unfold cmpOk
    rw [alike_path, shaped_path, shaped_path]
    rfl
  show (if cmpOk (pathD p) (pathD q) then some _ else none) = _
  rw [if_pos this, dataLt_path]
theorem eqvAll_ints : ∀ xs ys : List Nat, PyData.eqvAll (xs.map fun (k : Nat) => PyData.int k) (ys.map fun (k : Nat) => PyData.int k) = decide (xs = ys)
  | [], [] => by simp [PyData.eqvAll]
  | [], _ :: _ => by simp [PyData.eqvAll]
  | _ :: _, [] => by simp [PyData.eqvAll]
  | x :: xs, y :: ys => by
    simp only [List.map_cons, PyData.eqvAll, eqv_int, eqvAll_ints xs ys]
    by_cases h1 : x = y
    · subst h1
      simp
    · have : ¬ ((x : Int) = y) := by omega
      simp [h1, this]
theorem eqv_path (p q : List Nat) : PyData.eqv (pathD p) (pathD q) = decide (p = q) := by
  unfold pathD
  rw [PyData.eqv]
  exact eqvAll_ints p q
theorem cmp_eq_path (p q : List Nat) : cmp .eq (pathD p) (pathD q) = some (decide (p = q)) := by
  rw [cmp_eq (shaped_path p) (shaped_path q), eqv_path]
def sortP (ps : List (List Nat)) : List (List Nat) := ps.mergeSort leP
theorem dataLe_path (p q : List Nat) : PySem.W.dataLe false (fun x : D => x) (pathD p) (pathD q) = leP p q := by
  rw [PySem.W.dataLe_eq]
  show (!PySem.W.dataLt (pathD q) (pathD p)) = _
  rw [dataLt_path]
  unfold ltP leP
  by_cases h : castP q < castP p
  · rw [decide_eq_true h, decide_eq_false (fun z => List.not_lt.mpr z h)]
    rfl
  · rw [decide_eq_false h, decide_eq_true (List.not_lt.mp h)]
    rfl
theorem sortD_path (ps : List (List Nat)) : sortD (ps.map pathD) = (sortP ps).map pathD := by
  unfold sortD sortP
  exact (List.map_mergeSort fun a _ b _ => (dataLe_path a b).symm).symm
theorem blt_sorted_path {ps : List (List Nat)} (h0 : ∀ p ∈ ps, p ≠ []) (hl : ps.length ≤ 1000) : blt .sorted [.list (ps.map pathD)] = some (.fresh ((sortP ps).map pathD)) := by
  have : sortOk (ps.map pathD) = true := by
    unfold sortOk
    simp only [Bool.and_eq_true, Bool.or_eq_true]
    refine ⟨⟨⟨?_, ?_⟩, lines_small (by rw [List.length_map]; omega)⟩, .inl ?_⟩
    · rw [List.all_eq_true]
      intro x hx
      rw [List.all_eq_true]
      intro y hy
      obtain ⟨p, _, rfl⟩ := List.mem_map.mp hx
      obtain ⟨q, _, rfl⟩ := List.mem_map.mp hy
      exact alike_path p q
    · rw [List.all_eq_true]
      intro x hx
      obtain ⟨p, _, rfl⟩ := List.mem_map.mp hx
      exact shaped_path p
    · rw [List.all_eq_true]
      intro x hx
      obtain ⟨p, hp, rfl⟩ := List.mem_map.mp hx
      cases p with
      | nil => exact absurd rfl (h0 _ hp)
      | cons a r => rfl
  show (if sortOk (ps.map pathD) then some (Rs.fresh (sortD (ps.map pathD))) else none) = _
  rw [if_pos this, sortD_path]
theorem sortP_perm (ps : List (List Nat)) : (sortP ps).Perm ps := List.mergeSort_perm _ _
theorem castP_eq {p q : List Nat} (h : castP p = castP q) : p = q := castP_inj h
theorem sortP_asc {ps : List (List Nat)} (hn : ps.Nodup) : (sortP ps).Pairwise fun a b => ltP a b = true := by
  have h1 := List.pairwise_mergeSort (le := leP) (fun a b c h1 h2 => by
    unfold leP at *
    rw [decide_eq_true_eq] at *
    exact List.le_trans h1 h2) (fun a b => by
    unfold leP
    rw [Bool.or_eq_true, decide_eq_true_eq, decide_eq_true_eq]
    exact List.le_total _ _) ps
  have h2 : (sortP ps).Nodup := (sortP_perm ps).nodup_iff.mpr hn
  unfold sortP at h2 ⊢
  have h3 := h1.and h2
  refine h3.imp fun {a b} h => ?_
  obtain ⟨h4, h5⟩ := h
  unfold leP at h4
  unfold ltP
  rw [decide_eq_true_eq] at *
  rcases Classical.em (castP a < castP b) with q | q
  · exact q
  · have := List.le_antisymm h4 (List.not_lt.mp q)
    exact absurd (castP_inj this) h5
theorem listed_pre : ∀ (e : Nat), (∀ s : St, s.deep ≤ e → ∀ p, (∀ q ∈ s.listed p, ∃ j t, q.1 = p ++ j :: t) ∧ ((s.listed p).map (·.1)).Nodup) ∧
    (∀ ss : List St, deeps ss ≤ e → ∀ p i, (∀ q ∈ listeds p i ss, ∃ j t, i ≤ j ∧ q.1 = p ++ j :: t) ∧ ((listeds p i ss).map (·.1)).Nodup) := by
  intro e
  induction e with
  | zero =>
    refine ⟨fun s hs => ?_, fun ss hd => ?_⟩
    · have : 1 ≤ s.deep := by cases s <;> simp [St.deep] <;> omega
      omega
    · cases ss with
      | nil => intro p i; simp [listeds]
      | cons s ss =>
        have : 1 ≤ s.deep := by cases s <;> simp [St.deep] <;> omega
        simp only [deeps] at hd
        omega
  | succ e ih =>
    have hS : ∀ s : St, s.deep ≤ e + 1 → ∀ p, (∀ q ∈ s.listed p, ∃ j t, q.1 = p ++ j :: t) ∧ ((s.listed p).map (·.1)).Nodup := by
      intro s hs p
      rcases inner_cases s with ⟨ei, el⟩ | ⟨b, ei, el, ed, ez⟩ | ⟨y, n', ei, el, ed1, ed2, ez⟩
      · rw [el]
        simp
      · obtain ⟨h1, h2⟩ := ih.2 b (by omega) (p ++ [0]) 0
        rw [el]
        refine ⟨fun q hq => ?_, h2⟩
        obtain ⟨j, t, _, e⟩ := h1 q hq
        exact ⟨0, j :: t, by rw [e]; simp⟩
      · obtain ⟨h1, h2⟩ := ih.2 y (by omega) (p ++ [0]) 0
        obtain ⟨h3, h4⟩ := ih.2 n' (by omega) (p ++ [1]) 0
        rw [el]
        refine ⟨fun q hq => ?_, ?_⟩
        · rcases List.mem_append.mp hq with hq | hq
          · obtain ⟨j, t, _, e⟩ := h1 q hq
            exact ⟨0, j :: t, by rw [e]; simp⟩
          · obtain ⟨j, t, _, e⟩ := h3 q hq
            exact ⟨1, j :: t, by rw [e]; simp⟩
        · rw [List.map_append]
          refine List.nodup_append.mpr ⟨h2, h4, fun a ha b hb hab => ?_⟩
          obtain ⟨qa, hqa, rfl⟩ := List.mem_map.mp ha
          obtain ⟨qb, hqb, rfl⟩ := List.mem_map.mp hb
          obtain ⟨j, t, _, e1⟩ := h1 qa hqa
          obtain ⟨j2, t2, _, e2⟩ := h3 qb hqb
          rw [e1, e2, List.append_assoc, List.append_assoc] at hab
          have := List.append_cancel_left hab
          simp at this
    refine ⟨hS, fun ss => ?_⟩
    induction ss with
    | nil => intro _ p i; simp [listeds]
    | cons s r ihr =>
      intro hd p i
      simp only [deeps] at hd
      obtain ⟨h1, h2⟩ := hS s (by omega) (p ++ [i])
      obtain ⟨h3, h4⟩ := ihr (by omega) p (i + 1)
      have g1 : ∀ q ∈ listeds p i (s :: r), ∃ j t, i ≤ j ∧ q.1 = p ++ j :: t := by
        intro q hq
        simp only [listeds, List.cons_append, List.mem_cons, List.mem_append] at hq
        rcases hq with rfl | hq | hq
        · exact ⟨i, [], Nat.le_refl _, rfl⟩
        · obtain ⟨j, t, e⟩ := h1 q hq
          exact ⟨i, j :: t, Nat.le_refl _, by rw [e]; simp⟩
        · obtain ⟨j, t, e1, e2⟩ := h3 q hq
          exact ⟨j, t, by omega, e2⟩
      refine ⟨g1, ?_⟩
      simp only [listeds, List.cons_append, List.map_cons, List.map_append, List.nodup_cons, List.mem_append, not_or]
      refine ⟨⟨fun z => ?_, fun z => ?_⟩, List.nodup_append.mpr ⟨h2, h4, fun a ha b hb hab => ?_⟩⟩
      · obtain ⟨q, hq, e⟩ := List.mem_map.mp z
        obtain ⟨j, t, e2⟩ := h1 q hq
        rw [e2] at e
        have := congrArg List.length e
        simp at this
      · obtain ⟨q, hq, e⟩ := List.mem_map.mp z
        obtain ⟨j, t, e1, e2⟩ := h3 q hq
        rw [e2] at e
        have := List.append_cancel_left e
        simp at this
        omega
      · obtain ⟨qa, hqa, rfl⟩ := List.mem_map.mp ha
        obtain ⟨qb, hqb, rfl⟩ := List.mem_map.mp hb
        obtain ⟨j, t, e1⟩ := h1 qa hqa
        obtain ⟨j2, t2, e2, e3⟩ := h3 qb hqb
        rw [e1, e3, List.append_assoc] at hab
        have := List.append_cancel_left hab
        simp at this
        omega
theorem paths_nodup (ss : List St) : ((listeds [] 0 ss).map (·.1)).Nodup := ((listed_pre (deeps ss)).2 ss (Nat.le_refl _) [] 0).2
theorem paths_ne {ss : List St} {q : List Nat × St} (h : q ∈ listeds [] 0 ss) : q.1 ≠ [] := by
  obtain ⟨j, t, _, e⟩ := ((listed_pre (deeps ss)).2 ss (Nat.le_refl _) [] 0).1 q h
  rw [e]
  simp
end G
set_option maxHeartbeats 4000000
namespace G
open PySem
open PyData (strOk)
variable {T : Str → Option MF} {Γ : Str → Option D} {exc : Str → Bool}
def atF : List Nat → List St → Option St
  | [], _ => none
  | [k], ss => ss[k]?
  | k :: j :: p, ss => (ss[k]?).bind fun t => (t.inner[j]?).bind fun b => atF p b
theorem setB_inner {t : St} {j : Nat} {b c : List St} (h : t.inner[j]? = some b) (i : Nat) : (t.setB j c).inner[i]? = if i = j then some c else t.inner[i]? := by
  cases t with
  | pl w k => simp [St.inner] at h
  | al w => simp [St.inner] at h
  | put k n => simp [St.inner] at h
  | br w k y n =>
    match j, h with
    | 0, h => match i with
      | 0 => rfl
      | 1 => rfl
      | _ + 2 => rfl
    | 1, h => match i with
      | 0 => rfl
      | 1 => rfl
      | _ + 2 => rfl
    | _ + 2, h => simp [St.inner] at h
  | same y n =>
    match j, h with
    | 0, h => match i with
      | 0 => rfl
      | 1 => rfl
      | _ + 2 => rfl
    | 1, h => match i with
      | 0 => rfl
      | 1 => rfl
      | _ + 2 => rfl
    | _ + 2, h => simp [St.inner] at h
  | walk y =>
    match j, h with
    | 0, h => match i with
      | 0 => rfl
      | _ + 1 => rfl
    | _ + 1, h => simp [St.inner] at h
theorem setB_word (t : St) (j : Nat) (c : List St) : (t.setB j c).word = t.word := by
  cases t <;> cases j <;> rfl
theorem setB_enc {t : St} {il : List (List St)} {b : List St} {ir : List (List St)} {c : List St} (hi : t.inner = il ++ b :: ir) : (t.setB il.length c).enc = .tuple (t.parts ++ il.map blkD ++ [.tuple (encs c)] ++ ir.map blkD) := by
  cases t with
  | pl w k => simp [St.inner] at hi
  | al w => simp [St.inner] at hi
  | put k i => simp [St.inner] at hi
  | br w k y n =>
    match il, hi with
    | [], hi =>
      simp only [St.inner, List.nil_append, List.cons.injEq] at hi
      obtain ⟨rfl, rfl⟩ := hi
      simp [St.setB, St.enc, St.parts, blkD]
    | [y'], hi =>
      simp only [St.inner, List.cons_append, List.nil_append, List.cons.injEq] at hi
      obtain ⟨rfl, rfl, rfl⟩ := hi
      simp [St.setB, St.enc, St.parts, blkD]
    | _ :: _ :: _, hi => simp [St.inner] at hi
  | same y n =>
    match il, hi with
    | [], hi =>
      simp only [St.inner, List.nil_append, List.cons.injEq] at hi
      obtain ⟨rfl, rfl⟩ := hi
      simp [St.setB, St.enc, St.parts, blkD]
    | [y'], hi =>
      simp only [St.inner, List.cons_append, List.nil_append, List.cons.injEq] at hi
      obtain ⟨rfl, rfl, rfl⟩ := hi
      simp [St.setB, St.enc, St.parts, blkD]
    | _ :: _ :: _, hi => simp [St.inner] at hi
  | walk y =>
    match il, hi with
    | [], hi =>
      simp only [St.inner, List.nil_append, List.cons.injEq] at hi
      obtain ⟨rfl, rfl⟩ := hi
      simp [St.setB, St.enc, St.parts, blkD]
    | _ :: _, hi => simp [St.inner] at hi
theorem at_set : ∀ (p : List Nat) {ss : List St} {s x : St}, atF p ss = some s → x.inner = s.inner → ∀ (q : List Nat) {t : St}, atF q ss = some t → ∃ t', atF q (setF p x ss) = some t' ∧ t'.inner.length = t.inner.length ∧ (q = p → t' = x) ∧ (q ≠ p → t'.word = t.word)
  | [], _, _, _, h, _, _, _, _ => by cases h
  | [k], ss, s, x, h, hx, q, t, hq => by
    have h : ss[k]? = some s := h
    have hk : k < ss.length := by
      rcases Nat.lt_or_ge k ss.length with z | z
      · exact z
      · rw [List.getElem?_eq_none z] at h; cases h
    have hg : ∀ i, (ss.set k x)[i]? = if k = i then some x else ss[i]? := fun i => by
      rw [List.getElem?_set]
      by_cases z : k = i
      · subst z
        simp [hk]
      · simp [z]
    match q, hq with
    | [], hq => cases hq
    | [i], hq =>
      have hq : ss[i]? = some t := hq
      show ∃ t', (ss.set k x)[i]? = some t' ∧ _
      rw [hg]
      by_cases z : k = i
      · subst z
        rw [h] at hq
        cases hq
        exact ⟨x, by simp, by rw [hx], fun _ => rfl, fun z => absurd rfl z⟩
      · have z2 : [i] ≠ [k] := fun y => z (by simpa using y.symm)
        exact ⟨t, by simp [z, hq], rfl, fun y => absurd y z2, fun _ => rfl⟩
    | i :: j :: r, hq =>
      have hq : (ss[i]?).bind (fun t => (t.inner[j]?).bind fun b => atF r b) = some t := hq
      show ∃ t', ((ss.set k x)[i]?).bind (fun t => (t.inner[j]?).bind fun b => atF r b) = some t' ∧ _
      have z2 : i :: j :: r ≠ [k] := by simp
      rw [hg]
      by_cases z : k = i
      · subst z
        rw [h] at hq
        simp only [Option.bind_some] at hq
        refine ⟨t, ?_, rfl, fun y => absurd y z2, fun _ => rfl⟩
        simp only [if_true, Option.bind_some, hx]
        exact hq
      · exact ⟨t, by simp only [z, if_false]; exact hq, rfl, fun y => absurd y z2, fun _ => rfl⟩
  | k :: l :: p, ss, s, x, h, hx, q, t, hq => by
    have h : (ss[k]?).bind (fun t => (t.inner[l]?).bind fun b => atF p b) = some s := h
    obtain ⟨u, hu, h'⟩ := Option.bind_eq_some_iff.mp h
    obtain ⟨b, hb, hat⟩ := Option.bind_eq_some_iff.mp h'
    have hk : k < ss.length := by
      rcases Nat.lt_or_ge k ss.length with z | z
      · exact z
      · rw [List.getElem?_eq_none z] at hu; cases hu
    have es : setF (k :: l :: p) x ss = ss.set k (u.setB l (setF p x b)) := by
      show (match ss[k]? with
        | some t => match t.inner[l]? with
          | some b => ss.set k (t.setB l (setF p x b))
          | none => ss
        | none => ss) = _
      rw [hu]
      simp only [hb]
    rw [es]
    have hg : ∀ i, (ss.set k (u.setB l (setF p x b)))[i]? = if k = i then some (u.setB l (setF p x b)) else ss[i]? := fun i => by
      rw [List.getElem?_set]
      by_cases z : k = i
      · subst z
        simp [hk]
      · simp [z]
    have hil : (u.setB l (setF p x b)).inner.length = u.inner.length := by
      cases u <;> cases l <;> rfl
    match q, hq with
    | [], hq => cases hq
    | [i], hq =>
      have hq : ss[i]? = some t := hq
      show ∃ t', (ss.set k (u.setB l (setF p x b)))[i]? = some t' ∧ _
      have z2 : [i] ≠ k :: l :: p := by simp
      rw [hg]
      by_cases z : k = i
      · subst z
        rw [hu] at hq
        cases hq
        exact ⟨_, by simp, hil, fun y => absurd y z2, fun _ => setB_word _ _ _⟩
      · exact ⟨t, by simp [z, hq], rfl, fun y => absurd y z2, fun _ => rfl⟩
    | i :: j :: r, hq =>
      have hq : (ss[i]?).bind (fun t => (t.inner[j]?).bind fun b => atF r b) = some t := hq
      show ∃ t', ((ss.set k (u.setB l (setF p x b)))[i]?).bind (fun t => (t.inner[j]?).bind fun b => atF r b) = some t' ∧ _
      rw [hg]
      by_cases z : k = i
      · subst z
        rw [hu] at hq
        simp only [Option.bind_some] at hq
        obtain ⟨c, hc, hq⟩ := Option.bind_eq_some_iff.mp hq
        simp only [if_true, Option.bind_some, setB_inner hb]
        by_cases z3 : j = l
        · subst z3
          rw [hb] at hc
          cases hc
          obtain ⟨t', a1, a2, a3, a4⟩ := at_set p hat hx r hq
          refine ⟨t', by simp only [if_true, Option.bind_some]; exact a1, a2, fun y => a3 (by simpa using y), fun y => a4 fun z => y (by rw [z])⟩
        · have z5 : k :: j :: r ≠ k :: l :: p := fun y => z3 (by simp at y; exact y.1)
          refine ⟨t, ?_, rfl, fun y => absurd y z5, fun _ => rfl⟩
          simp only [z3, if_false, hc, Option.bind_some]
          exact hq
      · have z5 : i :: j :: r ≠ k :: l :: p := fun y => z (by simp at y; exact y.1.symm)
        refine ⟨t, ?_, rfl, fun y => absurd y z5, fun _ => rfl⟩
        simp only [z, if_false]
        exact hq
theorem InAt.at {ss : List St} {p : List Nat} {s : St} (h : InAt ss p s) : atF p ss = some s := by
  induction h with
  | here pre s post => simp [atF]
  | deep pre t post il b ir p s hi hb ih => simp [atF, hi, ih]
theorem at_in : ∀ (p : List Nat) {ss : List St} {s : St}, atF p ss = some s → InAt ss p s
  | [], _, _, h => by cases h
  | [k], ss, s, h => by
    have h : ss[k]? = some s := h
    obtain ⟨hk, e⟩ := List.getElem?_eq_some_iff.mp h
    have e1 : ss = ss.take k ++ s :: ss.drop (k + 1) := by
      rw [← e, ← List.drop_eq_getElem_cons hk, List.take_append_drop]
    have e2 : (ss.take k).length = k := by rw [List.length_take]; omega
    rw [e1]
    have := InAt.here (ss.take k) s (ss.drop (k + 1))
    rw [e2] at this
    exact this
  | k :: j :: p, ss, s, h => by
    have h : (ss[k]?).bind (fun t => (t.inner[j]?).bind fun b => atF p b) = some s := h
    obtain ⟨u, hu, h⟩ := Option.bind_eq_some_iff.mp h
    obtain ⟨b, hb, h⟩ := Option.bind_eq_some_iff.mp h
    obtain ⟨hk, e⟩ := List.getElem?_eq_some_iff.mp hu
    obtain ⟨hj, f⟩ := List.getElem?_eq_some_iff.mp hb
    have e1 : ss = ss.take k ++ u :: ss.drop (k + 1) := by
      rw [← e, ← List.drop_eq_getElem_cons hk, List.take_append_drop]
    have e2 : (ss.take k).length = k := by rw [List.length_take]; omega
    have f1 : u.inner = u.inner.take j ++ b :: u.inner.drop (j + 1) := by
      rw [← f, ← List.drop_eq_getElem_cons hj, List.take_append_drop]
    have f2 : (u.inner.take j).length = j := by rw [List.length_take]; omega
    rw [e1]
    have := InAt.deep (ss.take k) u (ss.drop (k + 1)) _ b _ p s f1 (at_in p h)
    rw [e2, f2] at this
    exact this
theorem in_at : ∀ {ss : List St} {p : List Nat} {s : St}, InAt ss p s → ∀ a, (a ++ p, s) ∈ listeds a 0 ss := by
  intro ss p s h
  induction h with
  | here pre s post =>
    intro a
    rw [listeds_append]
    simp [listeds]
  | deep pre t post il b ir p s hi hb ih =>
    intro a
    rw [listeds_append]
    refine List.mem_append_right _ ?_
    simp only [listeds, List.cons_append, List.mem_cons, List.mem_append, Nat.zero_add]
    refine .inr (.inl ?_)
    have e : a ++ pre.length :: il.length :: p = (a ++ [pre.length] ++ [il.length]) ++ p := by simp
    rw [e]
    have := ih (a ++ [pre.length] ++ [il.length])
    rcases inner_cases t with ⟨ei, el⟩ | ⟨c, ei, el, ed, ez⟩ | ⟨y, n', ei, el, ed1, ed2, ez⟩
    · rw [ei] at hi
      simp at hi
    · rw [el]
      rw [ei] at hi
      match il, hi with
      | [], hi =>
        simp at hi
        rw [hi.1]
        exact this
      | _ :: _, hi => simp at hi
    · rw [el]
      rw [ei] at hi
      match il, hi with
      | [], hi =>
        simp at hi
        rw [hi.1]
        exact List.mem_append_left _ this
      | [_], hi =>
        simp at hi
        rw [hi.2.1]
        exact List.mem_append_right _ this
      | _ :: _ :: _, hi => simp at hi
end G
set_option maxHeartbeats 4000000
namespace G
open PySem
open PyData (strOk)
variable {T : Str → Option MF} {Γ : Str → Option D} {exc : Str → Bool}
def kvD (l : List (Str × Str)) : List (D × D) := l.map fun p => (.str p.1, .str p.2)
abbrev quL : List (Str × Str) := [("look", "peek"), ("tell", "get"), ("zero", "nil")]
structure HasQuiet (T : Str → Option MF) (Γ : Str → Option D) : Prop where
  prog : HasProg T Γ
  put : HasPut T
  same_kind : T "same_kind" = some F.f_same_kind
  exchanged : T "exchanged" = some F.f_exchanged
  found_at : T "found_at" = some F.f_found_at
  looks_of : T "looks_of" = some F.f_looks_of
  quieted_by : T "quieted_by" = some F.f_quieted_by
  lawlooks : T "_law_looks" = some F.f__law_looks
  lawquieted : T "_law_quieted" = some F.f__law_quieted
  gQUIET : Γ "QUIET" = some (.dict (kvD quL))
def isLook (s : St) : Bool := (quL.find? fun p => decide (p.1 = s.word)).isSome
def quietS : St → St
  | .pl .look k => .pl .peek k
  | .pl .tell k => .pl .get k
  | .br .zero k y n => .br .nil k y n
  | s => s
def wordsW : List Str := ["look", "peek", "tell", "get", "drop", "copy", "count", "keys", "put", "zero", "nil", "has", "same", "walk"]
theorem word_mem (s : St) : s.word ∈ wordsW := by
  cases s with
  | pl w k => cases w with
    | look => exact (by decide +kernel : ("look" : Str) ∈ wordsW)
    | peek => exact (by decide +kernel : ("peek" : Str) ∈ wordsW)
    | tell => exact (by decide +kernel : ("tell" : Str) ∈ wordsW)
    | get => exact (by decide +kernel : ("get" : Str) ∈ wordsW)
    | drop => exact (by decide +kernel : ("drop" : Str) ∈ wordsW)
  | al w => cases w with
    | copy => exact (by decide +kernel : ("copy" : Str) ∈ wordsW)
    | count => exact (by decide +kernel : ("count" : Str) ∈ wordsW)
    | keys => exact (by decide +kernel : ("keys" : Str) ∈ wordsW)
  | put k i => exact (by decide +kernel : ("put" : Str) ∈ wordsW)
  | br w k y n => cases w with
    | zero => exact (by decide +kernel : ("zero" : Str) ∈ wordsW)
    | nil => exact (by decide +kernel : ("nil" : Str) ∈ wordsW)
    | has => exact (by decide +kernel : ("has" : Str) ∈ wordsW)
  | same y n => exact (by decide +kernel : ("same" : Str) ∈ wordsW)
  | walk b => exact (by decide +kernel : ("walk" : Str) ∈ wordsW)
abbrev t3 : D := .tuple [.str "look", .str "tell", .str "zero"]
theorem in_looks (s : St) : cmp .in_ (.str s.word) t3 = some (isLook s) := by
  have key : ∀ x ∈ wordsW, cmp .in_ (.str x) t3 = some (quL.find? fun p => decide (p.1 = x)).isSome := by decide +kernel
  exact key s.word (word_mem s)
theorem look_cases (s : St) : (isLook s = false ∧ dfind (kvD quL) s.word = some none) ∨ (isLook s = true ∧ ∃ r, dfind (kvD quL) s.word = some (some (.str (quietS s).word)) ∧ s.enc = .tuple (.str s.word :: r) ∧ (quietS s).enc = .tuple (.str (quietS s).word :: r) ∧ r.length ≤ 3 ∧ Like [quietS s] s ∧ (quietS s).inner = s.inner) := by
  have no : ∀ x : Str, (quL.find? fun p => decide (p.1 = x)) = none → (quL.find? fun p => decide (p.1 = x)).isSome = false ∧ dfind (kvD quL) x = some none := fun x h => by
    unfold kvD
    rw [dfind_eq, h]
    exact ⟨rfl, rfl⟩
  have yes : ∀ x y : Str, (quL.find? fun p => decide (p.1 = x)) = some (x, y) → (quL.find? fun p => decide (p.1 = x)).isSome = true ∧ dfind (kvD quL) x = some (some (.str y)) := fun x y h => by
    unfold kvD
    rw [dfind_eq, h]
    exact ⟨rfl, rfl⟩
  cases s with
  | pl w k =>
    cases w with
    | look => exact .inr ⟨(yes "look" "peek" (by decide +kernel)).1, [.str k], (yes "look" "peek" (by decide +kernel)).2, by simp [St.enc, St.word], by simp [quietS, St.enc, St.word], by simp, like_pl k (by simp) (by simp), rfl⟩
    | peek => exact .inl (no "peek" (by decide +kernel))
    | tell => exact .inr ⟨(yes "tell" "get" (by decide +kernel)).1, [.str k], (yes "tell" "get" (by decide +kernel)).2, by simp [St.enc, St.word], by simp [quietS, St.enc, St.word], by simp, like_pl k (by simp) (by simp), rfl⟩
    | get => exact .inl (no "get" (by decide +kernel))
    | drop => exact .inl (no "drop" (by decide +kernel))
  | al w => cases w with
    | copy => exact .inl (no "copy" (by decide +kernel))
    | count => exact .inl (no "count" (by decide +kernel))
    | keys => exact .inl (no "keys" (by decide +kernel))
  | put k i => exact .inl (no "put" (by decide +kernel))
  | br w k y n =>
    cases w with
    | zero => exact .inr ⟨(yes "zero" "nil" (by decide +kernel)).1, [.str k, .tuple (encs y), .tuple (encs n)], (yes "zero" "nil" (by decide +kernel)).2, by simp [St.enc, St.word], by simp [quietS, St.enc, St.word], by simp, like_br k y n, rfl⟩
    | nil => exact .inl (no "nil" (by decide +kernel))
    | has => exact .inl (no "has" (by decide +kernel))
  | same y n => exact .inl (no "same" (by decide +kernel))
  | walk b => exact .inl (no "walk" (by decide +kernel))
theorem dfind_isLook (s : St) : ∃ o, dfind (kvD quL) s.word = some o ∧ o.isSome = isLook s := by
  rcases look_cases s with ⟨h1, h2⟩ | ⟨h1, r, h2, _⟩
  · exact ⟨_, h2, by rw [h1]; rfl⟩
  · exact ⟨_, h2, by rw [h1]; rfl⟩
def lookP (ss : List St) : List (List Nat) := ((listeds [] 0 ss).filter fun q => isLook q.2).map (·.1)
def gLook : D → Option D
  | .tuple [p, .tuple (.str w :: _)] => if (quL.find? fun q => decide (q.1 = w)).isSome then some p else none
  | _ => none
theorem gLook_enc (p : List Nat) (s : St) : gLook (.tuple [pathD p, s.enc]) = if isLook s then some (pathD p) else none := by
  obtain ⟨r, e⟩ := enc_word s
  rw [e]
  rfl
theorem gLook_map : ∀ l : List (List Nat × St), (encL l).filterMap gLook = ((l.filter fun q => isLook q.2).map (·.1)).map pathD
  | [] => rfl
  | q :: l => by
    have e : encL (q :: l) = .tuple [pathD q.1, q.2.enc] :: encL l := rfl
    rw [e, List.filterMap_cons, gLook_enc, List.filter_cons]
    by_cases h : isLook q.2 = true
    · simp only [h, if_true, List.map_cons, gLook_map l]
    · rw [Bool.not_eq_true] at h
      simp only [h, if_false, gLook_map l, Bool.false_eq_true]
theorem lookP_nodup (ss : List St) : (lookP ss).Nodup := (paths_nodup ss).sublist (List.Sublist.map _ (List.filter_sublist))
theorem lookP_mem {ss : List St} {p : List Nat} : p ∈ lookP ss ↔ ∃ s, InAt ss p s ∧ isLook s = true := by
  unfold lookP
  constructor
  · intro h
    obtain ⟨q, hq, rfl⟩ := List.mem_map.mp h
    obtain ⟨h1, h2⟩ := List.mem_filter.mp hq
    obtain ⟨p, e, i⟩ := in_listed _ ss (Nat.le_refl _) [] q h1
    rw [List.nil_append] at e
    rw [e]
    exact ⟨q.2, i, h2⟩
  · rintro ⟨s, h1, h2⟩
    have := in_at h1 []
    rw [List.nil_append] at this
    exact List.mem_map.mpr ⟨(p, s), List.mem_filter.mpr ⟨this, h2⟩, rfl⟩
theorem lookP_len (ss : List St) : (lookP ss).length ≤ sizes ss := by
  unfold lookP
  rw [List.length_map, ← listeds_len [] 0 ss]
  exact List.length_filter_le _ _
theorem lookP_ne {ss : List St} : ∀ p ∈ lookP ss, p ≠ [] := fun p hp => by
  obtain ⟨q, hq, rfl⟩ := List.mem_map.mp hp
  exact paths_ne (List.mem_filter.mp hq).1
def looksD (P : Prog) : List D := (sortP (lookP P.steps)).map pathD
theorem ph_looks_of (h : HasQuiet T Γ) (n : Nat) {P : Prog} (hP : OkP P) : Phi T Γ exc (n + 7) "looks_of" [.val P.enc] = .ok (.fresh (looksD P), []) := by
  have hz := hP.size
  have hl : Phi T Γ exc (n + 6) "listed" [.val (.tuple (encs P.steps)), .val (.tuple [])] = .ok (.fresh (encL (listeds [] 0 P.steps)), []) := ph_listed (exc := exc) h.prog 4 n P.steps hP.deep (by omega) [] (by simp)
  have hlen : lines (encL (listeds [] 0 P.steps)).length = true := lines_small (by rw [encL_len, listeds_len]; omega)
  have hc := comp_ok (C := ⟨Phi T Γ exc (n + 6), Γ, [], exc, Phi2 T Γ exc (n + 6)⟩) (own := [1, 2]) (tg := .tup [1, 2]) (cond := .some (.gin (.ix (.slot 2) (.cst (.int 0))) "QUIET")) (el := .slot 1) (g := gLook) (xs := encL (listeds [] 0 P.steps)) (ρ := [some (.val P.enc), none, none]) [some (.val P.enc), none, none] rfl rfl (fun x hx => by
    obtain ⟨q, hq, rfl⟩ := List.mem_map.mp hx
    obtain ⟨r, e⟩ := enc_word q.2
    obtain ⟨o, e1, e2⟩ := dfind_isLook q.2
    refine ⟨[some (.val P.enc), some (.val (pathD q.1)), some (.val q.2.enc)], rfl, rfl, ?_⟩
    have hcond : denC ⟨Phi T Γ exc (n + 6), Γ, [], exc, Phi2 T Γ exc (n + 6)⟩ (.some (.gin (.ix (.slot 2) (.cst (.int 0))) "QUIET")) [some (.val P.enc), some (.val (pathD q.1)), some (.val q.2.enc)] = .ok (isLook q.2, [some (.val P.enc), some (.val (pathD q.1)), some (.val q.2.enc)]) := by
      rw [e]
      exists h.gQUIET, pix_tup0, e1, e2
    rw [hcond, gLook_enc]
    by_cases hk : isLook q.2 = true
    · rw [hk]
      exact .inl ⟨rfl, .val (pathD q.1), pathD q.1, rfl, rfl, rfl⟩
    · rw [Bool.not_eq_true] at hk
      rw [hk]
      exact .inr ⟨rfl, rfl⟩)
  have hs := blt_sorted_path (ps := lookP P.steps) lookP_ne (by have := lookP_len P.steps; omega)
  have gL : (encL (listeds [] 0 P.steps)).filterMap gLook = (lookP P.steps).map pathD := gLook_map _
  rw [gL] at hc
  rw [phi_at h.looks_of rfl]
  unfold Prog.enc looksD at *
  exists F.f_looks_of, pix_tup1, hl, walkOf, hlen
  exists hc, hs
theorem ph_law_looks (h : HasQuiet T Γ) (n : Nat) {P : Prog} (hP : OkP P) : Phi T Γ exc (n + 7) "_law_looks" [.val P.enc] = .ok (.fresh (looksD P), []) := by
  have hz := hP.size
  have hl : Phi T Γ exc (n + 6) "_law_listed" [.val (.tuple (encs P.steps)), .val (.tuple [])] = .ok (.fresh (encL (listeds [] 0 P.steps)), []) := ph_law_listed (exc := exc) h.put.toHasLaw 4 n P.steps hP.deep (by omega) [] (by simp)
  have hlen : lines (encL (listeds [] 0 P.steps)).length = true := lines_small (by rw [encL_len, listeds_len]; omega)
  have hc := comp_ok (C := ⟨Phi T Γ exc (n + 6), Γ, [], exc, Phi2 T Γ exc (n + 6)⟩) (own := [1, 2]) (tg := .tup [1, 2]) (cond := .some (.cmp .in_ (.ix (.slot 2) (.cst (.int 0))) (.tup (.cons (.cst (.str "look")) (.cons (.cst (.str "tell")) (.cons (.cst (.str "zero")) .nil)))))) (el := .slot 1) (g := gLook) (xs := encL (listeds [] 0 P.steps)) (ρ := [some (.val P.enc), none, none]) [some (.val P.enc), none, none] rfl rfl (fun x hx => by
    obtain ⟨q, hq, rfl⟩ := List.mem_map.mp hx
    obtain ⟨r, e⟩ := enc_word q.2
    refine ⟨[some (.val P.enc), some (.val (pathD q.1)), some (.val q.2.enc)], rfl, rfl, ?_⟩
    have hcond : denC ⟨Phi T Γ exc (n + 6), Γ, [], exc, Phi2 T Γ exc (n + 6)⟩ (.some (.cmp .in_ (.ix (.slot 2) (.cst (.int 0))) (.tup (.cons (.cst (.str "look")) (.cons (.cst (.str "tell")) (.cons (.cst (.str "zero")) .nil)))))) [some (.val P.enc), some (.val (pathD q.1)), some (.val q.2.enc)] = .ok (isLook q.2, [some (.val P.enc), some (.val (pathD q.1)), some (.val q.2.enc)]) := by
      rw [e]
      exists pix_tup0, in_looks
    rw [hcond, gLook_enc]
    by_cases hk : isLook q.2 = true
    · rw [hk]
      exact .inl ⟨rfl, .val (pathD q.1), pathD q.1, rfl, rfl, rfl⟩
    · rw [Bool.not_eq_true] at hk
      rw [hk]
      exact .inr ⟨rfl, rfl⟩)
  have hs := blt_sorted_path (ps := lookP P.steps) lookP_ne (by have := lookP_len P.steps; omega)
  have gL : (encL (listeds [] 0 P.steps)).filterMap gLook = (lookP P.steps).map pathD := gLook_map _
  rw [gL] at hc
  rw [phi_at h.lawlooks rfl]
  unfold Prog.enc looksD at *
  exists F.f__law_looks, pix_tup1, hl, walkOf, hlen
  exists hc, hs
end G
set_option maxHeartbeats 4000000
namespace G
open PySem
open PyData (strOk)
variable {T : Str → Option MF} {Γ : Str → Option D} {exc : Str → Bool}
def gAt (p : List Nat) : D → Option D
  | .tuple [q, e] => if PyData.eqv q (pathD p) = true then some e else none
  | _ => none
theorem gAt_enc (p q : List Nat) (s : St) : gAt p (.tuple [pathD q, s.enc]) = if q = p then some s.enc else none := by
  show (if PyData.eqv (pathD q) (pathD p) = true then some s.enc else none) = _
  rw [eqv_path]
  simp
theorem gAt_map {p : List Nat} {e : D} : ∀ {l : List (List Nat × St)}, (∀ q ∈ l, q.1 = p → q.2.enc = e) → (∃ q ∈ l, q.1 = p) → ∃ r, (encL l).filterMap (gAt p) = e :: r
  | [], _, h => by
    obtain ⟨q, hq, _⟩ := h
    cases hq
  | q :: l, h1, h2 => by
    have e0 : encL (q :: l) = .tuple [pathD q.1, q.2.enc] :: encL l := rfl
    rw [e0, List.filterMap_cons, gAt_enc]
    by_cases hq : q.1 = p
    · rw [if_pos hq, h1 q List.mem_cons_self hq]
      exact ⟨_, rfl⟩
    · rw [if_neg hq]
      refine gAt_map (fun x hx => h1 x (List.mem_cons_of_mem _ hx)) ?_
      obtain ⟨x, hx, e⟩ := h2
      rcases List.mem_cons.mp hx with rfl | hx
      · exact absurd e hq
      · exact ⟨x, hx, e⟩
theorem at_uniq {ss : List St} {p : List Nat} {s : St} (h : InAt ss p s) : ∀ q ∈ listeds [] 0 ss, q.1 = p → q.2 = s := fun q hq e => by
  obtain ⟨p1, e1, i1⟩ := in_listed _ ss (Nat.le_refl _) [] q hq
  rw [List.nil_append] at e1
  rw [← e1, e] at i1
  exact i1.one h
theorem ph_found_at (h : HasQuiet T Γ) (n : Nat) {ss : List St} (hd : deeps ss ≤ 4) (hz : sizes ss ≤ 1000) {p : List Nat} {s : St} (hi : InAt ss p s) : Phi T Γ exc (n + 7) "found_at" [.val (.tuple (encs ss)), .val (pathD p)] = .ok (.val s.enc, []) := by
  have hl : Phi T Γ exc (n + 6) "listed" [.val (.tuple (encs ss)), .val (.tuple [])] = .ok (.fresh (encL (listeds [] 0 ss)), []) := ph_listed (exc := exc) h.prog 4 n ss hd (by omega) [] (by simp)
  have hlen : lines (encL (listeds [] 0 ss)).length = true := lines_small (by rw [encL_len, listeds_len]; omega)
  have hm := in_at hi []
  rw [List.nil_append] at hm
  obtain ⟨r, hr⟩ := gAt_map (p := p) (e := s.enc) (l := listeds [] 0 ss) (fun q hq e => by rw [at_uniq hi q hq e]) ⟨_, hm, rfl⟩
  have hc := comp_ok (C := ⟨Phi T Γ exc (n + 6), Γ, [], exc, Phi2 T Γ exc (n + 6)⟩) (own := [2, 3]) (tg := .tup [2, 3]) (cond := .some (.cmp .eq (.slot 2) (.slot 1))) (el := .slot 3) (g := gAt p) (xs := encL (listeds [] 0 ss)) (ρ := [some (.val (.tuple (encs ss))), some (.val (pathD p)), none, none]) [some (.val (.tuple (encs ss))), some (.val (pathD p)), none, none] rfl rfl (fun x hx => by
    obtain ⟨q, hq, rfl⟩ := List.mem_map.mp hx
    refine ⟨[some (.val (.tuple (encs ss))), some (.val (pathD p)), some (.val (pathD q.1)), some (.val q.2.enc)], rfl, rfl, ?_⟩
    have hcond : denC ⟨Phi T Γ exc (n + 6), Γ, [], exc, Phi2 T Γ exc (n + 6)⟩ (.some (.cmp .eq (.slot 2) (.slot 1))) [some (.val (.tuple (encs ss))), some (.val (pathD p)), some (.val (pathD q.1)), some (.val q.2.enc)] = .ok (decide (q.1 = p), [some (.val (.tuple (encs ss))), some (.val (pathD p)), some (.val (pathD q.1)), some (.val q.2.enc)]) := by
      exists cmp_eq_path
    rw [hcond, gAt_enc]
    by_cases hk : q.1 = p
    · rw [decide_eq_true hk, if_pos hk]
      exact .inl ⟨rfl, .val q.2.enc, q.2.enc, rfl, rfl, rfl⟩
    · rw [decide_eq_false hk, if_neg hk]
      exact .inr ⟨rfl, rfl⟩)
  rw [hr] at hc
  rw [phi_at h.found_at rfl]
  exists F.f_found_at, hl, walkOf, hlen
  exists hc, pix_lst0
theorem isN_enc (s : St) : cmp .isN s.enc .none = some false := by cases s <;> simp only [St.enc] <;> rfl
theorem ph_exch (h : HasQuiet T Γ) {ss : List St} {p : List Nat} {s : St} (hp : InAt ss p s) (x : St) : sizes ss ≤ 1000 → ∀ m, p.length + 2 ≤ m → Phi T Γ exc m "exchanged" [.val (.tuple (encs ss)), .val (pathD p), .val x.enc] = .ok (.val (.tuple (encs (setF p x ss))), []) := by
  have big : (10000 : Nat) ≤ sizeLine := by decide
  induction hp with
  | here pre s post =>
    intro hz m hle
    obtain ⟨m, rfl⟩ : ∃ k, m = k + 1 := ⟨m - 1, by omega⟩
    have hz' := len_sizes (pre ++ s :: post)
    rw [List.length_append, List.length_cons] at hz'
    rw [phi_at h.exchanged rfl, setF_here]
    have hix : pix (.tuple (encs (pre ++ s :: post))) (.int pre.length) = some s.enc := pix_tup (encs_at pre s post)
    have hl : blt .len [pathD [pre.length]] = some (.val (.int 1)) := len_path [pre.length]
    have g : decide ((1 : Int) > 1) = false := by decide
    have a1 : bin .add (.tuple (encs pre)) (.tuple [x.enc]) = some (.val (.tuple (encs (pre ++ [x])))) := by
      rw [encs_append]
      exact bin_add_tup (by rw [encs_length, List.length_singleton]; omega)
    have a2 := bin_add_tup (i := encs (pre ++ [x])) (j := encs post) (by rw [encs_length, encs_length, List.length_append, List.length_singleton]; omega)
    rw [← encs_append] at a2
    have eb : ((pre.length : Int) + 1) = ((pre.length + 1 : Nat) : Int) := by omega
    exists F.f_exchanged, pix_path0, hix, hl, cmp_gt_int, g, isN_enc, psl_tup, cut_pre, cut_post, bin_add_int, eb, a1, a2
  | deep pre t post il b ir p s hi hb ih =>
    intro hz m hle
    have hz2 := hz
    rw [sizes_append] at hz2
    simp only [sizes] at hz2
    have hbz : sizes b ≤ t.size := by
      cases t <;> simp [St.inner] at hi <;> simp only [St.size]
      all_goals first
        | (match il, hi with
           | [], hi => (simp at hi; obtain ⟨rfl, _⟩ := hi; omega)
           | [_], hi => (simp at hi; obtain ⟨_, rfl, _⟩ := hi; omega)
           | _ :: _ :: _, hi => simp at hi)
        | (match il, hi with
           | [], hi => (simp at hi; obtain ⟨rfl, _⟩ := hi; omega)
           | _ :: _, hi => simp at hi)
    simp only [List.length_cons] at hle
    obtain ⟨m, rfl⟩ : ∃ k, m = k + 1 + 1 := ⟨m - 2, by omega⟩
    have hz' := len_sizes (pre ++ t :: post)
    rw [List.length_append, List.length_cons] at hz'
    rw [phi_at h.exchanged rfl, setF_deep pre t post p x hi]
    have hix : pix (.tuple (encs (pre ++ t :: post))) (.int pre.length) = some t.enc := pix_tup (encs_at pre t post)
    have hl : blt .len [pathD (pre.length :: il.length :: p)] = some (.val (.int ((p.length + 2 : Nat) : Int))) := len_path (pre.length :: il.length :: p)
    have g : decide (((p.length + 2 : Nat) : Int) > 1) = true := decide_eq_true (by omega)
    have hbl := ph_blocks (exc := exc) h.prog m t
    have hil : (innD t).length ≤ 2 := by unfold innD; rw [List.length_map]; cases t <;> simp [St.inner]
    have ein : innD t = il.map blkD ++ (blkD b :: ir.map blkD) := by unfold innD; rw [hi, List.map_append]; rfl
    have hlen : il.length + (ir.length + 1) ≤ 2 := by rw [ein] at hil; simpa using hil
    have hpt := parts_len t
    have hpt2 := heads_len t
    have et : t.enc = .tuple ((t.parts ++ il.map blkD) ++ (blkD b :: ir.map blkD)) := by rw [enc_parts, ein, List.append_assoc]
    have elen : blt .len [t.enc] = some (.val (.int ((t.parts ++ innD t : List D).length : Nat))) := by rw [enc_parts, blt_len_tup]
    have em : bin .add (.int (t.parts.length : Nat)) (.int (il.length : Nat)) = some (.val (.int ((t.parts.length + il.length : Nat) : Int))) := by
      rw [bin_add_int]
      have : ((t.parts.length : Nat) : Int) + ((il.length : Nat) : Int) = ((t.parts.length + il.length : Nat) : Int) := by omega
      rw [this]
    have hll : (t.parts ++ il.map blkD).length = t.parts.length + il.length := by rw [List.length_append, List.length_map]
    have hix2 : pix t.enc (.int ((t.parts.length + il.length : Nat) : Int)) = some (.tuple (encs b)) := by
      rw [et]
      exact pix_tup (by rw [List.getElem?_append_right (by omega), hll, Nat.sub_self]; rfl)
    have hc1 : psl t.enc none (some ((t.parts.length + il.length : Nat) : Int)) = some (.val (.tuple (t.parts ++ il.map blkD))) := by
      rw [et, psl_tup, cut_take, List.take_left' hll]
    have hc2 : psl t.enc (some ((t.parts.length + il.length + 1 : Nat) : Int)) none = some (.val (.tuple (ir.map blkD))) := by
      have e : (t.parts ++ il.map blkD) ++ (blkD b :: ir.map blkD) = (t.parts ++ il.map blkD ++ [blkD b]) ++ ir.map blkD := by simp
      rw [et, psl_tup, cut_drop, e, List.drop_left' (by rw [List.length_append, hll]; rfl)]
    have hphi := ih (by omega) (m + 1) (by omega)
    have b2 := bin_add_tup (i := t.parts ++ il.map blkD) (j := [.tuple (encs (setF p x b))]) (by rw [hll, List.length_singleton]; omega)
    have b3 := bin_add_tup (i := t.parts ++ il.map blkD ++ [.tuple (encs (setF p x b))]) (j := ir.map blkD) (by rw [List.length_append, hll, List.length_singleton, List.length_map]; omega)
    rw [← setB_enc hi] at b3
    have a1 : bin .add (.tuple (encs pre)) (.tuple [(t.setB il.length (setF p x b)).enc]) = some (.val (.tuple (encs (pre ++ [t.setB il.length (setF p x b)])))) := by
      rw [encs_append]
      exact bin_add_tup (by rw [encs_length, List.length_singleton]; omega)
    have a2 := bin_add_tup (i := encs (pre ++ [t.setB il.length (setF p x b)])) (j := encs post) (by rw [encs_length, encs_length, List.length_append, List.length_singleton]; omega)
    rw [← encs_append] at a2
    have eb : ((pre.length : Int) + 1) = ((pre.length + 1 : Nat) : Int) := by omega
    have eb2 : (((t.parts.length + il.length : Nat) : Int) + 1) = ((t.parts.length + il.length + 1 : Nat) : Int) := by omega
    have lenE := len_enc t
    exists F.f_exchanged, pix_path0, pix_path1, hix, hl, cmp_gt_int, g, hbl, elen, blt_len_tup, lenE, em, hix2, psl_path, hphi, hc1, hc2, b2, b3, isN_enc, psl_tup, cut_pre, cut_post, bin_add_int, eb, eb2, a1, a2
def quietAll : List (List Nat) → List St → List St
  | [], ss => ss
  | p :: ps, ss => quietAll ps (match atF p ss with
    | some s => setF p (quietS s) ss
    | none => ss)
structure QOk (names : List Str) (ps : List (List Nat)) (ss : List St) : Prop where
  ok : oks names 4 ss = true
  size : sizes ss ≤ 14
  walks : walkss ss ≤ 1
  nd : ps.Nodup
  at_ : ∀ p ∈ ps, ∃ s, InAt ss p s ∧ isLook s = true
theorem QOk.deep {names : List Str} {ps : List (List Nat)} {ss : List St} (h : QOk names ps ss) : deeps ss ≤ 4 := oks_deep ss 4 (by omega) h.ok
theorem isLook_word {s t : St} (h : s.word = t.word) : isLook s = isLook t := by unfold isLook; rw [h]
theorem q_step (h : HasQuiet T Γ) {names : List Str} {p : List Nat} {ps : List (List Nat)} {ss : List St} (hq : QOk names (p :: ps) ss) : ∃ s r, InAt ss p s ∧ isLook s = true ∧ dfind (kvD quL) s.word = some (some (.str (quietS s).word)) ∧ s.enc = .tuple (.str s.word :: r) ∧ (quietS s).enc = .tuple (.str (quietS s).word :: r) ∧ r.length ≤ 3 ∧
    quietAll (p :: ps) ss = quietAll ps (setF p (quietS s) ss) ∧ QOk names ps (setF p (quietS s) ss) ∧ p.length ≤ 8 ∧
    (∀ m, 10 ≤ m → Phi T Γ exc m "_law_put" [.val (.tuple (encs ss)), .val (pathD p), .val (.tuple [(quietS s).enc])] = .ok (.val (.tuple (encs (setF p (quietS s) ss))), [])) ∧
    ∀ m, 10 ≤ m → Phi T Γ exc m "exchanged" [.val (.tuple (encs ss)), .val (pathD p), .val (quietS s).enc] = .ok (.val (.tuple (encs (setF p (quietS s) ss))), []) := by
  obtain ⟨s, hi, hk⟩ := hq.at_ p (by simp)
  have hd := hq.deep
  have hpl := hi.len
  rcases look_cases s with ⟨z, _⟩ | ⟨_, r, c1, c2, c3, c4, c5, c6⟩
  · rw [z] at hk
    cases hk
  obtain ⟨ss', hw, hs, hput⟩ := put_ok (Γ := Γ) (exc := exc) h.put hi c5 (by have := hq.size; omega)
  have hs := hs _ rfl
  subst hs
  have ha := hi.at
  refine ⟨s, r, hi, hk, c1, c2, c3, c4, ?_, ⟨hw.ok _ _ hq.ok, Nat.le_trans hw.size hq.size, Nat.le_trans hw.walks hq.walks, (List.nodup_cons.mp hq.nd).2, fun q hqq => ?_⟩, by omega, fun m hm => hput m (by omega), fun m hm => ph_exch h hi _ (by have := hq.size; omega) m (by omega)⟩
  · show quietAll ps (match atF p ss with
      | some s => setF p (quietS s) ss
      | none => ss) = _
    rw [ha]
  · obtain ⟨t, ht, hkt⟩ := hq.at_ q (List.mem_cons_of_mem _ hqq)
    obtain ⟨t', a1, _, _, a4⟩ := at_set p ha c6 q ht.at
    have hne : q ≠ p := fun e => (List.nodup_cons.mp hq.nd).1 (e ▸ hqq)
    exact ⟨t', at_in q a1, by rw [isLook_word (a4 hne)]; exact hkt⟩
theorem cutQ (x : D) (r : List D) : cut (x :: r) (some 1) none = r := cut_drop (x :: r) 1
theorem ph_quieted_by (h : HasQuiet T Γ) (n : Nat) {P : Prog} {ps : List (List Nat)} (hq : QOk P.names ps P.steps) : Phi T Γ exc (n + 11) "quieted_by" [.val P.enc, .val (.tuple (ps.map pathD))] = .ok (.val (Prog.enc ⟨P.names, quietAll ps P.steps⟩), []) := by
  obtain ⟨ρ', h1, h2⟩ := loop_run (C := ⟨Phi T Γ exc (n + 10), Γ, [], exc, Phi2 T Γ exc (n + 10)⟩) (cl := [3, 4]) (tg := .one 3) (body := (F.f_quieted_by.body.at 1).body)
    (P := fun xs ρ => ∃ qs cur, xs = qs.map pathD ∧ QOk P.names qs cur ∧ quietAll qs cur = quietAll ps P.steps ∧ ρ = [some (.val P.enc), some (.val (.tuple (ps.map pathD))), some (.val (.tuple (encs cur))), none, none]) (by
    intro x rest ρ ⟨qs, cur, ex, hqc, e, eρ⟩
    subst eρ
    cases qs with
    | nil => cases ex
    | cons q qs =>
      simp only [List.map_cons, List.cons.injEq] at ex
      obtain ⟨rfl, rfl⟩ := ex
      obtain ⟨s, r, hi, hk, c1, c2, c3, c4, c5, c6, c7, c8, c9⟩ := q_step (exc := exc) h hqc
      have f1 := ph_found_at (exc := exc) h (n + 3) hqc.deep (by have := hqc.size; omega) hi
      have f1 : Phi T Γ exc (n + 10) "found_at" [.val (.tuple (encs cur)), .val (pathD q)] = .ok (.val s.enc, []) := f1
      have c9 := c9 (n + 10) (by omega)
      have a1 : bin .add (.tuple [.str (quietS s).word]) (.tuple r) = some (.val (quietS s).enc) := by
        rw [c3]
        exact bin_add_tup (by rw [List.length_singleton]; have : (100 : Nat) ≤ sizeLine := by decide
                              omega)
      refine ⟨_, [some (.val P.enc), some (.val (.tuple (ps.map pathD))), some (.val (.tuple (encs (setF q (quietS s) cur)))), some (.val (pathD q)), some (.val s.enc)], rfl, ?_, qs, _, rfl, c6, by rw [← c5]; exact e, rfl⟩
      rw [c2] at f1 ⊢
      exists F.f_quieted_by, MSs.at, MS.body, f1, h.gQUIET, pix_tup0, c1, id_eq, psl_tup, cutQ, a1, c9) (ps.map pathD) [some (.val P.enc), some (.val (.tuple (ps.map pathD))), some (.val (.tuple (encs P.steps))), none, none] ⟨ps, P.steps, rfl, hq, rfl, rfl⟩
  obtain ⟨qs, cur, ex, _, e, eρ⟩ := h2
  subst eρ
  have : qs = [] := by simpa using ex.symm
  subst this
  have e : cur = quietAll ps P.steps := e
  subst e
  dsimp only [F.f_quieted_by, MSs.at, MS.body] at h1
  rw [phi_at h.quieted_by rfl]
  unfold Prog.enc at h1 ⊢
  exists F.f_quieted_by, pix_tup0, pix_tup1, walkOf, h1
theorem ph_law_quieted (h : HasQuiet T Γ) (n : Nat) {P : Prog} {ps : List (List Nat)} (hq : QOk P.names ps P.steps) {c : D} (hc : walkOf c = some (ps.map pathD)) : Phi T Γ exc (n + 11) "_law_quieted" [.val P.enc, .val c] = .ok (.val (Prog.enc ⟨P.names, quietAll ps P.steps⟩), []) := by
  obtain ⟨ρ', h1, h2⟩ := loop_run (C := ⟨Phi T Γ exc (n + 10), Γ, [], exc, Phi2 T Γ exc (n + 10)⟩) (cl := [3, 4, 5]) (tg := .one 3) (body := (F.f__law_quieted.body.at 1).body)
    (P := fun xs ρ => ∃ qs cur, xs = qs.map pathD ∧ QOk P.names qs cur ∧ quietAll qs cur = quietAll ps P.steps ∧ ρ = [some (.val P.enc), some (.val c), some (.val (.tuple (encs cur))), none, none, none]) (by
    intro x rest ρ ⟨qs, cur, ex, hqc, e, eρ⟩
    subst eρ
    cases qs with
    | nil => cases ex
    | cons q qs =>
      simp only [List.map_cons, List.cons.injEq] at ex
      obtain ⟨rfl, rfl⟩ := ex
      obtain ⟨s, r, hi, hk, c1, c2, c3, c4, c5, c6, c7, c8, c9⟩ := q_step (exc := exc) h hqc
      have hl : Phi T Γ exc (n + 10) "_law_listed" [.val (.tuple (encs cur)), .val (.tuple [])] = .ok (.fresh (encL (listeds [] 0 cur)), []) := ph_law_listed (exc := exc) h.put.toHasLaw 4 (n + 4) cur hqc.deep (by have := hqc.size; omega) [] (by simp)
      have hm := in_at hi []
      rw [List.nil_append] at hm
      have hg := dget_listed (ss := cur) (by have := hqc.size; omega) hm
      simp only at hg
      have c8 := c8 (n + 10) (by omega)
      have a1 : bin .add (.tuple [.str (quietS s).word]) (.tuple r) = some (.val (quietS s).enc) := by
        rw [c3]
        exact bin_add_tup (by rw [List.length_singleton]; have : (100 : Nat) ≤ sizeLine := by decide
                              omega)
      have hpx : pix (dctD [("look", "peek"), ("tell", "get"), ("zero", "nil")]) (.str s.word) = some (.str (quietS s).word) := by
        have e : pix (dctD quL) (.str s.word) = (dfind (kvD quL) s.word).bind id := rfl
        rw [c1] at e
        exact e
      refine ⟨_, [some (.val P.enc), some (.val c), some (.val (.tuple (encs (setF q (quietS s) cur)))), some (.val (pathD q)), some (.val s.enc), some (.val (.str (quietS s).word))], rfl, ?_, qs, _, rfl, c6, by rw [← c5]; exact e, rfl⟩
      rw [c2] at hg ⊢
      exists F.f__law_quieted, MSs.at, MS.body, hl, hg, pix_tup0, hpx, psl_tup, cutQ, a1, c8) (ps.map pathD) [some (.val P.enc), some (.val c), some (.val (.tuple (encs P.steps))), none, none, none] ⟨ps, P.steps, rfl, hq, rfl, rfl⟩
  obtain ⟨qs, cur, ex, _, e, eρ⟩ := h2
  subst eρ
  have : qs = [] := by simpa using ex.symm
  subst this
  have e : cur = quietAll ps P.steps := e
  subst e
  dsimp only [F.f__law_quieted, MSs.at, MS.body] at h1
  rw [phi_at h.lawquieted rfl]
  unfold Prog.enc at h1 ⊢
  exists F.f__law_quieted, pix_tup0, pix_tup1, hc, h1
end G
set_option maxHeartbeats 4000000
namespace G
open PySem
open PyData (strOk)
variable {T : Str → Option MF} {Γ : Str → Option D} {exc : Str → Bool}
structure HasChoice (T : Str → Option MF) (Γ : Str → Option D) (exc : Str → Bool) : Prop extends HasQuiet T Γ where
  check_choice : T "check_choice" = some F.f_check_choice
  quieted : T "quieted" = some F.f_quieted
theorem eqb (a b : Bool) : cmp .eq (.bool a) (.bool b) = some (decide (a = b)) := by
  rw [cmp_eq (shaped_bool a) (shaped_bool b)]
  cases a <;> cases b <;> rfl
theorem ph_sk_int (h : HasChoice T Γ exc) (n : Nat) (a b : Int) : Phi T Γ exc (n + 1) "same_kind" [.val (.int a), .val (.int b)] = .ok (.val (.bool (decide (a = b))), []) := by
  rw [phi_at h.same_kind rfl]
  have e1 : ("int" == "tuple") = false := by decide
  have e2 : ("int" == "bool") = false := by decide
  have e3 : ("tuple" == "int") = false := by decide
  have e4 : ("bool" == "int") = false := by decide
  exists F.f_same_kind, isi_int, e1, e2, e3, e4, eqb, cmp_eq_int
theorem ph_sk_bool (h : HasChoice T Γ exc) (n : Nat) (a : Bool) (b : Int) : Phi T Γ exc (n + 1) "same_kind" [.val (.bool a), .val (.int b)] = .ok (.val (.bool false), []) := by
  rw [phi_at h.same_kind rfl]
  have e1 : ("int" == "tuple") = false := by decide
  have e2 : ("int" == "bool") = false := by decide
  have e3 : ("bool" == "tuple") = false := by decide
  have e4 : ("bool" == "int") = false := by decide
  have e5 : ("tuple" == "bool") = false := by decide
  have e6 : ("tuple" == "int") = false := by decide
  exists F.f_same_kind, isi_int, isi_bool, e1, e2, e3, e4, e5, e6, beq_self_eq_true, eqb
theorem ph_sk_none (h : HasChoice T Γ exc) (n : Nat) (q : List Nat) : Phi T Γ exc (n + 1) "same_kind" [.val .none, .val (pathD q)] = .ok (.val (.bool false), []) := by
  rw [phi_at h.same_kind rfl]
  have e1 : isInst (pathD q) "bool" = some false := rfl
  have e2 : cmp .eq .none (pathD q) = some false := by
    rw [cmp_eq shaped_none (shaped_path q)]
    rfl
  exists F.f_same_kind, isi_none, e1, eqb, e2
theorem ph_sk_num (h : HasChoice T Γ exc) (n : Nat) (i : Int) (q : List Nat) : Phi T Γ exc (n + 1) "same_kind" [.val (.int i), .val (pathD q)] = .ok (.val (.bool false), []) := by
  rw [phi_at h.same_kind rfl]
  have e1 : isInst (pathD q) "bool" = some false := rfl
  have e2 : cmp .eq (.int i) (pathD q) = some false := by
    rw [cmp_eq (shaped_int i) (shaped_path q)]
    rfl
  have e3 : ("int" == "tuple") = false := by decide
  have e4 : ("int" == "bool") = false := by decide
  have e5 : ("tuple" == "int") = false := by decide
  have e6 : ("bool" == "int") = false := by decide
  exists F.f_same_kind, isi_int, e1, e3, e4, e5, e6, eqb, e2
def pairE : D → D
  | .tuple [.int a, .int b] => .bool (decide (a = b))
  | _ => .bool false
theorem zip_all : ∀ p q : List Nat, p.length = q.length → (List.zipWith (fun (a b : Nat) => decide ((a : Int) = b)) p q).all id = decide (p = q)
  | [], [], _ => by simp
  | [], _ :: _, h => by simp at h
  | _ :: _, [], h => by simp at h
  | a :: p, b :: q, h => by
    have := zip_all p q (by simpa using h)
    simp only [List.zipWith_cons_cons, List.all_cons, this, id]
    by_cases e : a = b
    · subst e
      simp
    · have : ¬ ((a : Int) = b) := by omega
      simp [e, this]
theorem isi_path (p : List Nat) (t : String) : isInst (pathD p) t = some (t == "tuple") := rfl
theorem ph_sk_path (h : HasChoice T Γ exc) (n : Nat) {p q : List Nat} (hp : p.length ≤ 100) (hq : q.length ≤ 100) : Phi T Γ exc (n + 2) "same_kind" [.val (pathD p), .val (pathD q)] = .ok (.val (.bool (decide (p = q))), []) := by
  rw [phi_at h.same_kind rfl]
  by_cases hl : p.length = q.length
  · have d1 : decide ((p.length : Int) = q.length) = true := decide_eq_true (by omega)
    have hz : zipI [pathD p, pathD q] = some (List.zipWith (fun x y => PyData.tuple [x, y]) (p.map fun (k : Nat) => PyData.int k) (q.map fun (k : Nat) => PyData.int k)) := rfl
    have hlen : lines (List.zipWith (fun x y => PyData.tuple [x, y]) (p.map fun (k : Nat) => PyData.int k) (q.map fun (k : Nat) => PyData.int k)).length = true := lines_small (by rw [List.length_zipWith, List.length_map, List.length_map]; omega)
    have hc := comp_map (C := ⟨Phi T Γ exc (n + 1), Γ, [], exc, Phi2 T Γ exc (n + 1)⟩) (own := [2, 3]) (tg := .tup [2, 3]) (el := .call "same_kind" (.cons (.slot 2) (.cons (.slot 3) .nil))) (g := pairE) (xs := List.zipWith (fun x y => PyData.tuple [x, y]) (p.map fun (k : Nat) => PyData.int k) (q.map fun (k : Nat) => PyData.int k)) (ρ := [some (.val (pathD p)), some (.val (pathD q)), none, none]) [some (.val (pathD p)), some (.val (pathD q)), none, none] rfl rfl (fun x hx => by
      obtain ⟨a, b, rfl⟩ : ∃ a b : Int, x = .tuple [.int a, .int b] := by
        rw [List.zipWith_map] at hx
        obtain ⟨i, hi, e⟩ := List.mem_iff_getElem.mp hx
        rw [List.getElem_zipWith] at e
        exact ⟨_, _, e.symm⟩
      have q1 := ph_sk_int h n a b
      refine ⟨[some (.val (pathD p)), some (.val (pathD q)), some (.val (.int a)), some (.val (.int b))], rfl, rfl, .val (.bool (decide (a = b))), ?_, rfl⟩
      exists q1)
    have hm : (List.zipWith (fun x y => PyData.tuple [x, y]) (p.map fun (k : Nat) => PyData.int k) (q.map fun (k : Nat) => PyData.int k)).map pairE = (List.zipWith (fun (a b : Nat) => decide ((a : Int) = b)) p q).map .bool := by
      rw [List.zipWith_map, List.map_zipWith, List.map_zipWith]
      rfl
    exists F.f_same_kind, isi_path, beq_self_eq_true, len_path, cmp_eq_int, d1, hz, hlen
    exists hc, hm, blt_all, zip_all p q hl
  · have d1 : decide ((p.length : Int) = q.length) = false := decide_eq_false (by omega)
    have d2 : decide (p = q) = false := decide_eq_false fun e => hl (by rw [e])
    exists F.f_same_kind, isi_path, beq_self_eq_true, len_path, cmp_eq_int, d1, d2
theorem ph_sk_true (h : HasChoice T Γ exc) (n : Nat) {q : List Nat} (hq : q.length ≤ 100) : Phi T Γ exc (n + 2) "same_kind" [.val (.tuple [.bool true]), .val (pathD q)] = .ok (.val (.bool false), []) := by
  rw [phi_at h.same_kind rfl]
  match q, hq with
  | [k], _ =>
    have q1 := ph_sk_bool h n true k
    have hz : zipI [.tuple [.bool true], pathD [k]] = some [.tuple [.bool true, .int k]] := rfl
    have hc := comp_map (C := ⟨Phi T Γ exc (n + 1), Γ, [], exc, Phi2 T Γ exc (n + 1)⟩) (own := [2, 3]) (tg := .tup [2, 3]) (el := .call "same_kind" (.cons (.slot 2) (.cons (.slot 3) .nil))) (g := fun _ => .bool false) (xs := [.tuple [.bool true, .int k]]) (ρ := [some (.val (.tuple [.bool true])), some (.val (pathD [k])), none, none]) [some (.val (.tuple [.bool true])), some (.val (pathD [k])), none, none] rfl rfl (fun x hx => by
      rw [List.mem_singleton.mp hx]
      refine ⟨[some (.val (.tuple [.bool true])), some (.val (pathD [k])), some (.val (.bool true)), some (.val (.int k))], rfl, rfl, .val (.bool false), ?_, rfl⟩
      exists q1)
    have hl : blt .len [pathD [k]] = some (.val (.int 1)) := len_path [k]
    have d1 : cmp .eq (.int 1) (.int 1) = some true := eq_lit _ _ _ (by decide)
    have ha : blt .all [.list [.bool false]] = some (.val (.bool false)) := rfl
    exists F.f_same_kind, isi_tup, isi_path, beq_self_eq_true, hl, blt_len_t1, d1, hz
    exists hc, ha
  | [], _ =>
    have hl : blt .len [pathD []] = some (.val (.int 0)) := len_path []
    have d1 : cmp .eq (.int 1) (.int 0) = some false := eq_lit _ _ _ (by decide)
    exists F.f_same_kind, isi_tup, isi_path, beq_self_eq_true, hl, blt_len_t1, d1
  | k :: j :: r, _ =>
    obtain ⟨m, hm, hl⟩ : ∃ m : Nat, 2 ≤ m ∧ blt .len [pathD (k :: j :: r)] = some (.val (.int m)) := ⟨_, by simp, len_path (k :: j :: r)⟩
    have d1 : cmp .eq (.int 1) (.int m) = some false := eq_lit _ _ _ (decide_eq_false (by omega))
    exists F.f_same_kind, isi_tup, isi_path, beq_self_eq_true, hl, blt_len_t1, d1
theorem looksD_mem {P : Prog} {x : D} : x ∈ looksD P ↔ ∃ p ∈ lookP P.steps, x = pathD p := by
  unfold looksD
  constructor
  · intro h
    obtain ⟨p, hp, rfl⟩ := List.mem_map.mp h
    exact ⟨p, (sortP_perm _).mem_iff.mp hp, rfl⟩
  · rintro ⟨p, hp, rfl⟩
    exact List.mem_map_of_mem ((sortP_perm _).mem_iff.mpr hp)
theorem looksD_len (P : Prog) : (looksD P).length ≤ sizes P.steps := by
  unfold looksD
  rw [List.length_map, (sortP_perm _).length_eq]
  exact lookP_len P.steps
theorem look_len {P : Prog} (hP : OkP P) {p : List Nat} (h : p ∈ lookP P.steps) : p.length ≤ 8 := by
  obtain ⟨s, hi, _⟩ := lookP_mem.mp h
  have := hi.len
  have := hP.deep
  omega
theorem any_known (h : HasChoice T Γ exc) (n : Nat) {P : Prog} (hP : OkP P) {x : D} {f : D → Bool} (hf : ∀ y ∈ looksD P, Phi T Γ exc n "same_kind" [.val x, .val y] = .ok (.val (.bool (f y)), [])) (C : Cfg) (hC : C = ⟨Phi T Γ exc n, Γ, [], exc, Phi2 T Γ exc n⟩) (c0 c1 : D) :
    lcEnd [4] [some (.val c0), some (.val c1), some (.val (.list (looksD P))), some (.val x), none] (comp C [4] (.one 4) .none (.call "same_kind" (.cons (.slot 3) (.cons (.slot 4) .nil))) (looksD P) [some (.val c0), some (.val c1), some (.val (.list (looksD P))), some (.val x), none]) = .ok (.fresh (((looksD P).map f).map .bool), [some (.val c0), some (.val c1), some (.val (.list (looksD P))), some (.val x), none]) := by
  subst hC
  have := comp_map (C := ⟨Phi T Γ exc n, Γ, [], exc, Phi2 T Γ exc n⟩) (own := [4]) (tg := .one 4) (el := .call "same_kind" (.cons (.slot 3) (.cons (.slot 4) .nil))) (g := fun y => .bool (f y)) (xs := looksD P) (ρ := [some (.val c0), some (.val c1), some (.val (.list (looksD P))), some (.val x), none]) [some (.val c0), some (.val c1), some (.val (.list (looksD P))), some (.val x), none] rfl rfl (fun y hy => by
    have q := hf y hy
    refine ⟨[some (.val c0), some (.val c1), some (.val (.list (looksD P))), some (.val x), some (.val y)], rfl, rfl, .val (.bool (f y)), ?_, rfl⟩
    exists q)
  rw [this, List.map_map]
  rfl
theorem ph_cc_not (h : HasChoice T Γ exc) (n : Nat) {P : Prog} (hP : OkP P) {c : D} (hc : isInst c "tuple" = some false) : Phi T Γ exc (n + 8) "check_choice" [.val P.enc, .val c] = .exc "InvalidChoice" none := by
  have h1 := ph_looks_of (exc := exc) h.toHasQuiet n hP
  rw [phi_at h.check_choice rfl]
  exists F.f_check_choice, h1, hc
theorem ph_cc_bad (h : HasChoice T Γ exc) (n : Nat) {P : Prog} (hP : OkP P) {x : D} {xs : List D} (hx : ∀ q : List Nat, q ∈ lookP P.steps → Phi T Γ exc (n + 7) "same_kind" [.val x, .val (pathD q)] = .ok (.val (.bool false), [])) : Phi T Γ exc (n + 8) "check_choice" [.val P.enc, .val (.tuple (x :: xs))] = .exc "InvalidChoice" none := by
  have h1 := ph_looks_of (exc := exc) h.toHasQuiet n hP
  have hlen : lines (looksD P).length = true := lines_small (by have := looksD_len P; have := hP.size; omega)
  have hc := any_known h (n + 7) hP (x := x) (f := fun _ => false) (fun y hy => by
    obtain ⟨p, hp, rfl⟩ := looksD_mem.mp hy
    exact hx p hp) _ rfl P.enc (.tuple (x :: xs))
  have ha : (((looksD P).map fun _ => false).any id) = false := by
    rw [List.any_eq_false]
    intro b hb
    obtain ⟨y, _, rfl⟩ := List.mem_map.mp hb
    simp
  rw [phi_at h.check_choice rfl]
  exists F.f_check_choice, h1, isi_tup, beq_self_eq_true, walkOf, loop_cons, hlen
  exists hc, blt_any, ha
theorem ph_cc (h : HasChoice T Γ exc) (n : Nat) {P : Prog} (hP : OkP P) {ps : List (List Nat)} (hps : ∀ p ∈ ps, p ∈ lookP P.steps) {b : Bool} (ha : Phi T Γ exc (n + 7) "ascends" [.val (.tuple (ps.map pathD))] = .ok (.val (.bool b), [])) :
    Phi T Γ exc (n + 8) "check_choice" [.val P.enc, .val (.tuple (ps.map pathD))] = if b then .ok (.val .none, []) else .exc "InvalidChoice" none := by
  have h1 := ph_looks_of (exc := exc) h.toHasQuiet n hP
  have hlen : lines (looksD P).length = true := lines_small (by have := looksD_len P; have := hP.size; omega)
  obtain ⟨ρ', t1, t2⟩ := loop_run (C := ⟨Phi T Γ exc (n + 7), Γ, [], exc, Phi2 T Γ exc (n + 7)⟩) (cl := [3]) (tg := .one 3) (body := (F.f_check_choice.body.at 2).body)
    (P := fun xs ρ => (∀ x ∈ xs, ∃ p ∈ lookP P.steps, x = pathD p) ∧ ρ = [some (.val P.enc), some (.val (.tuple (ps.map pathD))), some (.val (.list (looksD P))), none, none]) (by
    intro x rest ρ ⟨hx, eρ⟩
    subst eρ
    obtain ⟨p, hp, rfl⟩ := hx x (by simp)
    have hc := any_known h (n + 7) hP (x := pathD p) (f := fun y => PyData.eqv (pathD p) y) (fun y hy => by
      obtain ⟨q, hq, rfl⟩ := looksD_mem.mp hy
      have := ph_sk_path h (n + 5) (p := p) (q := q) (by have := look_len hP hp; omega) (by have := look_len hP hq; omega)
      rw [eqv_path]
      exact this) _ rfl P.enc (.tuple (ps.map pathD))
    have hany : (((looksD P).map fun y => PyData.eqv (pathD p) y).any id) = true := by
      rw [List.any_eq_true]
      exact ⟨true, List.mem_map.mpr ⟨pathD p, looksD_mem.mpr ⟨p, hp, rfl⟩, by rw [eqv_path]; exact decide_eq_true rfl⟩, rfl⟩
    refine ⟨[some (.val P.enc), some (.val (.tuple (ps.map pathD))), some (.val (.list (looksD P))), some (.val (pathD p)), none], [some (.val P.enc), some (.val (.tuple (ps.map pathD))), some (.val (.list (looksD P))), some (.val (pathD p)), none], rfl, ?_, fun y hy => hx y (List.mem_cons_of_mem _ hy), rfl⟩
    exists F.f_check_choice, MSs.at, MS.body, walkOf, hlen
    exists hc, blt_any, hany) (ps.map pathD) [some (.val P.enc), some (.val (.tuple (ps.map pathD))), some (.val (.list (looksD P))), none, none] ⟨fun x hx => by
      obtain ⟨p, hp, rfl⟩ := List.mem_map.mp hx
      exact ⟨p, hps p hp, rfl⟩, rfl⟩
  obtain ⟨_, rfl⟩ := t2
  dsimp only [F.f_check_choice, MSs.at, MS.body] at t1
  rw [phi_at h.check_choice rfl]
  cases b with
  | true => exists F.f_check_choice, h1, isi_tup, beq_self_eq_true, walkOf, t1, ha
  | false => exists F.f_check_choice, h1, isi_tup, beq_self_eq_true, walkOf, t1, ha
def ascP (ps : List (List Nat)) : Bool := (List.zipWith ltP ps ps.tail).all id
def pairP : D → D
  | .tuple [a, b] => .bool (PySem.W.dataLt a b)
  | _ => .none
theorem ph_asc_path (h : HasChoice T Γ exc) (n : Nat) {ps : List (List Nat)} (hl : ps.length ≤ 1000) : Phi T Γ exc (n + 1) "ascends" [.val (.tuple (ps.map pathD))] = .ok (.val (.bool (ascP ps)), []) := by
  rw [phi_at h.prog.ascends rfl]
  have hcut : cut (ps.map pathD) (some 1) none = (ps.tail).map pathD := by
    have := cut_drop (ps.map pathD) 1
    rw [List.drop_one, ← List.map_tail] at this
    exact this
  have hlen : lines (List.zipWith (fun p q => PyData.tuple [p, q]) (ps.map pathD) (ps.tail.map pathD)).length = true := lines_small (by rw [List.length_zipWith]; simp; omega)
  have hc := comp_map (C := ⟨Phi T Γ exc n, Γ, [], exc, Phi2 T Γ exc n⟩) (own := [1, 2]) (tg := .tup [1, 2]) (el := .cmp .lt (.slot 1) (.slot 2)) (g := pairP) (xs := List.zipWith (fun p q => PyData.tuple [p, q]) (ps.map pathD) (ps.tail.map pathD)) (ρ := [some (.val (.tuple (ps.map pathD))), none, none]) [some (.val (.tuple (ps.map pathD))), none, none] rfl rfl (fun x hx' => by
    obtain ⟨a, b, rfl⟩ : ∃ a b : List Nat, x = .tuple [pathD a, pathD b] := by
      rw [List.zipWith_map] at hx'
      obtain ⟨i, hi, e⟩ := List.mem_iff_getElem.mp hx'
      rw [List.getElem_zipWith] at e
      exact ⟨_, _, e.symm⟩
    refine ⟨[some (.val (.tuple (ps.map pathD))), some (.val (pathD a)), some (.val (pathD b))], rfl, rfl, .val (.bool (ltP a b)), ?_, by show _ = Out.ok (PyData.bool (PySem.W.dataLt (pathD a) (pathD b)), _); rw [dataLt_path]; rfl⟩
    exists cmp_lt_path)
  have hm : (List.zipWith (fun p q => PyData.tuple [p, q]) (ps.map pathD) (ps.tail.map pathD)).map pairP = (List.zipWith ltP ps ps.tail).map .bool := by
    rw [List.zipWith_map, List.map_zipWith, List.map_zipWith]
    congr 1
    funext a b
    show PyData.bool (PySem.W.dataLt (pathD a) (pathD b)) = _
    rw [dataLt_path]
  exists F.f_ascends, psl_tup, hcut, zipI, hlen
  exists hc, hm, blt_all, ascP
theorem asc_of : ∀ {ps : List (List Nat)}, (ps.Pairwise fun a b => ltP a b = true) → ascP ps = true
  | [], _ => rfl
  | [_], _ => rfl
  | a :: b :: r, h => by
    have h1 := (List.pairwise_cons.mp h).1 b (by simp)
    have h2 := asc_of (List.pairwise_cons.mp h).2
    unfold ascP at h2 ⊢
    simp only [List.tail_cons, List.zipWith_cons_cons, List.all_cons, h1] at h2 ⊢
    simpa using h2
theorem ltP_irrefl (p : List Nat) : ltP p p = false := decide_eq_false (List.lt_irrefl _)
theorem asc_two (p : List Nat) : ascP [p, p] = false := by
  show ((ltP p p && true) : Bool) = false
  rw [ltP_irrefl]
  rfl
theorem ltP_asymm {p q : List Nat} (h : ltP p q = true) : ltP q p = false := by
  unfold ltP at *
  rw [decide_eq_true_eq] at h
  exact decide_eq_false (List.lt_asymm h)
theorem asc_rev {ps : List (List Nat)} (h : ps.Pairwise fun a b => ltP a b = true) (hl : 1 < ps.length) : ascP ps.reverse = false := by
  have h2 : ps.reverse.Pairwise fun a b => ltP b a = true := List.pairwise_reverse.mpr h
  match e : ps.reverse with
  | [] =>
    have := congrArg List.length e
    rw [List.length_reverse] at this
    simp at this
    rw [this] at hl
    simp at hl
  | [a] =>
    have := congrArg List.length e
    rw [List.length_reverse] at this
    simp at this
    omega
  | a :: b :: r =>
    rw [e] at h2
    have h3 := (List.pairwise_cons.mp h2).1 b (by simp)
    have h4 := ltP_asymm h3
    unfold ascP
    simp [h4]
theorem ph_q_bad (h : HasChoice T Γ exc) (n : Nat) {P : Prog} (hP : OkP P) {c : D} (hc : Phi T Γ exc (n + 13) "check_choice" [.val P.enc, .val c] = .exc "InvalidChoice" none) : Phi T Γ exc (n + 14) "quieted" [.val P.enc, .val c] = .exc "InvalidChoice" none := by
  rw [phi_at h.quieted rfl]
  have h1 := ph_check_program (exc := exc) h.prog n hP
  exists F.f_quieted, h1, hc
theorem ph_q_ok (h : HasChoice T Γ exc) (n : Nat) {P : Prog} (hP : OkP P) {ps : List (List Nat)} (hps : ∀ p ∈ ps, p ∈ lookP P.steps) (hasc : ps.Pairwise fun a b => ltP a b = true) (hl : ps.length ≤ 1000) :
    QOk P.names ps P.steps ∧ Phi T Γ exc (n + 14) "quieted" [.val P.enc, .val (.tuple (ps.map pathD))] = .ok (.val (Prog.enc ⟨P.names, quietAll ps P.steps⟩), []) := by
  have hq : QOk P.names ps P.steps := ⟨hP.ok, hP.size, hP.walks, hasc.imp (fun {a b} z e => by
    subst e
    rw [ltP_irrefl] at z
    cases z), fun p hp => lookP_mem.mp (hps p hp)⟩
  refine ⟨hq, ?_⟩
  rw [phi_at h.quieted rfl]
  have h1 := ph_check_program (exc := exc) h.prog n hP
  have h2 := ph_asc_path h (n + 11) hl
  rw [asc_of hasc] at h2
  have h3 := ph_cc h (n + 5) hP hps h2
  rw [if_pos rfl] at h3
  have h4 := ph_quieted_by (exc := exc) h.toHasQuiet (n + 2) hq
  exists F.f_quieted, h1, h3, h4
theorem quietAll_ok (h : HasQuiet T Γ) {names : List Str} (hn : okNames names = true) : ∀ {ps : List (List Nat)} {ss : List St}, QOk names ps ss → OkP ⟨names, quietAll ps ss⟩
  | [], ss, hq => ⟨hn, hq.ok, hq.size, hq.walks⟩
  | p :: ps, ss, hq => by
    obtain ⟨s, r, _, _, _, _, _, _, e, hq', _⟩ := q_step (exc := fun _ => false) h hq
    rw [e]
    exact quietAll_ok h hn hq'
end G
set_option maxHeartbeats 4000000
namespace G
open PySem
open PyData (strOk)
variable {T : Str → Option MF} {Γ : Str → Option D} {exc : Str → Bool}
structure Has09 (T : Str → Option MF) (Γ : Str → Option D) (exc : Str → Bool) : Prop where
  near : HasNear T
  ch : HasChoice T Γ exc
  law : T "law" = some F.f_law_k09
  inv : exc "InvalidProgram" = true
  invc : exc "InvalidChoice" = true
theorem inv_word9 : ("InvalidProgram" : Str) ++ " +" = "InvalidProgram +" := by decide +kernel
theorem ne_inv9 : cmp .ne (.tuple [.str "InvalidProgram +"]) (.tuple [.str "InvalidProgram +"]) = some false := by decide +kernel
theorem invc_word : ("InvalidChoice" : Str) ++ " +" = "InvalidChoice +" := by decide +kernel
theorem ne_invc : cmp .ne (.tuple [.str "InvalidChoice +"]) (.tuple [.str "InvalidChoice +"]) = some false := by decide +kernel
theorem ne_prog {P : Prog} (h : OkP P) : cmp .ne P.enc P.enc = some false := by
  have hs := (sh_prog h).shaped (by omega)
  rw [cmp_ne hs hs, eqv_prog]
  rfl
theorem ph_q_names (h : HasChoice T Γ exc) (n : Nat) (x c : D) : Phi T Γ exc (n + 4) "quieted" [.val (.tuple [x]), .val c] = .exc "InvalidProgram" none := by
  have h1 : Phi T Γ exc (n + 2) "is_program" [.val (.tuple [x])] = .ok (.val (.bool false), []) := by
    rw [phi_at h.prog.is_program rfl]
    have t1 := ph_is_tuple (exc := exc) h.prog n [x] 2 2
    have e : (decide ((2 : Int) ≤ ([x] : List D).length) && decide ((([x] : List D).length : Int) ≤ 2)) = false := by simp
    rw [e] at t1
    exists F.f_is_program, t1
  have h2 : Phi T Γ exc (n + 3) "check_program" [.val (.tuple [x])] = .exc "InvalidProgram" none := by
    rw [phi_at h.prog.check_program rfl]
    exists F.f_check_program, h1
  rw [phi_at h.quieted rfl]
  exists F.f_quieted, h2
theorem comp_some (h : HasDraw T) (n : Nat) (c0 c1 c3 c4 c5 : D) (o7 o8 o9 o10 o11 : Option Cell) : ∀ (xs : List D) (ds : List D) (o6 : Option Cell), Dr ds → ∃ ys ds' o6', comp ⟨Phi T Γ exc (n + 1), Γ, [], exc, Phi2 T Γ exc (n + 1)⟩ [6] (.one 6) (.some (.cmp .eq (.call "_law_draw" (.cons (.slot 2) (.cons (.cst (.int 2)) .nil))) (.cst (.int 0)))) (.slot 6) xs [some (.val c0), some (.val c1), some (.own ds), some (.val c3), some (.val c4), some (.val c5), o6, o7, o8, o9, o10, o11] =
    .ok (ys, [some (.val c0), some (.val c1), some (.own ds'), some (.val c3), some (.val c4), some (.val c5), o6', o7, o8, o9, o10, o11]) ∧ ys.Sublist xs ∧ Dr ds'
  | [], ds, o6, hd => ⟨[], ds, o6, rfl, List.Sublist.refl _, hd⟩
  | x :: xs, ds, o6, hd => by
    obtain ⟨r, d1, f1, r0, r1, hd1⟩ := ph_draw (Γ := Γ) (exc := exc) h n hd (m := 2) (by decide) (by decide)
    obtain ⟨ys, d2, o6', e, hs, hd2⟩ := comp_some h n c0 c1 c3 c4 c5 o7 o8 o9 o10 o11 xs d1 (some (.val x)) hd1
    have hcond : denC ⟨Phi T Γ exc (n + 1), Γ, [], exc, Phi2 T Γ exc (n + 1)⟩ (.some (.cmp .eq (.call "_law_draw" (.cons (.slot 2) (.cons (.cst (.int 2)) .nil))) (.cst (.int 0)))) [some (.val c0), some (.val c1), some (.own ds), some (.val c3), some (.val c4), some (.val c5), some (.val x), o7, o8, o9, o10, o11] = .ok (decide (r = 0), [some (.val c0), some (.val c1), some (.own d1), some (.val c3), some (.val c4), some (.val c5), some (.val x), o7, o8, o9, o10, o11]) := by
      exists f1, cmp_eq_int
    unfold comp at e ⊢
    by_cases hr : r = 0
    · refine ⟨x :: ys, d2, o6', ?_, hs.cons₂ x, hd2⟩
      rw [decide_eq_true hr] at hcond
      unfold lcGo
      show (denC _ _ [some (.val c0), some (.val c1), some (.own ds), some (.val c3), some (.val c4), some (.val c5), some (.val x), o7, o8, o9, o10, o11]).bind _ = _
      rw [hcond, bind_ok]
      show (lcGo _ _ _ _ xs [some (.val c0), some (.val c1), some (.own d1), some (.val c3), some (.val c4), some (.val c5), some (.val x), o7, o8, o9, o10, o11]).bind _ = _
      rw [e]
      rfl
    · refine ⟨ys, d2, o6', ?_, hs.cons x, hd2⟩
      rw [decide_eq_false hr] at hcond
      unfold lcGo
      show (denC _ _ [some (.val c0), some (.val c1), some (.own ds), some (.val c3), some (.val c4), some (.val c5), some (.val x), o7, o8, o9, o10, o11]).bind _ = _
      rw [hcond, bind_ok]
      exact e
def BadQ (T : Str → Option MF) (Γ : Str → Option D) (exc : Str → Bool) (P : Prog) (c : D) : Prop := Phi T Γ exc 57 "quieted" [.val P.enc, .val c] = .exc "InvalidChoice" none
theorem bad_not (h : HasChoice T Γ exc) {P : Prog} (hP : OkP P) {c : D} (hc : isInst c "tuple" = some false) : BadQ T Γ exc P c := ph_q_bad h 43 hP (ph_cc_not h 48 hP hc)
theorem bad_item (h : HasChoice T Γ exc) {P : Prog} (hP : OkP P) {x : D} {xs : List D} (hx : ∀ q : List Nat, q ∈ lookP P.steps → Phi T Γ exc 55 "same_kind" [.val x, .val (pathD q)] = .ok (.val (.bool false), [])) : BadQ T Γ exc P (.tuple (x :: xs)) := ph_q_bad h 43 hP (ph_cc_bad h 48 hP hx)
theorem bad_path (h : HasChoice T Γ exc) {P : Prog} (hP : OkP P) {p : List Nat} (hl : p.length ≤ 100) (hp : p ∉ lookP P.steps) : BadQ T Γ exc P (.tuple [pathD p]) := bad_item h hP fun q hq => by
  have := ph_sk_path h 53 (p := p) (q := q) hl (by have := look_len hP hq; omega)
  rw [decide_eq_false (fun e : p = q => hp (by rw [e]; exact hq))] at this
  exact this
theorem bad_asc (h : HasChoice T Γ exc) {P : Prog} (hP : OkP P) {ps : List (List Nat)} (hps : ∀ p ∈ ps, p ∈ lookP P.steps) (hl : ps.length ≤ 1000) (ha : ascP ps = false) : BadQ T Γ exc P (.tuple (ps.map pathD)) := by
  have h2 := ph_asc_path h 54 hl
  rw [ha] at h2
  have := ph_cc h 48 hP hps h2
  exact ph_q_bad h 43 hP this
theorem look_hd {P : Prog} (hP : OkP P) {k : Nat} {r : List Nat} (h : k :: r ∈ lookP P.steps) : k < 14 := by
  obtain ⟨s, hi, _⟩ := lookP_mem.mp h
  have hl := len_sizes P.steps
  have := hP.size
  have hk : k < P.steps.length := by
    generalize P.steps = ss at hi
    cases hi with
    | here pre s post => simp
    | deep pre t post il b ir p s hi hb => simp
  omega
theorem look_snd {P : Prog} {k j : Nat} {r : List Nat} (h : k :: j :: r ∈ lookP P.steps) : j < 2 := by
  obtain ⟨s, hi, _⟩ := lookP_mem.mp h
  generalize P.steps = ss at hi
  cases hi with
  | deep pre t post il b ir p s hi hb =>
    have : t.inner.length ≤ 2 := by cases t <;> simp [St.inner]
    rw [hi] at this
    simp at this
    omega
theorem restore6 (a0 a1 a2 a3 a4 a5 a7 a8 a9 a10 a11 b0 b1 b2 b3 b4 b5 b6 b7 b8 b9 b10 b11 : Option Cell) : M.restore [6] [a0, a1, a2, a3, a4, a5, none, a7, a8, a9, a10, a11] [b0, b1, b2, b3, b4, b5, b6, b7, b8, b9, b10, b11] = [b0, b1, b2, b3, b4, b5, none, b7, b8, b9, b10, b11] := rfl
def gOth (L : List D) : D → Option D
  | .tuple [p, _] => if inSeq p L then none else some p
  | _ => none
theorem shaped_looks (P : Prog) : SeqAt.shaped (.list (looksD P)) = true :=
  (sh_lst (n := 1).mpr fun x hx => by
    obtain ⟨p, _, rfl⟩ := looksD_mem.mp hx
    exact sh_path p).shaped (by omega)
theorem inSeq_looks {P : Prog} {p : List Nat} : inSeq (pathD p) (looksD P) = decide (p ∈ lookP P.steps) := by
  unfold inSeq
  by_cases h : p ∈ lookP P.steps
  · rw [decide_eq_true h, List.any_eq_true]
    exact ⟨pathD p, looksD_mem.mpr ⟨p, h, rfl⟩, by rw [eqv_path]; exact decide_eq_true rfl⟩
  · rw [decide_eq_false h, List.any_eq_false]
    intro x hx
    obtain ⟨q, hq, rfl⟩ := looksD_mem.mp hx
    rw [eqv_path]
    intro e
    have e : q = p := of_decide_eq_true e
    exact h (e ▸ hq)
theorem notIn_looks (P : Prog) (p : List Nat) : cmp .notIn (pathD p) (.list (looksD P)) = some (!inSeq (pathD p) (looksD P)) := by
  rw [cmp_notIn, pin_lst (shaped_path p) (shaped_looks P)]
  rfl
theorem prev_lst (xs : List D) : prev (.list xs) = some (.fresh xs.reverse) := rfl
set_option maxHeartbeats 8000000
theorem k09_turn (h : Has09 T Γ exc) {P : Prog} (hP : OkP P) (c0 c1 c3 : D) {ds : List D} (hd : Dr ds) :
    ∃ ds' o5 o7 o8 o10 o11, denB ⟨Phi T Γ exc 59, Γ, [], exc, Phi2 T Γ exc 59⟩ ((F.f_law_k09.body.at 0).body.at 2).body [some (.val c0), some (.val c1), some (.own ds), some (.val c3), some (.val P.enc), none, none, none, none, none, none, none] = .ok (.nx, [some (.val c0), some (.val c1), some (.own ds'), some (.val c3), some (.val P.enc), o5, none, o7, o8, none, o10, o11]) ∧ Dr ds' := by
  have big : (10000 : Nat) ≤ sizeLine := by decide
  have hz := hP.size
  have hlk := looksD_len P
  have h1 := ph_law_looks (exc := exc) h.ch.toHasQuiet 52 hP
  have hlen : lines (looksD P).length = true := lines_small (by omega)
  obtain ⟨ys, ds', o6, e1, hys, hd'⟩ := comp_some (Γ := Γ) (exc := exc) h.near.toHasDraw 58 c0 c1 c3 P.enc (.list (looksD P)) none none none none none (looksD P) ds none hd
  have hasc := sortP_asc (lookP_nodup P.steps)
  have hmem : ∀ p ∈ sortP (lookP P.steps), p ∈ lookP P.steps := fun p hp => (sortP_perm _).mem_iff.mp hp
  obtain ⟨ps, hps, rfl⟩ := List.sublist_map_iff.mp (show ys.Sublist ((sortP (lookP P.steps)).map pathD) from hys)
  have hsl : (sortP (lookP P.steps)).length ≤ 14 := by rw [(sortP_perm _).length_eq]; have := lookP_len P.steps; omega
  obtain ⟨k1, q1⟩ := ph_q_ok h.ch 45 hP (ps := ps) (fun p hp => hmem p (hps.subset hp)) (hasc.sublist hps) (by have := hps.length_le; omega)
  have q2 := ph_law_quieted (exc := exc) h.ch.toHasQuiet 48 k1 (c := .tuple (ps.map pathD)) rfl
  have n1 := ne_prog (quietAll_ok h.ch.toHasQuiet hP.names k1)
  obtain ⟨_, q3⟩ := ph_q_ok h.ch 45 hP (ps := []) (fun p hp => by cases hp) List.Pairwise.nil (by simp)
  have q3 : Phi T Γ exc 59 "quieted" [.val P.enc, .val (.tuple [])] = .ok (.val P.enc, []) := q3
  have n2 := ne_prog hP
  obtain ⟨k4, q4⟩ := ph_q_ok h.ch 45 hP (ps := sortP (lookP P.steps)) hmem hasc (by omega)
  have q5 := ph_law_quieted (exc := exc) h.ch.toHasQuiet 48 k4 (c := .list (looksD P)) rfl
  have n3 := ne_prog (quietAll_ok h.ch.toHasQuiet hP.names k4)
  have q4 : Phi T Γ exc 59 "quieted" [.val P.enc, .val (.tuple (looksD P))] = .ok (.val (Prog.enc ⟨P.names, quietAll (sortP (lookP P.steps)) P.steps⟩), []) := q4
  have hl : Phi T Γ exc 59 "_law_listed" [.val (.tuple (encs P.steps)), .val (.tuple [])] = .ok (.fresh (encL (listeds [] 0 P.steps)), []) := ph_law_listed (exc := exc) h.near.toHasLaw 4 53 P.steps hP.deep (by omega) [] (by simp)
  have el := listeds_len [] 0 P.steps
  have hlen2 : lines (encL (listeds [] 0 P.steps)).length = true := lines_small (by rw [encL_len]; omega)
  have hpx : pix P.enc (.int 1) = some (.tuple (encs P.steps)) := pix_tup1 _ _ _
  generalize hb0 : [PyData.none, .list (looksD P), .tuple [.none], .tuple [.tuple [.int 99]], .tuple [.int 0], .str "a", .tuple [.tuple [.bool true]], .tuple [.tuple [.int 0, .int 5, .int 0]]] = b0
  have hc10 := comp_ok (C := ⟨Phi T Γ exc 59, Γ, [], exc, Phi2 T Γ exc 59⟩) (own := [6, 9]) (tg := .tup [6, 9]) (cond := .some (.cmp .notIn (.slot 6) (.slot 5))) (el := .slot 6) (g := gOth (looksD P)) (xs := encL (listeds [] 0 P.steps)) (ρ := [some (.val c0), some (.val c1), some (.own ds'), some (.val c3), some (.val P.enc), some (.val (.list (looksD P))), none, some (.val (.tuple (ps.map pathD))), some (.own b0), none, none, none]) [some (.val c0), some (.val c1), some (.own ds'), some (.val c3), some (.val P.enc), some (.val (.list (looksD P))), none, some (.val (.tuple (ps.map pathD))), some (.own b0), none, none, none] rfl rfl (fun x hx => by
    obtain ⟨q, hq, rfl⟩ := List.mem_map.mp hx
    refine ⟨[some (.val c0), some (.val c1), some (.own ds'), some (.val c3), some (.val P.enc), some (.val (.list (looksD P))), some (.val (pathD q.1)), some (.val (.tuple (ps.map pathD))), some (.own b0), some (.val q.2.enc), none, none], rfl, rfl, ?_⟩
    have hcond : denC ⟨Phi T Γ exc 59, Γ, [], exc, Phi2 T Γ exc 59⟩ (.some (.cmp .notIn (.slot 6) (.slot 5))) [some (.val c0), some (.val c1), some (.own ds'), some (.val c3), some (.val P.enc), some (.val (.list (looksD P))), some (.val (pathD q.1)), some (.val (.tuple (ps.map pathD))), some (.own b0), some (.val q.2.enc), none, none] = .ok (!inSeq (pathD q.1) (looksD P), [some (.val c0), some (.val c1), some (.own ds'), some (.val c3), some (.val P.enc), some (.val (.list (looksD P))), some (.val (pathD q.1)), some (.val (.tuple (ps.map pathD))), some (.own b0), some (.val q.2.enc), none, none]) := by
      exists notIn_looks
    rw [hcond]
    cases hk : inSeq (pathD q.1) (looksD P) with
    | false => exact .inl ⟨rfl, .val (pathD q.1), pathD q.1, rfl, rfl, by simp [gOth, hk]⟩
    | true => exact .inr ⟨rfl, by simp [gOth, hk]⟩)
  generalize hoth : (encL (listeds [] 0 P.steps)).filterMap (gOth (looksD P)) = oth at hc10
  have olen : oth.length ≤ 14 := by
    rw [← hoth]
    have := List.length_filterMap_le (gOth (looksD P)) (encL (listeds [] 0 P.steps))
    rw [encL_len] at this
    omega
  have omem : ∀ x ∈ oth, ∃ q : List Nat, x = pathD q ∧ q ∉ lookP P.steps ∧ q.length ≤ 100 := fun x hx => by
    rw [← hoth] at hx
    obtain ⟨y, hy, e⟩ := List.mem_filterMap.mp hx
    obtain ⟨q, hq, rfl⟩ := List.mem_map.mp hy
    have e : (if inSeq (pathD q.1) (looksD P) then none else some (pathD q.1)) = some x := e
    rw [inSeq_looks] at e
    by_cases hk : q.1 ∈ lookP P.steps
    · simp [hk] at e
    · simp [hk] at e
      refine ⟨q.1, e.symm, hk, ?_⟩
      obtain ⟨p', e', i'⟩ := in_listed _ P.steps (Nat.le_refl _) [] q hq
      rw [List.nil_append] at e'
      have := i'.len
      have := hP.deep
      rw [e']
      omega
  have hleno : lines oth.length = true := lines_small (by omega)
  have hcA := comp_map (C := ⟨Phi T Γ exc 59, Γ, [], exc, Phi2 T Γ exc 59⟩) (own := [6]) (tg := .one 6) (el := .tup (.cons (.slot 6) .nil)) (g := fun x => .tuple [x]) (xs := oth) (ρ := [some (.val c0), some (.val c1), some (.own ds'), some (.val c3), some (.val P.enc), some (.val (.list (looksD P))), none, some (.val (.tuple (ps.map pathD))), some (.own b0), none, some (.val (.list oth)), none]) [some (.val c0), some (.val c1), some (.own ds'), some (.val c3), some (.val P.enc), some (.val (.list (looksD P))), none, some (.val (.tuple (ps.map pathD))), some (.own b0), none, some (.val (.list oth)), none] rfl rfl (fun x hx => by
    refine ⟨[some (.val c0), some (.val c1), some (.own ds'), some (.val c3), some (.val P.enc), some (.val (.list (looksD P))), some (.val x), some (.val (.tuple (ps.map pathD))), some (.own b0), none, some (.val (.list oth)), none], rfl, rfl, .val (.tuple [x]), ?_, rfl⟩
    exists beq_self_eq_true)
  have hcB := comp_map (C := ⟨Phi T Γ exc 59, Γ, [], exc, Phi2 T Γ exc 59⟩) (own := [6]) (tg := .one 6) (el := .tup (.cons (.slot 6) (.cons (.slot 6) .nil))) (g := fun x => .tuple [x, x]) (xs := looksD P) (ρ := [some (.val c0), some (.val c1), some (.own ds'), some (.val c3), some (.val P.enc), some (.val (.list (looksD P))), none, some (.val (.tuple (ps.map pathD))), some (.own b0), none, some (.val (.list oth)), none]) [some (.val c0), some (.val c1), some (.own ds'), some (.val c3), some (.val P.enc), some (.val (.list (looksD P))), none, some (.val (.tuple (ps.map pathD))), some (.own b0), none, some (.val (.list oth)), none] rfl rfl (fun x hx => by
    refine ⟨[some (.val c0), some (.val c1), some (.own ds'), some (.val c3), some (.val P.enc), some (.val (.list (looksD P))), some (.val x), some (.val (.tuple (ps.map pathD))), some (.own b0), none, some (.val (.list oth)), none], rfl, rfl, .val (.tuple [x, x]), ?_, rfl⟩
    exists beq_self_eq_true)
  have b0len : b0.length = 8 := by rw [← hb0]; rfl
  have a1 := bin_add_lst (i := b0) (j := oth.map fun x => PyData.tuple [x]) (by rw [List.length_map]; omega)
  have a2 := bin_add_lst (i := b0 ++ oth.map fun x => PyData.tuple [x]) (j := (looksD P).map fun x => PyData.tuple [x, x]) (by rw [List.length_append, List.length_map, List.length_map]; omega)
  have b0bad : ∀ x ∈ b0, BadQ T Γ exc P x := fun x hx => by
    rw [← hb0] at hx
    simp only [List.mem_cons, List.mem_nil_iff, or_false] at hx
    rcases hx with rfl | rfl | rfl | rfl | rfl | rfl | rfl | rfl
    · exact bad_not h.ch hP rfl
    · exact bad_not h.ch hP rfl
    · exact bad_item h.ch hP fun q _ => ph_sk_none h.ch 54 q
    · exact bad_path h.ch hP (p := [99]) (by simp) fun z => by have := look_hd hP z; omega
    · exact bad_item h.ch hP fun q _ => ph_sk_num h.ch 54 0 q
    · exact bad_not h.ch hP rfl
    · exact bad_item h.ch hP fun q hq => ph_sk_true h.ch 53 (by have := look_len hP hq; omega)
    · exact bad_path h.ch hP (p := [0, 5, 0]) (by simp) fun z => by have := look_snd z; omega
  have bads : ∀ x ∈ b0 ++ (oth.map fun x => PyData.tuple [x]) ++ ((looksD P).map fun x => PyData.tuple [x, x]), BadQ T Γ exc P x := fun x hx => by
    rcases List.mem_append.mp hx with hx | hx
    · rcases List.mem_append.mp hx with hx | hx
      · exact b0bad x hx
      · obtain ⟨y, hy, rfl⟩ := List.mem_map.mp hx
        obtain ⟨q, rfl, hq, hql⟩ := omem y hy
        exact bad_path h.ch hP hql hq
    · obtain ⟨y, hy, rfl⟩ := List.mem_map.mp hx
      obtain ⟨q, hq, rfl⟩ := looksD_mem.mp hy
      exact bad_asc h.ch hP (ps := [q, q]) (fun p hp => by
        simp only [List.mem_cons, List.mem_nil_iff, or_false, or_self] at hp
        rw [hp]
        exact hq) (by simp) (asc_two q)
  have hloop : ∀ bl : List D, (∀ x ∈ bl, BadQ T Γ exc P x) → loop ⟨Phi T Γ exc 59, Γ, [], exc, Phi2 T Γ exc 59⟩ [11] (.one 11) ((((F.f_law_k09.body.at 0).body.at 2).body).at 8).body bl [some (.val c0), some (.val c1), some (.own ds'), some (.val c3), some (.val P.enc), some (.val (.list (looksD P))), none, some (.val (.tuple (ps.map pathD))), some (.val (.list bl)), none, some (.val (.list oth)), none] = .ok (.nx, [some (.val c0), some (.val c1), some (.own ds'), some (.val c3), some (.val P.enc), some (.val (.list (looksD P))), none, some (.val (.tuple (ps.map pathD))), some (.val (.list bl)), none, some (.val (.list oth)), none]) := fun bl hbl => by
    obtain ⟨ρ', t1, _, rfl⟩ := loop_run (C := ⟨Phi T Γ exc 59, Γ, [], exc, Phi2 T Γ exc 59⟩) (cl := [11]) (tg := .one 11) (body := ((((F.f_law_k09.body.at 0).body.at 2).body).at 8).body)
      (P := fun xs ρ => (∀ x ∈ xs, BadQ T Γ exc P x) ∧ ρ = [some (.val c0), some (.val c1), some (.own ds'), some (.val c3), some (.val P.enc), some (.val (.list (looksD P))), none, some (.val (.tuple (ps.map pathD))), some (.val (.list bl)), none, some (.val (.list oth)), none]) (by
      intro x rest ρ ⟨hx, eρ⟩
      subst eρ
      have hb := hx x (by simp)
      unfold BadQ at hb
      have h6 : Phi2 T Γ exc 59 = some (Phi T Γ exc 57) := rfl
      refine ⟨[some (.val c0), some (.val c1), some (.own ds'), some (.val c3), some (.val P.enc), some (.val (.list (looksD P))), none, some (.val (.tuple (ps.map pathD))), some (.val (.list bl)), none, some (.val (.list oth)), some (.val x)], [some (.val c0), some (.val c1), some (.own ds'), some (.val c3), some (.val P.enc), some (.val (.list (looksD P))), none, some (.val (.tuple (ps.map pathD))), some (.val (.list bl)), none, some (.val (.list oth)), some (.val x)], rfl, ?_, fun y hy => hx y (List.mem_cons_of_mem _ hy), rfl⟩
      exists F.f_law_k09, MSs.at, MS.body, h6, hide_nil, hide_val, hide_own, hide_none, hb, toldV_exc h.invc, invc_word, ne_invc) bl _ ⟨hbl, rfl⟩
    exact t1
  dsimp only [F.f_law_k09, MSs.at, MS.body] at hloop
  have h6 : Phi2 T Γ exc 59 = some (Phi T Γ exc 57) := rfl
  have psl1 : psl P.enc none (some 1) = some (.val (.tuple [.tuple (P.names.map .str)])) := by
    unfold Prog.enc
    rw [psl_tup]
    have := cut_take ([.tuple (P.names.map PyData.str), .tuple (encs P.steps)] : List D) 1
    have e : cut ([.tuple (P.names.map PyData.str), .tuple (encs P.steps)] : List D) none (some 1) = [.tuple (P.names.map PyData.str)] := this
    rw [e]
  have hqn := ph_q_names h.ch 53 (.tuple (P.names.map .str)) .none
  have mid : ∀ (bl : List D), (∀ x ∈ bl, BadQ T Γ exc P x) → True := fun _ _ => trivial
  by_cases hgt : 1 < (looksD P).length
  · have g1 : decide (((looksD P).length : Int) > 1) = true := decide_eq_true (by omega)
    have a3 := lm_append (b0 ++ (oth.map fun x => PyData.tuple [x]) ++ ((looksD P).map fun x => PyData.tuple [x, x])) (.tuple (looksD P).reverse) (by rw [List.length_append, List.length_append, List.length_map, List.length_map]; omega)
    have hl1 := hloop (b0 ++ (oth.map fun x => PyData.tuple [x]) ++ ((looksD P).map fun x => PyData.tuple [x, x]) ++ [.tuple (looksD P).reverse]) (fun x hx => by
      rcases List.mem_append.mp hx with hx | hx
      · exact bads x hx
      · rw [List.mem_singleton.mp hx]
        have e : (looksD P).reverse = ((sortP (lookP P.steps)).reverse).map pathD := by unfold looksD; rw [List.map_reverse]
        rw [e]
        exact bad_asc h.ch hP (fun p hp => hmem p (List.mem_reverse.mp hp)) (by rw [List.length_reverse]; omega) (asc_rev hasc (by unfold looksD at hgt; rw [List.length_map] at hgt; exact hgt)))
    refine ⟨ds', some (.val (.list (looksD P))), some (.val (.tuple (ps.map pathD))), some (.val (.list (b0 ++ (oth.map fun x => PyData.tuple [x]) ++ ((looksD P).map fun x => PyData.tuple [x, x]) ++ [.tuple (looksD P).reverse]))), some (.val (.list oth)), none, ?_, hd'⟩
    exists F.f_law_k09, MSs.at, MS.body, h1, walkOf, hlen
    exists e1, restore6, blt_tuple, q1, q2, n1, q3, n2, q4, q5, n3, hb0, hpx, hl, walkOf, hlen2
    exists hc10, walkOf, hleno
    exists hcA, walkOf, hlen
    exists hcB, a1, a2, blt_len_lst, cmp_gt_int, g1, prev_lst, blt_tuple, a3, walkOf
    exists hl1
    exists h6, hide_nil, hide_val, hide_own, hide_none, psl1, hqn, toldV_exc h.inv, inv_word9, ne_inv9, hlen
  · have g1 : decide (((looksD P).length : Int) > 1) = false := decide_eq_false (by omega)
    have hl1 := hloop _ bads
    refine ⟨ds', some (.val (.list (looksD P))), some (.val (.tuple (ps.map pathD))), some (.val (.list (b0 ++ (oth.map fun x => PyData.tuple [x]) ++ ((looksD P).map fun x => PyData.tuple [x, x])))), some (.val (.list oth)), none, ?_, hd'⟩
    exists F.f_law_k09, MSs.at, MS.body, h1, walkOf, hlen
    exists e1, restore6, blt_tuple, q1, q2, n1, q3, n2, q4, q5, n3, hb0, hpx, hl, walkOf, hlen2
    exists hc10, walkOf, hleno
    exists hcA, walkOf, hlen
    exists hcB, a1, a2, blt_len_lst, cmp_gt_int, g1, walkOf
    exists hl1
    exists h6, hide_nil, hide_val, hide_own, hide_none, psl1, hqn, toldV_exc h.inv, inv_word9, ne_inv9, hlen
theorem k09_law (h : Has09 T Γ exc) (ns : List Int) (hn : ns.length ≤ 63) : Phi T Γ exc 60 "law" [.val (scrD ns)] = .ok (.val (.bool true), []) := by
  rw [phi_at h.law rfl]
  obtain ⟨ρ', h1, h2⟩ := loop_run (C := ⟨Phi T Γ exc 59, Γ, [], exc, Phi2 T Γ exc 59⟩) (cl := [1, 2, 3, 5, 7, 8, 10, 11, 4]) (tg := .one 1) (body := (F.f_law_k09.body.at 0).body)
    (P := fun xs ρ => (∀ x ∈ xs, ∃ k : Nat, x = .int k ∧ k < 1000) ∧ ρ = [some (.val (scrD ns)), none, none, none, none, none, none, none, none, none, none, none]) (by
    intro x rest ρ ⟨hx, eρ⟩
    subst eρ
    obtain ⟨k, rfl, hk⟩ := hx x (by simp)
    obtain ⟨ds, f1, hd1⟩ := ph_draws (Γ := Γ) (exc := exc) h.near.toHasDraw 58 ns k hk
    obtain ⟨P, d2, f2, hP, hd2⟩ := ph_program (Γ := Γ) (exc := exc) h.near.toHasGen 51 hd1 (m := 3) (by omega) (by omega)
    have f2 : Phi T Γ exc 59 "_law_program" [.own ds, .val (.int 3)] = .ok (.val P.enc, [d2]) := f2
    obtain ⟨P', d3, f3, hP', hd3⟩ := ph_near (Γ := Γ) (exc := exc) h.near 47 hd2 hP
    obtain ⟨ρ2, t1, _, d4, hd4, rfl⟩ := loop_run (C := ⟨Phi T Γ exc 59, Γ, [], exc, Phi2 T Γ exc 59⟩) (cl := [4, 5, 7, 8, 10, 11]) (tg := .one 4) (body := ((F.f_law_k09.body.at 0).body.at 2).body)
      (P := fun xs ρ => (∀ x ∈ xs, ∃ Q, OkP Q ∧ x = Q.enc) ∧ ∃ d, Dr d ∧ ρ = [some (.val (scrD ns)), some (.val (.int k)), some (.own d), some (.val P.enc), none, none, none, none, none, none, none, none]) (by
      intro x rest ρ ⟨hx, d, hd, eρ⟩
      subst eρ
      obtain ⟨Q, hQ, rfl⟩ := hx x (by simp)
      obtain ⟨d', o5, o7, o8, o10, o11, t1, hd'⟩ := k09_turn h hQ (scrD ns) (.int k) P.enc hd
      exact ⟨_, _, rfl, t1, fun y hy => hx y (List.mem_cons_of_mem _ hy), d', hd', rfl⟩) [P.enc, P'.enc] [some (.val (scrD ns)), some (.val (.int k)), some (.own d3), some (.val P.enc), none, none, none, none, none, none, none, none] ⟨fun x hx => by
        simp only [List.mem_cons, List.mem_nil_iff, or_false] at hx
        rcases hx with rfl | rfl
        · exact ⟨P, hP.okp, rfl⟩
        · exact ⟨P', hP', rfl⟩, d3, hd3, rfl⟩
    dsimp only [F.f_law_k09, MSs.at, MS.body] at t1
    refine ⟨_, [some (.val (scrD ns)), some (.val (.int k)), some (.own d4), some (.val P.enc), none, none, none, none, none, none, none, none], rfl, ?_, fun y hy => hx y (List.mem_cons_of_mem _ hy), rfl⟩
    exists F.f_law_k09, MSs.at, MS.body, f1, f2, f3, walkOf, t1) ((List.range (if (if (ns.length : Int) < 12 then (ns.length : Int) else 12) > 1 then (if (ns.length : Int) < 12 then (ns.length : Int) else 12) else 1).toNat).map (fun (k : Nat) => PyData.int k)) [some (.val (scrD ns)), none, none, none, none, none, none, none, none, none, none, none] ⟨fun x hx => by
      obtain ⟨k, hk, rfl⟩ := List.mem_map.mp hx
      rw [List.mem_range] at hk
      refine ⟨k, rfl, ?_⟩
      split at hk <;> split at hk <;> omega, rfl⟩
  obtain ⟨_, rfl⟩ := h2
  dsimp only [F.f_law_k09, MSs.at, MS.body] at h1
  have e1 : blt .min [.int 12, .int ns.length] = some (.val (.int (if (ns.length : Int) < 12 then (ns.length : Int) else 12))) := blt_min _ _
  have e2 : ∀ i : Int, blt .max [.int 1, .int i] = some (.val (.int (if i > 1 then i else 1))) := fun i => rfl
  have e3 : rangeI [.int (if (if (ns.length : Int) < 12 then (ns.length : Int) else 12) > 1 then (if (ns.length : Int) < 12 then (ns.length : Int) else 12) else 1)] = some ((List.range (if (if (ns.length : Int) < 12 then (ns.length : Int) else 12) > 1 then (if (ns.length : Int) < 12 then (ns.length : Int) else 12) else 1).toNat).map (fun (k : Nat) => PyData.int k)) := by
    refine if_pos ⟨?_, ?_⟩ <;> split <;> split <;> omega
  exists F.f_law_k09, scr_len, e1, e2, e3, h1
end G
end
set_option maxHeartbeats 4000000
namespace K09
open PySem L2 G
def top (i : Nat) : Stmt := PySem.Challenge.pw_lookmakes_k09_looks_quieted.main.body.getD i (.Pass ⟨0, 0, 0, 0⟩)
def g_is_from : GD := ⟨"is_from", top 28, ((["value", "low", "high"] : List String).map Str.ofString), ((["value", "low", "high"] : List String).map Str.ofString), F.f_is_from, false⟩
def g_is_tuple : GD := ⟨"is_tuple", top 29, ((["value", "least", "most"] : List String).map Str.ofString), ((["value", "least", "most"] : List String).map Str.ofString), F.f_is_tuple, false⟩
def g_is_name : GD := ⟨"is_name", top 30, ((["value"] : List String).map Str.ofString), ((["value", "sign"] : List String).map Str.ofString), F.f_is_name, false⟩
def g_ascends : GD := ⟨"ascends", top 31, ((["values"] : List String).map Str.ofString), ((["values", "one", "other"] : List String).map Str.ofString), F.f_ascends, false⟩
def g_is_key : GD := ⟨"is_key", top 32, ((["names", "value"] : List String).map Str.ofString), ((["names", "value"] : List String).map Str.ofString), F.f_is_key, false⟩
def g_is_plain : GD := ⟨"is_plain", top 33, ((["names", "value"] : List String).map Str.ofString), ((["names", "value"] : List String).map Str.ofString), F.f_is_plain, false⟩
def g_is_body : GD := ⟨"is_body", top 34, ((["names", "value"] : List String).map Str.ofString), ((["names", "value", "one"] : List String).map Str.ofString), F.f_is_body, false⟩
def g_is_statement : GD := ⟨"is_statement", top 35, ((["names", "value", "deep"] : List String).map Str.ofString), ((["names", "value", "deep"] : List String).map Str.ofString), F.f_is_statement, false⟩
def g_are_steps : GD := ⟨"are_steps", top 36, ((["names", "value", "deep"] : List String).map Str.ofString), ((["names", "value", "deep", "one"] : List String).map Str.ofString), F.f_are_steps, false⟩
def g_blocks : GD := ⟨"blocks", top 37, ((["one"] : List String).map Str.ofString), ((["one"] : List String).map Str.ofString), F.f_blocks, false⟩
def g_listed : GD := ⟨"listed", top 38, ((["steps", "ahead"] : List String).map Str.ofString), ((["steps", "ahead", "found", "index", "one", "here", "side", "block"] : List String).map Str.ofString), F.f_listed, false⟩
def g_is_program : GD := ⟨"is_program", top 39, ((["value"] : List String).map Str.ofString), ((["value", "name", "path", "one", "words"] : List String).map Str.ofString), F.f_is_program, false⟩
def g_check_program : GD := ⟨"check_program", top 40, ((["program"] : List String).map Str.ofString), ((["program"] : List String).map Str.ofString), F.f_check_program, false⟩
def g_same_kind : GD := ⟨"same_kind", top 41, ((["one", "other"] : List String).map Str.ofString), ((["one", "other", "mine", "their"] : List String).map Str.ofString), F.f_same_kind, false⟩
def g_exchanged : GD := ⟨"exchanged", top 42, ((["steps", "path", "statement"] : List String).map Str.ofString), ((["steps", "path", "statement", "head", "one", "many", "middle"] : List String).map Str.ofString), F.f_exchanged, false⟩
def g_found_at : GD := ⟨"found_at", top 43, ((["steps", "path"] : List String).map Str.ofString), ((["steps", "path", "place", "one"] : List String).map Str.ofString), F.f_found_at, false⟩
def g_looks_of : GD := ⟨"looks_of", top 44, ((["program"] : List String).map Str.ofString), ((["program", "path", "one"] : List String).map Str.ofString), F.f_looks_of, false⟩
def g_quieted_by : GD := ⟨"quieted_by", top 46, ((["program", "choice"] : List String).map Str.ofString), ((["program", "choice", "steps", "path", "one"] : List String).map Str.ofString), F.f_quieted_by, false⟩
def g_check_choice : GD := ⟨"check_choice", top 47, ((["program", "choice"] : List String).map Str.ofString), ((["program", "choice", "known", "one", "path"] : List String).map Str.ofString), F.f_check_choice, false⟩
def g_quieted : GD := ⟨"quieted", top 48, ((["program", "choice"] : List String).map Str.ofString), ((["program", "choice"] : List String).map Str.ofString), F.f_quieted, false⟩
def g__law_draws : GD := ⟨"_law_draws", top 50, ((["script", "k"] : List String).map Str.ofString), ((["script", "k", "cell", "blend"] : List String).map Str.ofString), F.f__law_draws, false⟩
def g__law_draw : GD := ⟨"_law_draw", top 51, ((["draws", "many"] : List String).map Str.ofString), ((["draws", "many", "found", "wide", "more"] : List String).map Str.ofString), F.f__law_draw, false⟩
def g__law_of : GD := ⟨"_law_of", top 52, ((["draws", "some"] : List String).map Str.ofString), ((["draws", "some"] : List String).map Str.ofString), F.f__law_of, false⟩
def g__law_names : GD := ⟨"_law_names", top 53, ((["draws", "most"] : List String).map Str.ofString), ((["draws", "most", "menus"] : List String).map Str.ofString), F.f__law_names, false⟩
def g__law_body : GD := ⟨"_law_body", top 54, ((["draws", "names"] : List String).map Str.ofString), ((["draws", "names", "found", "turn", "word", "key"] : List String).map Str.ofString), F.f__law_body, false⟩
def g__law_plain_one : GD := ⟨"_law_plain_one", top 55, ((["draws", "names"] : List String).map Str.ofString), ((["draws", "names", "some", "word"] : List String).map Str.ofString), F.f__law_plain_one, false⟩
def g__law_block : GD := ⟨"_law_block", top 56, ((["draws", "names", "room", "deep"] : List String).map Str.ofString), ((["draws", "names", "room", "deep", "found", "turn", "way", "word", "yes", "no"] : List String).map Str.ofString), F.f__law_block, false⟩
def g__law_program : GD := ⟨"_law_program", top 57, ((["draws", "most"] : List String).map Str.ofString), ((["draws", "most", "names", "steps"] : List String).map Str.ofString), F.f__law_program, false⟩
def g__law_blocks : GD := ⟨"_law_blocks", top 58, ((["one"] : List String).map Str.ofString), ((["one"] : List String).map Str.ofString), F.f__law_blocks, false⟩
def g__law_listed : GD := ⟨"_law_listed", top 59, ((["steps", "ahead"] : List String).map Str.ofString), ((["steps", "ahead", "found", "k", "inner", "side"] : List String).map Str.ofString), F.f__law_listed, false⟩
def g__law_put : GD := ⟨"_law_put", top 60, ((["steps", "path", "more"] : List String).map Str.ofString), ((["steps", "path", "more", "k", "one", "inner", "head", "new"] : List String).map Str.ofString), F.f__law_put, false⟩
def g__law_near : GD := ⟨"_law_near", top 61, ((["draws", "program_so"] : List String).map Str.ofString), ((["draws", "program_so", "names", "steps", "path", "one", "known", "way", "twins"] : List String).map Str.ofString), F.f__law_near, false⟩
def g__law_looks : GD := ⟨"_law_looks", top 62, ((["program_so"] : List String).map Str.ofString), ((["program_so", "path", "one"] : List String).map Str.ofString), F.f__law_looks, false⟩
def g__law_quieted : GD := ⟨"_law_quieted", top 63, ((["program_so", "choice"] : List String).map Str.ofString), ((["program_so", "choice", "steps", "path", "one", "word"] : List String).map Str.ofString), F.f__law_quieted, false⟩
def g_law : GD := ⟨"law", top 66, ((["script"] : List String).map Str.ofString), ((["script", "k", "draws", "first", "program", "known", "path", "some", "bads", "one", "others", "bad"] : List String).map Str.ofString), F.f_law_k09, true⟩
def pres0 : List Str := (((["is_from", "is_tuple", "is_name", "ascends", "is_key", "is_plain", "is_body", "is_statement", "are_steps", "blocks", "listed", "is_program", "check_program", "same_kind", "exchanged", "found_at", "looks_of", "quieted_by", "check_choice", "quieted", "_law_draws", "_law_draw", "_law_of", "_law_names", "_law_body", "_law_plain_one", "_law_block", "_law_program", "_law_blocks", "_law_listed"] : List String).map Str.ofString) ++ ((["_law_put", "_law_near", "_law_looks", "_law_quieted", "law"] : List String).map Str.ofString))
def defs : List GD := (([g_is_from, g_is_tuple, g_is_name, g_ascends, g_is_key, g_is_plain, g_is_body, g_is_statement, g_are_steps, g_blocks, g_listed, g_is_program, g_check_program, g_same_kind, g_exchanged, g_found_at, g_looks_of, g_quieted_by, g_check_choice, g_quieted, g__law_draws, g__law_draw, g__law_of, g__law_names, g__law_body] : List GD) ++ ([g__law_plain_one, g__law_block, g__law_program, g__law_blocks, g__law_listed, g__law_put, g__law_near, g__law_looks, g__law_quieted, g_law] : List GD))
def consts : List (Str × GC) := (([("LETTERS", .str "abcdefghijklmnopqrstuvwxyz"), ("TAKEN", .tup ((["alone", "apart", "it"] : List String).map Str.ofString)), ("QUIET", .kd [("look", "peek"), ("tell", "get"), ("zero", "nil")]), ("BRANCHED", .tup ((["zero", "nil", "has"] : List String).map Str.ofString)), ("PLAIN", .tup ((["look", "peek", "tell", "get", "drop"] : List String).map Str.ofString)), ("ALONE", .tup ((["copy", "count", "keys"] : List String).map Str.ofString)), ("IN_BODY", .tup ((["look", "peek", "tell", "get", "count", "keys"] : List String).map Str.ofString)), ("MOST_STATEMENTS", .int 14), ("MOST_DEEP", .int 4)] : List (Str × GC)))
def excs : List Str := ((["InvalidChoice", "InvalidProgram"] : List String).map Str.ofString)
def ks : List KS := [.kind false ((["Broken", "InvalidChoice", "InvalidFacts"] : List String).map Str.ofString), .kind true ((["InvalidKey", "InvalidPath", "InvalidProgram"] : List String).map Str.ofString), .kind true ((["InvalidRow", "InvalidTable", "InvalidValue"] : List String).map Str.ofString), .kind true ((["InvalidWay", "InvalidWorld", "Lacking"] : List String).map Str.ofString), .kind true ((["NoText", "NothingToUndo", "TooMany", "Unlike"] : List String).map Str.ofString), .app "ValueError", .word false ((["Broken", "InvalidChoice", "InvalidFacts", "InvalidKey", "InvalidPath", "InvalidProgram"] : List String).map Str.ofString), .word true ((["InvalidRow", "InvalidTable", "InvalidValue", "InvalidWay", "InvalidWorld", "Lacking"] : List String).map Str.ofString), .word true ((["NoText", "NothingToUndo", "TooMany", "Unlike", "+"] : List String).map Str.ofString)]
def g_told : GD := ⟨"_law_told", top 65, [("call_so" : Str)], tNames, ⟨0, 0, .nil⟩, false⟩
def g_kinds : GD := ⟨"_law_kinds", top 64, [("e" : Str)], kNames, ⟨0, 0, .nil⟩, false⟩
def R : GRow := ⟨defs, consts, excs, some (g_told, g_kinds, ks), 60⟩
theorem T_is_from : R.T "is_from" = some F.f_is_from := by kernel_rfl
theorem T_is_tuple : R.T "is_tuple" = some F.f_is_tuple := by kernel_rfl
theorem T_is_name : R.T "is_name" = some F.f_is_name := by kernel_rfl
theorem T_ascends : R.T "ascends" = some F.f_ascends := by kernel_rfl
theorem T_is_key : R.T "is_key" = some F.f_is_key := by kernel_rfl
theorem T_is_plain : R.T "is_plain" = some F.f_is_plain := by kernel_rfl
theorem T_is_body : R.T "is_body" = some F.f_is_body := by kernel_rfl
theorem T_is_statement : R.T "is_statement" = some F.f_is_statement := by kernel_rfl
theorem T_are_steps : R.T "are_steps" = some F.f_are_steps := by kernel_rfl
theorem T_blocks : R.T "blocks" = some F.f_blocks := by kernel_rfl
theorem T_listed : R.T "listed" = some F.f_listed := by kernel_rfl
theorem T_is_program : R.T "is_program" = some F.f_is_program := by kernel_rfl
theorem T_check_program : R.T "check_program" = some F.f_check_program := by kernel_rfl
theorem T_same_kind : R.T "same_kind" = some F.f_same_kind := by kernel_rfl
theorem T_exchanged : R.T "exchanged" = some F.f_exchanged := by kernel_rfl
theorem T_found_at : R.T "found_at" = some F.f_found_at := by kernel_rfl
theorem T_looks_of : R.T "looks_of" = some F.f_looks_of := by kernel_rfl
theorem T_quieted_by : R.T "quieted_by" = some F.f_quieted_by := by kernel_rfl
theorem T_check_choice : R.T "check_choice" = some F.f_check_choice := by kernel_rfl
theorem T_quieted : R.T "quieted" = some F.f_quieted := by kernel_rfl
theorem T__law_draws : R.T "_law_draws" = some F.f__law_draws := by kernel_rfl
theorem T__law_draw : R.T "_law_draw" = some F.f__law_draw := by kernel_rfl
theorem T__law_of : R.T "_law_of" = some F.f__law_of := by kernel_rfl
theorem T__law_names : R.T "_law_names" = some F.f__law_names := by kernel_rfl
theorem T__law_body : R.T "_law_body" = some F.f__law_body := by kernel_rfl
theorem T__law_plain_one : R.T "_law_plain_one" = some F.f__law_plain_one := by kernel_rfl
theorem T__law_block : R.T "_law_block" = some F.f__law_block := by kernel_rfl
theorem T__law_program : R.T "_law_program" = some F.f__law_program := by kernel_rfl
theorem T__law_blocks : R.T "_law_blocks" = some F.f__law_blocks := by kernel_rfl
theorem T__law_listed : R.T "_law_listed" = some F.f__law_listed := by kernel_rfl
theorem T__law_put : R.T "_law_put" = some F.f__law_put := by kernel_rfl
theorem T__law_near : R.T "_law_near" = some F.f__law_near := by kernel_rfl
theorem T__law_looks : R.T "_law_looks" = some F.f__law_looks := by kernel_rfl
theorem T__law_quieted : R.T "_law_quieted" = some F.f__law_quieted := by kernel_rfl
theorem T_law : R.T "law" = some F.f_law_k09 := by kernel_rfl
end K09
set_option maxHeartbeats 4000000
namespace K09
open PySem L2 G
theorem hProg : HasProg R.T R.Γ := ⟨T_is_from, T_is_tuple, T_is_name, T_ascends, T_is_key, T_is_plain, T_is_body, T_is_statement, T_are_steps, T_blocks, T_listed, T_is_program, T_check_program, by kernel_rfl, by kernel_rfl, by kernel_rfl, by kernel_rfl, by kernel_rfl, by kernel_rfl, by kernel_rfl, by kernel_rfl⟩
theorem hLaw : HasLaw R.T := ⟨T__law_blocks, T__law_listed⟩
theorem hPut : HasPut R.T := ⟨hLaw, T__law_put⟩
theorem hGen : HasGen R.T := ⟨⟨T__law_draws, T__law_draw, T__law_of⟩, T__law_names, T__law_body, T__law_plain_one, T__law_block, T__law_program⟩
theorem hNear : HasNear R.T := ⟨hPut, hGen, T__law_near⟩
theorem hChoice : HasChoice R.T R.Γ R.exc := ⟨⟨hProg, hPut, T_same_kind, T_exchanged, T_found_at, T_looks_of, T_quieted_by, T__law_looks, T__law_quieted, by kernel_rfl⟩, T_check_choice, T_quieted⟩
theorem main (ns : List Int) (h : ns.length ≤ 63) : G.Phi R.T R.Γ R.exc R.k "law" [.val (G.scrD ns)] = .ok (.val (.bool true), []) :=
  k09_law ⟨hNear, hChoice, T_law, by kernel_rfl, by kernel_rfl⟩ ns h
end K09
set_option maxHeartbeats 4000000
namespace K09
open PySem L2 G
theorem ok_is_from : GDok R.pres R.exc g_is_from := ⟨⟨rfl, rfl, rfl, by decide +kernel, rfl, by decide +kernel, by decide +kernel⟩, rfl, rfl, fun _ _ _ _ _ _ us hl => match us, hl with | [_, _, _], _ => rfl, fun tb => by kernel_rfl⟩
theorem ok_is_tuple : GDok R.pres R.exc g_is_tuple := ⟨⟨rfl, rfl, rfl, by decide +kernel, rfl, by decide +kernel, by decide +kernel⟩, rfl, rfl, fun _ _ _ _ _ _ us hl => match us, hl with | [_, _, _], _ => rfl, fun tb => by kernel_rfl⟩
theorem ok_is_name : GDok R.pres R.exc g_is_name := ⟨⟨rfl, rfl, rfl, by decide +kernel, rfl, by decide +kernel, by decide +kernel⟩, rfl, rfl, fun _ _ _ _ _ _ us hl => match us, hl with | [_], _ => rfl, fun tb => by kernel_rfl⟩
theorem ok_ascends : GDok R.pres R.exc g_ascends := ⟨⟨rfl, rfl, rfl, by decide +kernel, rfl, by decide +kernel, by decide +kernel⟩, rfl, rfl, fun _ _ _ _ _ _ us hl => match us, hl with | [_], _ => rfl, fun tb => by kernel_rfl⟩
theorem ok_is_key : GDok R.pres R.exc g_is_key := ⟨⟨rfl, rfl, rfl, by decide +kernel, rfl, by decide +kernel, by decide +kernel⟩, rfl, rfl, fun _ _ _ _ _ _ us hl => match us, hl with | [_, _], _ => rfl, fun tb => by kernel_rfl⟩
theorem ok_is_plain : GDok R.pres R.exc g_is_plain := ⟨⟨rfl, rfl, rfl, by decide +kernel, rfl, by decide +kernel, by decide +kernel⟩, rfl, rfl, fun _ _ _ _ _ _ us hl => match us, hl with | [_, _], _ => rfl, fun tb => by kernel_rfl⟩
theorem ok_is_body : GDok R.pres R.exc g_is_body := ⟨⟨rfl, rfl, rfl, by decide +kernel, rfl, by decide +kernel, by decide +kernel⟩, rfl, rfl, fun _ _ _ _ _ _ us hl => match us, hl with | [_, _], _ => rfl, fun tb => by kernel_rfl⟩
theorem ok_is_statement : GDok R.pres R.exc g_is_statement := ⟨⟨rfl, rfl, rfl, by decide +kernel, rfl, by decide +kernel, by decide +kernel⟩, rfl, rfl, fun _ _ _ _ _ _ us hl => match us, hl with | [_, _, _], _ => rfl, fun tb => by kernel_rfl⟩
theorem ok_are_steps : GDok R.pres R.exc g_are_steps := ⟨⟨rfl, rfl, rfl, by decide +kernel, rfl, by decide +kernel, by decide +kernel⟩, rfl, rfl, fun _ _ _ _ _ _ us hl => match us, hl with | [_, _, _], _ => rfl, fun tb => by kernel_rfl⟩
theorem ok_blocks : GDok R.pres R.exc g_blocks := ⟨⟨rfl, rfl, rfl, by decide +kernel, rfl, by decide +kernel, by decide +kernel⟩, rfl, rfl, fun _ _ _ _ _ _ us hl => match us, hl with | [_], _ => rfl, fun tb => by kernel_rfl⟩
theorem ok_listed : GDok R.pres R.exc g_listed := ⟨⟨rfl, rfl, rfl, by decide +kernel, rfl, by decide +kernel, by decide +kernel⟩, rfl, rfl, fun _ _ _ _ _ _ us hl => match us, hl with | [_, _], _ => rfl, fun tb => by kernel_rfl⟩
theorem ok_is_program : GDok R.pres R.exc g_is_program := ⟨⟨rfl, rfl, rfl, by decide +kernel, rfl, by decide +kernel, by decide +kernel⟩, rfl, rfl, fun _ _ _ _ _ _ us hl => match us, hl with | [_], _ => rfl, fun tb => by kernel_rfl⟩
theorem ok_check_program : GDok R.pres R.exc g_check_program := ⟨⟨rfl, rfl, rfl, by decide +kernel, rfl, by decide +kernel, by decide +kernel⟩, rfl, rfl, fun _ _ _ _ _ _ us hl => match us, hl with | [_], _ => rfl, fun tb => by kernel_rfl⟩
theorem ok_same_kind : GDok R.pres R.exc g_same_kind := ⟨⟨rfl, rfl, rfl, by decide +kernel, rfl, by decide +kernel, by decide +kernel⟩, rfl, rfl, fun _ _ _ _ _ _ us hl => match us, hl with | [_, _], _ => rfl, fun tb => by kernel_rfl⟩
theorem ok_exchanged : GDok R.pres R.exc g_exchanged := ⟨⟨rfl, rfl, rfl, by decide +kernel, rfl, by decide +kernel, by decide +kernel⟩, rfl, rfl, fun _ _ _ _ _ _ us hl => match us, hl with | [_, _, _], _ => rfl, fun tb => by kernel_rfl⟩
theorem ok_found_at : GDok R.pres R.exc g_found_at := ⟨⟨rfl, rfl, rfl, by decide +kernel, rfl, by decide +kernel, by decide +kernel⟩, rfl, rfl, fun _ _ _ _ _ _ us hl => match us, hl with | [_, _], _ => rfl, fun tb => by kernel_rfl⟩
theorem ok_looks_of : GDok R.pres R.exc g_looks_of := ⟨⟨rfl, rfl, rfl, by decide +kernel, rfl, by decide +kernel, by decide +kernel⟩, rfl, rfl, fun _ _ _ _ _ _ us hl => match us, hl with | [_], _ => rfl, fun tb => by kernel_rfl⟩
theorem ok_quieted_by : GDok R.pres R.exc g_quieted_by := ⟨⟨rfl, rfl, rfl, by decide +kernel, rfl, by decide +kernel, by decide +kernel⟩, rfl, rfl, fun _ _ _ _ _ _ us hl => match us, hl with | [_, _], _ => rfl, fun tb => by kernel_rfl⟩
theorem ok_check_choice : GDok R.pres R.exc g_check_choice := ⟨⟨rfl, rfl, rfl, by decide +kernel, rfl, by decide +kernel, by decide +kernel⟩, rfl, rfl, fun _ _ _ _ _ _ us hl => match us, hl with | [_, _], _ => rfl, fun tb => by kernel_rfl⟩
theorem ok_quieted : GDok R.pres R.exc g_quieted := ⟨⟨rfl, rfl, rfl, by decide +kernel, rfl, by decide +kernel, by decide +kernel⟩, rfl, rfl, fun _ _ _ _ _ _ us hl => match us, hl with | [_, _], _ => rfl, fun tb => by kernel_rfl⟩
theorem ok__law_draws : GDok R.pres R.exc g__law_draws := ⟨⟨rfl, rfl, rfl, by decide +kernel, rfl, by decide +kernel, by decide +kernel⟩, rfl, rfl, fun _ _ _ _ _ _ us hl => match us, hl with | [_, _], _ => rfl, fun tb => by kernel_rfl⟩
theorem ok__law_draw : GDok R.pres R.exc g__law_draw := ⟨⟨rfl, rfl, rfl, by decide +kernel, rfl, by decide +kernel, by decide +kernel⟩, rfl, rfl, fun _ _ _ _ _ _ us hl => match us, hl with | [_, _], _ => rfl, fun tb => by kernel_rfl⟩
theorem ok__law_of : GDok R.pres R.exc g__law_of := ⟨⟨rfl, rfl, rfl, by decide +kernel, rfl, by decide +kernel, by decide +kernel⟩, rfl, rfl, fun _ _ _ _ _ _ us hl => match us, hl with | [_, _], _ => rfl, fun tb => by kernel_rfl⟩
theorem ok__law_names : GDok R.pres R.exc g__law_names := ⟨⟨rfl, rfl, rfl, by decide +kernel, rfl, by decide +kernel, by decide +kernel⟩, rfl, rfl, fun _ _ _ _ _ _ us hl => match us, hl with | [_, _], _ => rfl, fun tb => by kernel_rfl⟩
theorem ok__law_body : GDok R.pres R.exc g__law_body := ⟨⟨rfl, rfl, rfl, by decide +kernel, rfl, by decide +kernel, by decide +kernel⟩, rfl, rfl, fun _ _ _ _ _ _ us hl => match us, hl with | [_, _], _ => rfl, fun tb => by kernel_rfl⟩
theorem ok__law_plain_one : GDok R.pres R.exc g__law_plain_one := ⟨⟨rfl, rfl, rfl, by decide +kernel, rfl, by decide +kernel, by decide +kernel⟩, rfl, rfl, fun _ _ _ _ _ _ us hl => match us, hl with | [_, _], _ => rfl, fun tb => by kernel_rfl⟩
theorem ok__law_block : GDok R.pres R.exc g__law_block := ⟨⟨rfl, rfl, rfl, by decide +kernel, rfl, by decide +kernel, by decide +kernel⟩, rfl, rfl, fun _ _ _ _ _ _ us hl => match us, hl with | [_, _, _, _], _ => rfl, fun tb => by kernel_rfl⟩
theorem ok__law_program : GDok R.pres R.exc g__law_program := ⟨⟨rfl, rfl, rfl, by decide +kernel, rfl, by decide +kernel, by decide +kernel⟩, rfl, rfl, fun _ _ _ _ _ _ us hl => match us, hl with | [_, _], _ => rfl, fun tb => by kernel_rfl⟩
theorem ok__law_blocks : GDok R.pres R.exc g__law_blocks := ⟨⟨rfl, rfl, rfl, by decide +kernel, rfl, by decide +kernel, by decide +kernel⟩, rfl, rfl, fun _ _ _ _ _ _ us hl => match us, hl with | [_], _ => rfl, fun tb => by kernel_rfl⟩
theorem ok__law_listed : GDok R.pres R.exc g__law_listed := ⟨⟨rfl, rfl, rfl, by decide +kernel, rfl, by decide +kernel, by decide +kernel⟩, rfl, rfl, fun _ _ _ _ _ _ us hl => match us, hl with | [_, _], _ => rfl, fun tb => by kernel_rfl⟩
theorem ok__law_put : GDok R.pres R.exc g__law_put := ⟨⟨rfl, rfl, rfl, by decide +kernel, rfl, by decide +kernel, by decide +kernel⟩, rfl, rfl, fun _ _ _ _ _ _ us hl => match us, hl with | [_, _, _], _ => rfl, fun tb => by kernel_rfl⟩
theorem ok__law_near : GDok R.pres R.exc g__law_near := ⟨⟨rfl, rfl, rfl, by decide +kernel, rfl, by decide +kernel, by decide +kernel⟩, rfl, rfl, fun _ _ _ _ _ _ us hl => match us, hl with | [_, _], _ => rfl, fun tb => by kernel_rfl⟩
theorem ok__law_looks : GDok R.pres R.exc g__law_looks := ⟨⟨rfl, rfl, rfl, by decide +kernel, rfl, by decide +kernel, by decide +kernel⟩, rfl, rfl, fun _ _ _ _ _ _ us hl => match us, hl with | [_], _ => rfl, fun tb => by kernel_rfl⟩
theorem ok__law_quieted : GDok R.pres R.exc g__law_quieted := ⟨⟨rfl, rfl, rfl, by decide +kernel, rfl, by decide +kernel, by decide +kernel⟩, rfl, rfl, fun _ _ _ _ _ _ us hl => match us, hl with | [_, _], _ => rfl, fun tb => by kernel_rfl⟩
theorem ok_law : GDok R.pres R.exc g_law := ⟨⟨rfl, rfl, rfl, by decide +kernel, rfl, by decide +kernel, by decide +kernel⟩, rfl, rfl, fun _ _ _ _ _ _ us hl => match us, hl with | [_], _ => rfl, fun tb => by kernel_rfl⟩
theorem okD : ∀ g ∈ R.defs, GDok R.pres R.exc g := by
  intro g hg
  have hg : g ∈ (([g_is_from, g_is_tuple, g_is_name, g_ascends, g_is_key, g_is_plain, g_is_body, g_is_statement, g_are_steps, g_blocks, g_listed, g_is_program, g_check_program, g_same_kind, g_exchanged, g_found_at, g_looks_of, g_quieted_by, g_check_choice, g_quieted, g__law_draws, g__law_draw, g__law_of, g__law_names, g__law_body] : List GD) ++ ([g__law_plain_one, g__law_block, g__law_program, g__law_blocks, g__law_listed, g__law_put, g__law_near, g__law_looks, g__law_quieted, g_law] : List GD)) := hg
  simp only [List.mem_append, List.mem_cons, List.not_mem_nil, or_false] at hg
  rcases hg with ((rfl | rfl | rfl | rfl | rfl | rfl | rfl | rfl | rfl | rfl | rfl | rfl | rfl | rfl | rfl | rfl | rfl | rfl | rfl | rfl | rfl | rfl | rfl | rfl | rfl) | (rfl | rfl | rfl | rfl | rfl | rfl | rfl | rfl | rfl | rfl))
  · exact ok_is_from
  · exact ok_is_tuple
  · exact ok_is_name
  · exact ok_ascends
  · exact ok_is_key
  · exact ok_is_plain
  · exact ok_is_body
  · exact ok_is_statement
  · exact ok_are_steps
  · exact ok_blocks
  · exact ok_listed
  · exact ok_is_program
  · exact ok_check_program
  · exact ok_same_kind
  · exact ok_exchanged
  · exact ok_found_at
  · exact ok_looks_of
  · exact ok_quieted_by
  · exact ok_check_choice
  · exact ok_quieted
  · exact ok__law_draws
  · exact ok__law_draw
  · exact ok__law_of
  · exact ok__law_names
  · exact ok__law_body
  · exact ok__law_plain_one
  · exact ok__law_block
  · exact ok__law_program
  · exact ok__law_blocks
  · exact ok__law_listed
  · exact ok__law_put
  · exact ok__law_near
  · exact ok__law_looks
  · exact ok__law_quieted
  · exact ok_law
theorem okU : ∀ g ∈ R.defs, R.T g.x = some g.f := by
  intro g hg
  have hg : g ∈ (([g_is_from, g_is_tuple, g_is_name, g_ascends, g_is_key, g_is_plain, g_is_body, g_is_statement, g_are_steps, g_blocks, g_listed, g_is_program, g_check_program, g_same_kind, g_exchanged, g_found_at, g_looks_of, g_quieted_by, g_check_choice, g_quieted, g__law_draws, g__law_draw, g__law_of, g__law_names, g__law_body] : List GD) ++ ([g__law_plain_one, g__law_block, g__law_program, g__law_blocks, g__law_listed, g__law_put, g__law_near, g__law_looks, g__law_quieted, g_law] : List GD)) := hg
  simp only [List.mem_append, List.mem_cons, List.not_mem_nil, or_false] at hg
  rcases hg with ((rfl | rfl | rfl | rfl | rfl | rfl | rfl | rfl | rfl | rfl | rfl | rfl | rfl | rfl | rfl | rfl | rfl | rfl | rfl | rfl | rfl | rfl | rfl | rfl | rfl) | (rfl | rfl | rfl | rfl | rfl | rfl | rfl | rfl | rfl | rfl))
  · exact T_is_from
  · exact T_is_tuple
  · exact T_is_name
  · exact T_ascends
  · exact T_is_key
  · exact T_is_plain
  · exact T_is_body
  · exact T_is_statement
  · exact T_are_steps
  · exact T_blocks
  · exact T_listed
  · exact T_is_program
  · exact T_check_program
  · exact T_same_kind
  · exact T_exchanged
  · exact T_found_at
  · exact T_looks_of
  · exact T_quieted_by
  · exact T_check_choice
  · exact T_quieted
  · exact T__law_draws
  · exact T__law_draw
  · exact T__law_of
  · exact T__law_names
  · exact T__law_body
  · exact T__law_plain_one
  · exact T__law_block
  · exact T__law_program
  · exact T__law_blocks
  · exact T__law_listed
  · exact T__law_put
  · exact T__law_near
  · exact T__law_looks
  · exact T__law_quieted
  · exact T_law
theorem okT : ∀ g ∈ R.defs, g.told = true → g.x = "law" := by
  intro g hg
  have hg : g ∈ (([g_is_from, g_is_tuple, g_is_name, g_ascends, g_is_key, g_is_plain, g_is_body, g_is_statement, g_are_steps, g_blocks, g_listed, g_is_program, g_check_program, g_same_kind, g_exchanged, g_found_at, g_looks_of, g_quieted_by, g_check_choice, g_quieted, g__law_draws, g__law_draw, g__law_of, g__law_names, g__law_body] : List GD) ++ ([g__law_plain_one, g__law_block, g__law_program, g__law_blocks, g__law_listed, g__law_put, g__law_near, g__law_looks, g__law_quieted, g_law] : List GD)) := hg
  simp only [List.mem_append, List.mem_cons, List.not_mem_nil, or_false] at hg
  rcases hg with ((rfl | rfl | rfl | rfl | rfl | rfl | rfl | rfl | rfl | rfl | rfl | rfl | rfl | rfl | rfl | rfl | rfl | rfl | rfl | rfl | rfl | rfl | rfl | rfl | rfl) | (rfl | rfl | rfl | rfl | rfl | rfl | rfl | rfl | rfl | rfl))
  · exact fun z => nomatch (show false = true from z)
  · exact fun z => nomatch (show false = true from z)
  · exact fun z => nomatch (show false = true from z)
  · exact fun z => nomatch (show false = true from z)
  · exact fun z => nomatch (show false = true from z)
  · exact fun z => nomatch (show false = true from z)
  · exact fun z => nomatch (show false = true from z)
  · exact fun z => nomatch (show false = true from z)
  · exact fun z => nomatch (show false = true from z)
  · exact fun z => nomatch (show false = true from z)
  · exact fun z => nomatch (show false = true from z)
  · exact fun z => nomatch (show false = true from z)
  · exact fun z => nomatch (show false = true from z)
  · exact fun z => nomatch (show false = true from z)
  · exact fun z => nomatch (show false = true from z)
  · exact fun z => nomatch (show false = true from z)
  · exact fun z => nomatch (show false = true from z)
  · exact fun z => nomatch (show false = true from z)
  · exact fun z => nomatch (show false = true from z)
  · exact fun z => nomatch (show false = true from z)
  · exact fun z => nomatch (show false = true from z)
  · exact fun z => nomatch (show false = true from z)
  · exact fun z => nomatch (show false = true from z)
  · exact fun z => nomatch (show false = true from z)
  · exact fun z => nomatch (show false = true from z)
  · exact fun z => nomatch (show false = true from z)
  · exact fun z => nomatch (show false = true from z)
  · exact fun z => nomatch (show false = true from z)
  · exact fun z => nomatch (show false = true from z)
  · exact fun z => nomatch (show false = true from z)
  · exact fun z => nomatch (show false = true from z)
  · exact fun z => nomatch (show false = true from z)
  · exact fun z => nomatch (show false = true from z)
  · exact fun z => nomatch (show false = true from z)
  · exact fun _ => rfl
theorem okTell : R.Ok := ⟨okD, okU, ⟨rfl, rfl, ⟨rfl, rfl, rfl, by decide +kernel, rfl, by decide +kernel, by decide +kernel⟩, by decide +kernel, fun _ _ _ _ _ _ us hl => match us, hl with | [_], _ => rfl, rfl, ⟨rfl, rfl, rfl, by decide +kernel, rfl, by decide +kernel, by decide +kernel⟩, by decide +kernel, by decide +kernel, fun _ _ _ _ _ _ us hl => match us, hl with | [_], _ => rfl, by decide +kernel, by decide +kernel⟩, okT, by decide⟩
theorem law_mem : g_law ∈ R.defs := by
  show g_law ∈ (([g_is_from, g_is_tuple, g_is_name, g_ascends, g_is_key, g_is_plain, g_is_body, g_is_statement, g_are_steps, g_blocks, g_listed, g_is_program, g_check_program, g_same_kind, g_exchanged, g_found_at, g_looks_of, g_quieted_by, g_check_choice, g_quieted, g__law_draws, g__law_draw, g__law_of, g__law_names, g__law_body] : List GD) ++ ([g__law_plain_one, g__law_block, g__law_program, g__law_blocks, g__law_listed, g__law_put, g__law_near, g__law_looks, g__law_quieted, g_law] : List GD))
  simp only [List.mem_append, List.mem_cons, true_or, or_true]
end K09
set_option maxHeartbeats 0
namespace K09
open PySem L2 G
abbrev RW : PySem.W.OpenRow := PySem.W.OpenLaw.row PySem.Challenge.rw_lookmakes_k09_looks_quieted
def loose : List Str := (((["MakeError", "InvalidProgram", "InvalidWorld", "InvalidFacts", "InvalidWay", "InvalidPath", "InvalidChoice", "InvalidRow", "InvalidTable", "InvalidKey", "InvalidValue", "Lacking", "Broken", "NoText", "Unlike", "NothingToUndo", "TooMany", "LETTERS", "TAKEN", "QUIET", "BRANCHED", "PLAIN", "ALONE", "IN_BODY", "MOST_STATEMENTS", "MOST_DEEP", "is_from", "is_tuple", "is_name", "ascends"] : List String).map Str.ofString) ++ ((["is_key", "is_plain", "is_body", "is_statement", "are_steps", "blocks", "listed", "is_program", "check_program", "same_kind", "exchanged", "found_at", "looks_of", "quieted_by", "check_choice", "quieted", "_law_draws", "_law_draw", "_law_of", "_law_names", "_law_body", "_law_plain_one", "_law_block", "_law_program", "_law_blocks", "_law_listed", "_law_put", "_law_near", "_law_looks", "_law_quieted"] : List String).map Str.ofString) ++ ((["_law_kinds", "_law_told"] : List String).map Str.ofString))
def ob (s : PySem.W.SharedT) : He.AlX := He.obsX 6 R.fa R.fn R.ts R.tf R.ex (HandSHeadRun.getT s)
theorem ob_eq (s : PySem.W.SharedT) : ob s = (R.hook 6).obs s.abs := He.obsX_eq (HandSHeadRun.getT_eq s)
theorem run_false (w : World) : HandSHeadRun.RunEq RW (PySem.W.view RW.prog [66]) (R.hook 6) ob 20000 loose (w.withFollow "special-get-raises" false) := by
  intro os
  kernel_rfl
theorem run_true (w : World) : HandSHeadRun.RunEq RW (PySem.W.view RW.prog [66]) (R.hook 6) ob 20000 loose (w.withFollow "special-get-raises" true) := by
  intro os
  kernel_rfl
theorem run (w : World) : HandSHeadRun.RunEq RW (PySem.W.view RW.prog [66]) (R.hook 6) ob 20000 loose w := PySem.W.byRow2 "special-get-raises" (P := fun w => HandSHeadRun.RunEq RW (PySem.W.view RW.prog [66]) (R.hook 6) ob 20000 loose w) run_false run_true w
end K09
set_option maxHeartbeats 0
open PySem PySem.W PySem.Calls PyProof.Rows
theorem PySem.Challenge.cw_lookmakes_k09_looks_quieted_holds : PySem.Challenge.rw_lookmakes_k09_looks_quieted.Holds := by
  w_on; o_law
  refine HandSHeadRun.head_any (r := OpenLaw.row PySem.Challenge.rw_lookmakes_k09_looks_quieted) (q := view (OpenLaw.row PySem.Challenge.rw_lookmakes_k09_looks_quieted).prog [66]) (H := K09.R.hook 6) (ob := K09.ob) (M := 20000) (loose := K09.loose) (d := HandSHeadRun.topDef (OpenLaw.row PySem.Challenge.rw_lookmakes_k09_looks_quieted).prog 66) (kwd := []) K09.ob_eq
    (by kernel_rfl) (fun s => by kernel_rfl) K09.run (by kernel_rfl) (by kernel_rfl) (by kernel_rfl) (by rfl) (by first | assumption | decide +kernel) (by decide +kernel) ⟨rfl, rfl, rfl, rfl, rfl, by decide +kernel⟩ ?hw ?hc
  case hw => w_witness2
  case hc =>
    refine LamX.walk_ofTsE (l := PySem.Challenge.rw_lookmakes_k09_looks_quieted) (n := 63) (k := K09.R.k) (x := "script") (CX := fun w => L2N.CX (PySem.Challenge.rw_lookmakes_k09_looks_quieted).prog w) rfl (by decide) (by kernel_rfl) ⟨rfl, by decide, by decide⟩ ?F (fun w H s e s' z => ?_)
    · intro w mg fa h Y GG hmg0
      obtain ⟨K, KX, c⟩ := Y
      have hmg : mg ("law" : PySem.Str) = some (.ref fa) := by
        have e : (HandSHeadRun.topDef (OpenLaw.row PySem.Challenge.rw_lookmakes_k09_looks_quieted).prog 66).name = ("law" : PySem.Str) := by kernel_rfl
        rw [← e]
        exact hmg0
      exact ⟨K, KX, G.GRow.lawAt K09.okTell KX GG c K09.law_mem rfl rfl hmg K09.main ⟨fun _ => rfl, fun _ => rfl⟩⟩
    · obtain ⟨_, _, _, _, _, _, _, _, _, _, _, _, z⟩ := z
      exact z
