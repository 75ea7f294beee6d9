import PyProof.Rows.All
import Wide.All
import OpenK.AllK
import Wide.FinOn
import HandS.ForMost
import HandS.Defaults
import HandS.DictComp
import HandS.TupAny
import HandS.TupMul
import HandS.Wide
import KE.SortData
import HandS.Lambda
import HandS.Style
import PyProof.Rows.IntBool
import HandS.Deep
import HandS.IsInst
import KE.KSortKey
import HandS.ExcOwn
import HandS.Set
import HandS.SetKeys
import PyProof.SetScanFacts
import PyProof.Rows.SetFrom
import PyProof.ListNew
import PyProof.SetNew
import PyProof.InstFacts
import PyProof.TupleOfSeq
import PyProof.Transfer
import PyProof.WalksMore
import KE.DataMinMax
import PyProof.Rows.RowBridgeK
import KE.GoesNew
import KE.GoesMore
import HandS.Walk
import HandS.Zip
import KE.GoesZip
import KE.KDictZip
import PyProof.Rows.CallKwBuiltin
import HandS.SetBool
import KE.KRevSl
import HandS.Conv
import HandS.RaiseMore
import HandS.More
import HandS.HeadEnd
import HandS.HeadHook1
import HandS.HeadHook2
import HandS.HeadHook4
import KE.KStateDown
import HandS.Head0
import HandS.Head1
import HandS.Head2
import HandS.HeadWalk
import PySem.Challenge.RW_roomsday_k11_cases_called_off
set_option Elab.async false
set_option linter.all false
set_option maxRecDepth 100000
set_option maxHeartbeats 4000000
namespace RD
open PySem
abbrev Key := L2.Key
abbrev lim : Nat := 16000000
def dedup {β : Type} [DecidableEq β] (l : List β) : List β := l.foldl (fun acc x => if (acc.any fun j => decide (j = x)) = true then acc else acc ++ [x]) []
def leI (a b : Int) : Bool := decide (a ≤ b)
def leS (a b : Str) : Bool := decide (a.cps.toList ≤ b.cps.toList)
end RD

/-! RD: a small language, read off the text of a def by a checker, and what its terms are worth, over plain data. -/
namespace RD
open PySem

/-! ### values -/
inductive T where
  | non | bl (b : Bool) | int (i : Int) | str (x : Str)
  | tup (l : List T) | lst (l : List T)
  | dct (l : List (Key × T)) | set (l : List Key)
  | scr (l : List Int)
  | ref (n : Nat)
  deriving Inhabited
inductive Cell where
  | lst (l : List T) | dct (l : List (Key × T)) | ins (c : Str) (fs : List (Str × T))
  | tbl (P : Nat) (q : Str)
  deriving Inhabited
abbrev Store := List Cell
structure Xc where
  cls : Str
  fld : Option T
inductive Res (α : Type) where
  | ok (a : α) (S : Store)
  | exc (x : Xc) (S : Store)
abbrev M (α : Type) := Store → Option (Res α)
def ret {α : Type} (a : α) : M α := fun S => some (.ok a S)
def fail {α : Type} : M α := fun _ => none
def bnd {α β : Type} (m : M α) (f : α → M β) : M β := fun S => match m S with
  | some (.ok a S') => f a S'
  | some (.exc x S') => some (.exc x S')
  | none => none
/-- a value that hangs on the store alone, which stays -/
def look {α : Type} (f : Store → Option α) : M α := fun S => match f S with
  | some a => some (.ok a S)
  | none => none
def opt {α : Type} (o : Option α) : M α := fun S => match o with
  | some a => some (.ok a S)
  | none => none
theorem bnd_ok {α β : Type} {m : M α} {f : α → M β} {S S' : Store} {a : α} (h : m S = some (.ok a S')) : bnd m f S = f a S' := by unfold bnd; rw [h]
theorem bnd_inv {α β : Type} {m : M α} {f : α → M β} {S S' : Store} {b : β} (h : bnd m f S = some (.ok b S')) : ∃ a S1, m S = some (.ok a S1) ∧ f a S1 = some (.ok b S') := by
  unfold bnd at h
  split at h
  · exact ⟨_, _, by assumption, h⟩
  · cases h
  · cases h
theorem opt_inv {α : Type} {o : Option α} {S S' : Store} {a : α} (h : opt o S = some (.ok a S')) : o = some a ∧ S' = S := by
  unfold opt at h
  split at h
  · cases h; exact ⟨rfl, rfl⟩
  · cases h
theorem look_inv {α : Type} {f : Store → Option α} {S S' : Store} {a : α} (h : look f S = some (.ok a S')) : f S = some a ∧ S' = S := by
  unfold look at h
  split at h
  · cases h; exact ⟨by assumption, rfl⟩
  · cases h
theorem ret_inv {α : Type} {S S' : Store} {a b : α} (h : ret b S = some (.ok a S')) : b = a ∧ S' = S := by
  unfold ret at h; cases h; exact ⟨rfl, rfl⟩
theorem fail_inv {α : Type} {S S' : Store} {a : α} (h : fail S = some (.ok a S')) : False := by
  unfold fail at h; cases h

mutual
def T.toD : T → Option PyData
  | .non => some .none
  | .bl b => some (.bool b)
  | .int i => some (.int i)
  | .str x => some (.str x)
  | .tup l => (T.toDs l).map .tuple
  | .lst l => (T.toDs l).map .list
  | .dct _ => none
  | .set _ => none
  | .scr _ => none
  | .ref _ => none
def T.toDs : List T → Option (List PyData)
  | [] => some []
  | t :: ts => match T.toD t, T.toDs ts with
    | some d, some ds => some (d :: ds)
    | _, _ => none
end
/-- data at any depth, as == reads it -/
def shp (t : T) : Option PyData := match t.toD with
  | some d => if SeqAt.shaped d = true then some d else none
  | none => none
def eqT (a b : T) : Option Bool := match shp a, shp b with
  | some d, some e => some (PyData.eqv d e)
  | _, _ => none
/-- what a cell holds, as a value -/
def view (S : Store) : T → Option T
  | .ref n => match S[n]? with
    | some (.lst l) => some (.lst l)
    | some (.dct l) => some (.dct l)
    | _ => none
  | t => some t
def keyT : T → Option Key
  | .int i => some (.inl i)
  | .str x => some (.inr x)
  | _ => none
def valT (kvs : List (Key × T)) (k : Key) : Option T := (kvs.find? fun kv => decide (kv.1 = k)).map (·.2)
def putT (kvs : List (Key × T)) (k : Key) (v : T) : List (Key × T) :=
  if (kvs.any fun kv => decide (kv.1 = k)) = true then kvs.map fun kv => if kv.1 = k then (kv.1, v) else kv else kvs ++ [(k, v)]
def keyV : Key → T
  | .inl i => .int i
  | .inr x => .str x
def intsT : List T → Option (List Int)
  | [] => some []
  | .int i :: ts => (intsT ts).map (i :: ·)
  | _ :: _ => none
def blsT : List T → Option (List Bool)
  | [] => some []
  | .bl b :: ts => (blsT ts).map (b :: ·)
  | _ :: _ => none
def strsT : List T → Option (List Str)
  | [] => some []
  | .str x :: ts => (strsT ts).map (x :: ·)
  | _ :: _ => none
def keysT : List T → Option (List Key)
  | [] => some []
  | t :: ts => match keyT t, keysT ts with
    | some k, some ks => some (k :: ks)
    | _, _ => none

/-! ### operators -/
inductive Bop where
  | add | sub | mul | fdiv | mod | pow
inductive Cop where
  | eq | ne | lt | le | gt | ge | isin | notin | isb | isnb
/-- factors of a product of great ints: together below a million bits -/
def wideB (i j : Int) : Bool := (decide (-(2 ^ 64) < i ∧ i < 2 ^ 64)) || (decide (-(2 ^ 64) < j ∧ j < 2 ^ 64))
def opr : Bop → T → T → Option T
  | .add, .int i, .int j => some (.int (i + j))
  | .add, .str x, .str y => if x.length + y.length ≤ lim then some (.str (x ++ y)) else none
  | .add, .tup l, .tup r => if l.length + r.length ≤ lim then some (.tup (l ++ r)) else none
  | .add, .lst l, .lst r => if l.length + r.length ≤ lim then some (.lst (l ++ r)) else none
  | .sub, .int i, .int j => some (.int (i - j))
  | .mul, .int i, .int j => if wideB i j = true then some (.int (i * j)) else none
  | .mul, .lst l, .int k => if 0 ≤ k ∧ k < 1000000 ∧ l.length * k.toNat ≤ lim then some (.lst (List.replicate k.toNat l).flatten) else none
  | .fdiv, .int i, .int j => if 0 < j ∧ j < 2 ^ 200 then some (.int (i / j)) else none
  | .mod, .int i, .int j => if 0 < j then some (.int (i % j)) else none
  | .pow, .int i, .int j => if 0 ≤ j ∧ j ≤ 1000 ∧ i.natAbs < 2 ^ 64 then some (.int (i ^ j.toNat)) else none
  | .add, .bl b, .int j => some (.int ((if b = true then 1 else 0) + j))
  | .sub, .bl b, .int j => some (.int ((if b = true then 1 else 0) - j))
  | _, _, _ => none
/-- an order of data of one kind -/
def ltT (a b : T) : Option Bool := match a, b with
  | .int i, .int j => some (decide (i < j))
  | .str x, .str y => some (decide (x.cps.toList < y.cps.toList))
  | .tup l, .tup r => match shp (.tup l), shp (.tup r) with
    | some d, some e => if W.alike d e = true then some (W.dataLt d e) else none
    | _, _ => none
  | _, _ => none
def leT (a b : T) : Option Bool := match a, b with
  | .int i, .int j => some (decide (i ≤ j))
  | _, _ => none
def inT (a b : T) : Option Bool := match b with
  | .str y => match a with
    | .str x => some (!(Builtin.Str.occurrences y x 0 y.length 1).isEmpty)
    | _ => none
  | .dct kvs => (keyT a).map fun k => (valT kvs k).isSome
  | .tup l => match shp a, shp (.tup l) with
    | some d, some (.tuple ds) => some (ds.any fun z => PyData.eqv z d)
    | _, _ => none
  | .lst l => match shp a, shp (.lst l) with
    | some d, some (.list ds) => some (ds.any fun z => PyData.eqv z d)
    | _, _ => none
  | _ => none
def cmpT : Cop → T → T → Option Bool
  | .eq, a, b => eqT a b
  | .ne, a, b => (eqT a b).map (!·)
  | .lt, a, b => ltT a b
  | .le, a, b => leT a b
  | .gt, a, b => match a, b with
    | .int i, .int j => some (decide (j < i))
    | _, _ => none
  | .ge, a, b => match a, b with
    | .int i, .int j => some (decide (j ≤ i))
    | _, _ => none
  | .isin, a, b => inT a b
  | .notin, a, b => (inT a b).map (!·)
  | .isb, a, b => match a, b with
    | .bl x, .bl y => some (decide (x = y))
    | _, _ => none
  | .isnb, a, b => match a, b with
    | .bl x, .bl y => some (!decide (x = y))
    | _, _ => none
def idxT (o i : T) : Option T := match o, i with
  | .tup l, .int i => L2.atI l i
  | .lst l, .int i => L2.atI l i
  | .str z, .int i => if z.length ≤ lim then (L2.atI z.cps.toList i).map fun c => .str ⟨#[c]⟩ else none
  | .scr ns, .int i => (L2.atI ns i).map .int
  | .dct kvs, k => match keyT k with
    | some k => valT kvs k
    | none => none
  | _, _ => none
def cutT {α : Type} (xs : List α) (lo hi : Option Int) : List α := (xs.drop (HT.sIx xs.length 0 lo)).take (HT.sIx xs.length xs.length hi - HT.sIx xs.length 0 lo)
def sliceT (o : T) (lo hi : Option Int) : Option T := match o with
  | .tup l => some (.tup (cutT l lo hi))
  | .lst l => some (.lst (cutT l lo hi))
  | .str z => if z.length ≤ lim then some (.str (L2.cutS z lo hi)) else none
  | _ => none

/-! ### built-ins -/
inductive Ty where
  | int | bool | str | tuple | list
def Ty.nm : Ty → String
  | .int => "int" | .bool => "bool" | .str => "str" | .tuple => "tuple" | .list => "list"
def isaT (t : T) (y : Ty) : Option Bool := match t, y with
  | .non, _ => some false
  | .bl _, .int => some true
  | .bl _, .bool => some true
  | .bl _, _ => some false
  | .int _, .int => some true
  | .int _, _ => some false
  | .str _, .str => some true
  | .str _, _ => some false
  | .tup _, .tuple => some true
  | .tup _, _ => some false
  | .lst _, .list => some true
  | .lst _, _ => some false
  | _, _ => none
inductive Bt where
  | len | all | any | max | min | list | tuple | sorted | set | abs | int | dict
def maxI : List Int → Option Int
  | [] => none
  | i :: is => some (is.foldl (fun a b => if b > a then b else a) i)
def minI : List Int → Option Int
  | [] => none
  | i :: is => some (is.foldl (fun a b => if b < a then b else a) i)
def seqT : T → Option (List T)
  | .tup l => some l
  | .lst l => some l
  | _ => none
def lenT : T → Option Nat
  | .tup l => some l.length
  | .lst l => some l.length
  | .str x => if x.length ≤ lim then some x.length else none
  | .dct l => some l.length
  | .set l => some l.length
  | .scr l => some l.length
  | _ => none
def encT (t : T) : PyData := (t.toD).getD .none
def srtB (ds : List PyData) : Bool := (ds.all fun d => ds.all fun e => W.alike d e) && ((ds.all fun d => match d with
  | .tuple (_ :: _) => true
  | _ => false) || ds.all fun d => match d with
  | .none => false
  | .tuple _ => false
  | _ => true) && ds.all fun d => decide (d.depth ≤ 100)
def sortT (l : List T) : Option (List T) := match T.toDs l with
  | some ds => if srtB ds = true ∧ l.length ≤ lim then some (l.mergeSort (W.dataLe false encT)) else none
  | none => none
def pairsT : List T → Option (List (Key × T))
  | [] => some []
  | .tup [k, v] :: r => match keyT k, pairsT r with
    | some k, some r => some ((k, v) :: r)
    | _, _ => none
  | _ :: _ => none
def mergeT (acc : List (Key × T)) (more : List (Key × T)) : List (Key × T) := more.foldl (fun acc kv => putT acc kv.1 kv.2) acc
/-- sorted(set(..)), of ints or of texts -/
def ssetT (t : T) : Option (List T) := match seqT t with
  | some l => if l.length ≤ 1000 then (match intsT l with
    | some ns => some (((dedup ns).mergeSort leI).map .int)
    | none => match strsT l with
      | some zs => some (((dedup zs).mergeSort leS).map .str)
      | none => none) else none
  | none => none
/-- the least of data that are alike -/
def minF (t : T) (ts : List T) : T := ts.foldl (fun a y => if W.dataLt (encT y) (encT a) = true then y else a) t
def alikeB (ds : List PyData) : Bool := (ds.all fun d => ds.all fun e => W.alike d e) && decide (PyData.depthAll ds ≤ 100) && ds.all fun d => match d with
  | .none => false
  | _ => true
def minT : List T → Option T
  | [] => none
  | t :: ts => match T.toDs (t :: ts) with
    | some ds => if alikeB ds = true then some (minF t ts) else none
    | none => none
def btT : Bt → List T → Option T
  | .len, [t] => (lenT t).map fun n => .int (n : Int)
  | .all, [.lst l] => (blsT l).map fun bs => .bl (bs.all id)
  | .any, [.lst l] => (blsT l).map fun bs => .bl (bs.any id)
  | .max, [.lst l] => match intsT l with
    | some ns => (maxI ns).map .int
    | none => none
  | .max, [.int i, .int j] => some (.int (if j > i then j else i))
  | .min, [.int i, .int j] => some (.int (if j < i then j else i))
  | .list, [t] => (seqT t).map .lst
  | .tuple, [t] => (seqT t).map .tup
  | .abs, [.int i] => some (.int (if i < 0 then -i else i))
  | .int, [.bl b] => some (.int (if b = true then 1 else 0))
  | .int, [.int i] => some (.int i)
  | .sorted, [.lst l] => (sortT l).map .lst
  | .sorted, [.tup l] => (sortT l).map .lst
  | .dict, [.lst l] => (pairsT l).map fun kvs => .dct (mergeT [] kvs)
  | .dict, [.dct kvs] => some (.dct kvs)
  | .min, [.lst l] => minT l
  | .max, [.tup l] => match intsT l with
    | some ns => (maxI ns).map .int
    | none => none
  | _, _ => none
/-! ### further operations of one operand -/
inductive Xop where
  | lrng | rev | upper | strOf | lset | lsc | dzip | slen
/-- lists of tuples of texts -/
def rowsS : List T → Option (List (List Str))
  | [] => some []
  | .tup r :: l => match strsT r, rowsS l with
    | some b, some bs => some (b :: bs)
    | _, _ => none
  | _ :: _ => none
/-- (len(b), b) -/
def keyLL (b : List Str) : PyData := .tuple [.int (b.length : Int), .tuple (b.map .str)]
/-- how many things a list or tuple of ints and texts holds -/
def lsetT : T → Option T
  | .lst l => match keysT l with
    | some ks => if ks.length ≤ 1000 then some (.int (dedup ks).length) else none
    | none => none
  | .tup l => match keysT l with
    | some ks => if ks.length ≤ 1000 then some (.int (dedup ks).length) else none
    | none => none
  | _ => none
def xopT (x : Xop) (t : T) : Option T := match x with
  | .lrng => match t with
    | .int j => if 0 ≤ j ∧ j ≤ 1000000 then some (.lst ((List.range j.toNat).map fun (i : Nat) => T.int (i : Int))) else none
    | _ => none
  | .rev => match t with
    | .lst l => some (.lst l.reverse)
    | .tup l => some (.tup l.reverse)
    | _ => none
  | .upper => match t with
    | .str z => if z.length ≤ 1000000 then some (.str (Txt.upper z)) else none
    | _ => none
  | .strOf => match t with
    | .int i => if i.natAbs.log2 < 1920 then some (.str (toString i)) else none
    | .bl b => some (.str (if b then "True" else "False"))
    | .str z => some (.str z)
    | _ => none
  | .lset => lsetT t
  | .lsc => lsetT t
  | .dzip => match t with
    | .tup [a, b] => match seqT a, seqT b with
      | some l, some m => (keysT l).map fun ks => .dct (mergeT [] (ks.zip m))
      | _, _ => none
    | _ => none
  | .slen => match t with
    | .lst l => match rowsS l with
      | some bs => if bs.length ≤ 100000 ∧ ∀ b ∈ bs, b.length ≤ 100000 then some (.lst ((bs.mergeSort (W.dataLe false keyLL)).map fun b => .tup (b.map .str))) else none
      | none => none
    | _ => none
/-! ### methods of one argument -/
inductive Mop where
  | index
def Mop.nm : Mop → Str
  | .index => "index"
def mopT (m : Mop) (o a : T) : Option T := match m with
  | .index => match o, a with
    | .lst l, .str z => match strsT l with
      | some zs => (zs.findIdx? (· == z)).map fun (i : Nat) => .int (i : Int)
      | none => none
    | _, _ => none
def negT : T → Option T
  | .int i => some (.int (-i))
  | .bl b => some (.int (-(if b = true then 1 else 0)))
  | _ => none
end RD

namespace RD
open PySem

/-! ### the language -/
inductive Tg where
  | name (i : Nat) | tup (is : List Nat)
mutual
inductive Ex where
  | int (i : Int) | bl (b : Bool) | non | str (x : Str)
  | var (i : Nat) | peek (i : Nat) | glb (x : Str)
  | bop (isAnd : Bool) (es : Exs)
  | not (a : Ex) | neg (a : Ex)
  | bin (o : Bop) (a b : Ex) | cmp (o : Cop) (a b : Ex) | isN (neg : Bool) (a : Ex)
  | chain (o p : Cop) (a b c : Ex)
  | ite (c a b : Ex)
  | isa (a : Ex) (ts : List Ty)
  | idx (a b : Ex) | slice (a : Ex) (lo hi : Oe)
  | tup (es : Exs) | lst (es : Exs)
  | blt (b : Bt) (es : Exs)
  | call (f : Str) (es : Exs)
  | lc (tg : Tg) (it : Itr) (c : Oe) (e : Ex)
  | dc (tg : Tg) (it : Itr) (k v : Ex)
  | cel (e : Ex) | sset (e : Ex) | ext (x : Xop) (e : Ex) | met (m : Mop) (o a : Ex)
inductive Exs where
  | nil | cons (e : Ex) (es : Exs)
inductive Oe where
  | none | some (e : Ex)
inductive Itr where
  | seq (e : Ex) | rng1 (a : Ex) | rng2 (a b : Ex) | enum (a : Ex) | zip2 (a b : Ex) | zip3 (a b c : Ex)
end
mutual
inductive St where
  | set (i : Nat) (e : Ex) | own (i : Nat) (e : Ex) | unp (is : List Nat) (e : Ex) | par (is : List Nat) (es : Exs)
  | put (o i e : Ex) | putO (j : Nat) (i e : Ex) | swapO (j : Nat) (a b e f : Ex)
  | aug (i : Nat) (o : Bop) (e : Ex) | app (i : Nat) (e : Ex)
  | expr (e : Ex) | ret (e : Ex) | retN | pass | brk | cont
  | ite (c : Ex) (a b : Sts) | forr (tg : Tg) (it : Itr) (b : Sts) | whl (c : Ex) (b : Sts)
  | frz (i : Nat) | ins (i : Nat) (a b : Ex) | any
  | forC (tg : Tg) (e : Ex) (b : Sts) | appC (i : Nat) (e : Ex)
inductive Sts where
  | nil | cons (s : St) (ss : Sts)
end

/-! ### names of the slots -/
inductive Slot where
  | none | val (t : T) | own (l : List T)
abbrev Env := List Slot
def getV (ρ : Env) (i : Nat) : Option T := match ρ[i]? with
  | some (.val t) => some t
  | _ => Option.none
def getO (ρ : Env) (i : Nat) : Option (List T) := match ρ[i]? with
  | some (.own l) => some l
  | _ => Option.none
/-- what can be looked at in passing -/
def getP (ρ : Env) (i : Nat) : Option T := match ρ[i]? with
  | some (.val t) => some t
  | some (.own l) => some (.lst l)
  | _ => Option.none
def setAll (ρ : Env) : List Nat → List T → Option Env
  | [], [] => some ρ
  | i :: is, t :: ts => setAll (ρ.set i (.val t)) is ts
  | _, _ => Option.none
def bindTg (ρ : Env) : Tg → T → Option Env
  | .name i, t => some (ρ.set i (.val t))
  | .tup is, .tup l => setAll ρ is l
  | _, _ => Option.none
/-- the slots of a comprehension's own names forgotten -/
def wipeE (ρ : Env) : List Nat → Env
  | [] => ρ
  | v :: vs => (wipeE ρ vs).set v .none
def Tg.slots : Tg → List Nat
  | .name i => [i]
  | .tup is => is

def Tg.isT : Tg → Bool
  | .tup _ => true
  | .name _ => false

structure Glob where
  fn : Str → List T → M T
  cst : Str → Option T
  fuel : Nat
  me : Str
  tab : Option Nat
/-- the table of code objects of the def that runs is among the cells, and all in it bears its lambda's name -/
def lamCell (G : Glob) (S : Store) : Bool := match G.tab with
  | some P => S.any fun c => match c with
    | .tbl P' q => decide (P' = P) && decide (q = G.me ++ (".<locals>." : Str) ++ ("<lambda>" : Str))
    | _ => false
  | none => false
def opOk (G : Glob) (S : Store) : Xop → Bool
  | .slen => lamCell G S
  | _ => true
def extT (G : Glob) (S : Store) (o : Xop) (x : T) : Option T := if opOk G S o = true then xopT o x else none

/-- a new list or dict at each turn -/
def newE : Ex → Bool
  | .lst _ => true
  | .lc _ _ _ _ => true
  | .dc _ _ _ _ => true
  | .blt .list (.cons _ .nil) => true
  | .blt .dict (.cons _ .nil) => true
  | .blt .sorted (.cons _ .nil) => true
  | .sset _ => true
  | _ => false
/-- no own list itself -/
def Ex.strict : Ex → Bool
  | .peek _ => false
  | _ => true

def Itr.strict : Itr → Bool
  | .seq e => e.strict
  | .rng1 _ => true
  | .rng2 _ _ => true
  | .enum a => a.strict
  | .zip2 a b => a.strict && b.strict
  | .zip3 a b c => a.strict && b.strict && c.strict

/-! ### loops -/
def mapL (f : T → M (List T)) : List T → M (List T)
  | [] => ret []
  | x :: xs => bnd (f x) fun ys => bnd (mapL f xs) fun zs => ret (ys ++ zs)
def foldD (f : T → M (Key × T)) : List T → List (Key × T) → M (List (Key × T))
  | [], acc => ret acc
  | x :: xs, acc => bnd (f x) fun kv => foldD f xs (putT acc kv.1 kv.2)
def itemsT : T → Option (List T)
  | .tup l => some l
  | .lst l => some l
  | .str z => if z.length ≤ lim then some (z.cps.toList.map fun c => .str ⟨#[c]⟩) else none
  | _ => none
def rngT (lo : Int) (n : Nat) : List T := (List.range n).map fun (i : Nat) => T.int (lo + (i : Int))
def enumT (l : List T) : List T := (List.range l.length).zipWith (fun (i : Nat) x => T.tup [.int (i : Int), x]) l
def zip2T : List T → List T → List T
  | x :: xs, y :: ys => .tup [x, y] :: zip2T xs ys
  | _, _ => []
def zip3T : List T → List T → List T → List T
  | x :: xs, y :: ys, z :: zs => .tup [x, y, z] :: zip3T xs ys zs
  | _, _, _ => []
def okR (i : Int) : Prop := -(2 ^ 62) ≤ i ∧ i < 2 ^ 62
instance (i : Int) : Decidable (okR i) := inferInstanceAs (Decidable (_ ∧ _))

/-! ### small readers -/
def anyTy (t : T) : List Ty → Option Bool
  | [] => some false
  | y :: ys => match isaT t y, anyTy t ys with
    | some a, some b => some (a || b)
    | _, _ => none
def partT : Option T → Option (Option Int)
  | none => some none
  | some (.int i) => some (some i)
  | some _ => none
def isNon : T → Bool
  | .non => true
  | _ => false
def condT : Option T → Option Bool
  | none => some true
  | some (.bl b) => some b
  | some _ => none
def viewAll (S : Store) : List T → Option (List T)
  | [] => some []
  | t :: ts => match view S t, viewAll S ts with
    | some a, some b => some (a :: b)
    | _, _ => none

/-- a comprehension's turn -/
def lcF (c : Env → M (Option T)) (e : Env → M T) (tg : Tg) (ρ : Env) (x : T) : M (List T) := match bindTg (wipeE ρ tg.slots) tg x with
  | some ρ' => bnd (c ρ') fun k => match condT k with
    | some true => bnd (e ρ') fun y => RD.ret [y]
    | some false => RD.ret []
    | none => fail
  | none => fail
def dcF (k v : Env → M T) (tg : Tg) (ρ : Env) (x : T) : M (Key × T) := match bindTg (wipeE ρ tg.slots) tg x with
  | some ρ' => bnd (k ρ') fun a => bnd (v ρ') fun b => match keyT a with
    | some a => RD.ret (a, b)
    | none => fail
  | none => fail
def strictly {α : Type} (b : Bool) (f : Env → M α) : Env → M α := fun ρ => if b = true then f ρ else fail

/-- a new list or dict, kept as a cell -/
def newC (t : T) : M T := fun S => match t with
  | .lst l => some (.ok (.ref S.length) (S ++ [.lst l]))
  | .dct l => some (.ok (.ref S.length) (S ++ [.dct l]))
  | _ => none
/-! ### what an expression is worth -/
mutual
def ev (G : Glob) : Ex → Env → M T
  | .int i, _ => RD.ret (.int i)
  | .bl b, _ => RD.ret (.bl b)
  | .non, _ => RD.ret .non
  | .str x, _ => RD.ret (.str x)
  | .var i, ρ => opt (getV ρ i)
  | .peek i, ρ => opt (getP ρ i)
  | .glb x, _ => opt (G.cst x)
  | .bop true es, ρ => evAnd G es ρ
  | .bop false es, ρ => evOr G es ρ
  | .not a, ρ => bnd (ev G a ρ) fun x => match x with
    | .bl c => RD.ret (.bl (!c))
    | _ => fail
  | .neg a, ρ => bnd (ev G a ρ) fun x => opt (negT x)
  | .bin o a b, ρ => bnd (ev G a ρ) fun x => bnd (ev G b ρ) fun y => look fun S => match view S x, view S y with
    | some x, some y => opr o x y
    | _, _ => Option.none
  | .cmp o a b, ρ => bnd (ev G a ρ) fun x => bnd (ev G b ρ) fun y => look fun S => match view S x, view S y with
    | some x, some y => (cmpT o x y).map T.bl
    | _, _ => Option.none
  | .isN neg a, ρ => bnd (ev G a ρ) fun x => RD.ret (.bl (if neg = true then !isNon x else isNon x))
  | .chain o p a b c, ρ => bnd (ev G a ρ) fun x => bnd (ev G b ρ) fun y => bnd (opt (cmpT o x y)) fun k =>
    if k = true then bnd (ev G c ρ) fun z => bnd (opt (cmpT p y z)) fun k' => RD.ret (.bl k') else RD.ret (.bl false)
  | .ite c a b, ρ => bnd (ev G c ρ) fun x => match x with
    | .bl k => if k = true then (if a.strict = true then ev G a ρ else fail) else (if b.strict = true then ev G b ρ else fail)
    | _ => fail
  | .isa a ts, ρ => bnd (ev G a ρ) fun x => opt ((anyTy x ts).map T.bl)
  | .idx a b, ρ => bnd (ev G a ρ) fun x => bnd (ev G b ρ) fun y => look fun S => match view S x with
    | some x => idxT x y
    | Option.none => Option.none
  | .slice a lo hi, ρ => bnd (ev G a ρ) fun x => bnd (evO G lo ρ) fun l => bnd (evO G hi ρ) fun h => bnd (opt (partT l)) fun l => bnd (opt (partT h)) fun h => look fun S => match view S x with
    | some x => sliceT x l h
    | Option.none => Option.none
  | .tup es, ρ => if strictAll es = true then bnd (evs G es ρ) fun l => RD.ret (.tup l) else fail
  | .lst es, ρ => if strictAll es = true then bnd (evs G es ρ) fun l => RD.ret (.lst l) else fail
  | .blt b es, ρ => bnd (evs G es ρ) fun l => look fun S => match viewAll S l with
    | some l => btT b l
    | Option.none => Option.none
  | .call f es, ρ => if strictAll es = true then bnd (evs G es ρ) fun l => G.fn f l else fail
  | .lc tg it c e, ρ => bnd (evI G it ρ) fun l => bnd (mapL (lcF (evO G c) (strictly e.strict (ev G e)) tg ρ) l) fun r => RD.ret (.lst r)
  | .dc tg it k v, ρ => bnd (evI G it ρ) fun l => bnd (foldD (dcF (ev G k) (strictly v.strict (ev G v)) tg ρ) l []) fun r => RD.ret (.dct r)
  | .cel e, ρ => bnd (ev G e ρ) newC
  | .sset e, ρ => bnd (ev G e ρ) fun x => opt ((ssetT x).map .lst)
  | .ext o e, ρ => bnd (ev G e ρ) fun x => look fun S => match view S x with
    | some x => extT G S o x
    | Option.none => Option.none
  | .met m o a, ρ => bnd (ev G o ρ) fun x => bnd (ev G a ρ) fun y => look fun S => match view S y with
    | some y => mopT m x y
    | Option.none => Option.none
def evs (G : Glob) : Exs → Env → M (List T)
  | .nil, _ => RD.ret []
  | .cons e es, ρ => bnd (ev G e ρ) fun x => bnd (evs G es ρ) fun xs => RD.ret (x :: xs)
def evAnd (G : Glob) : Exs → Env → M T
  | .nil, _ => fail
  | .cons e .nil, ρ => if e.strict = true then ev G e ρ else fail
  | .cons e (.cons f es), ρ => bnd (ev G e ρ) fun x => match x with
    | .bl true => evAnd G (.cons f es) ρ
    | .bl false => RD.ret (.bl false)
    | _ => fail
def evOr (G : Glob) : Exs → Env → M T
  | .nil, _ => fail
  | .cons e .nil, ρ => if e.strict = true then ev G e ρ else fail
  | .cons e (.cons f es), ρ => bnd (ev G e ρ) fun x => match x with
    | .bl false => evOr G (.cons f es) ρ
    | .bl true => RD.ret (.bl true)
    | _ => fail
def evO (G : Glob) : Oe → Env → M (Option T)
  | .none, _ => RD.ret Option.none
  | .some e, ρ => bnd (ev G e ρ) fun x => RD.ret (some x)
def evI (G : Glob) : Itr → Env → M (List T)
  | .seq e, ρ => bnd (ev G e ρ) fun x => opt (itemsT x)
  | .rng1 a, ρ => bnd (ev G a ρ) fun x => match x with
    | .int j => if okR j ∧ j ≤ lim then RD.ret (rngT 0 j.toNat) else fail
    | _ => fail
  | .rng2 a b, ρ => bnd (ev G a ρ) fun x => bnd (ev G b ρ) fun y => match x, y with
    | .int i, .int j => if okR i ∧ okR j ∧ j - i ≤ lim then RD.ret (rngT i (j - i).toNat) else fail
    | _, _ => fail
  | .enum a, ρ => bnd (ev G a ρ) fun x => opt ((seqT x).map enumT)
  | .zip2 a b, ρ => bnd (ev G a ρ) fun x => bnd (ev G b ρ) fun y => match seqT x, seqT y with
    | some l, some r => RD.ret (zip2T l r)
    | _, _ => fail
  | .zip3 a b c, ρ => bnd (ev G a ρ) fun x => bnd (ev G b ρ) fun y => bnd (ev G c ρ) fun z => match seqT x, seqT y, seqT z with
    | some l, some r, some q => RD.ret (zip3T l r q)
    | _, _, _ => fail
def strictAll : Exs → Bool
  | .nil => true
  | .cons e es => e.strict && strictAll es
end
end RD

namespace RD
open PySem PySem.Spec PyProof.Rows L2

/-! ### how values lie in the heap -/
mutual
def Is (K : PySem.W.Frag) (α : List Addr) (F : Hp) : T → V → Prop
  | .non, v => v = .non
  | .bl b, v => v = .bl b
  | .int i, v => v = .int i
  | .str x, v => v = .str x
  | .tup l, v => ∃ a xs, v = .ref a ∧ SqT K F a xs ∧ IsL K α F l xs
  | .lst l, v => ∃ a xs, v = .ref a ∧ F a = some (.lst xs) ∧ IsL K α F l xs
  | .dct l, v => ∃ a kvs, v = .ref a ∧ F a = some (.dK kvs) ∧ IsKV K α F l kvs
  | .set _, _ => False
  | .scr ns, v => ∃ a, v = .ref a ∧ SqL K F a (ns.map V.int)
  | .ref n, v => ∃ a, v = .ref a ∧ α[n]? = some a
def IsL (K : PySem.W.Frag) (α : List Addr) (F : Hp) : List T → List V → Prop
  | [], xs => xs = []
  | t :: ts, xs => ∃ x ys, xs = x :: ys ∧ Is K α F t x ∧ IsL K α F ts ys
def IsKV (K : PySem.W.Frag) (α : List Addr) (F : Hp) : List (Key × T) → List (Key × V) → Prop
  | [], xs => xs = []
  | (k, t) :: ts, xs => ∃ x ys, xs = (k, x) :: ys ∧ Is K α F t x ∧ IsKV K α F ts ys
end
section
variable {K : PySem.W.Frag} {α β : List Addr} {F F' : Hp}
theorem sqt_same {a : Addr} {xs : List V} (e : Same F F') (h : SqT K F a xs) : SqT K F' a xs := by
  rcases h with (h | ⟨o, h⟩) | h
  · exact .inl (.inl (e _ _ h))
  · exact .inl (.inr ⟨o, e _ _ h⟩)
  · exact .inr h
theorem get_app {n : Nat} {a : Addr} (h : α[n]? = some a) : (α ++ β)[n]? = some a := by
  obtain ⟨hl, e⟩ := List.getElem?_eq_some_iff.mp h
  rw [List.getElem?_append_left hl]; exact h
mutual
theorem Is.mono (e : Same F F') : ∀ {t : T} {v : V}, Is K α F t v → Is K (α ++ β) F' t v
  | .non, _, h => h
  | .bl _, _, h => h
  | .int _, _, h => h
  | .str _, _, h => h
  | .tup l, _, ⟨a, xs, e1, h1, h2⟩ => ⟨a, xs, e1, sqt_same e h1, IsL.mono e h2⟩
  | .lst l, _, ⟨a, xs, e1, h1, h2⟩ => ⟨a, xs, e1, e _ _ h1, IsL.mono e h2⟩
  | .dct l, _, ⟨a, xs, e1, h1, h2⟩ => ⟨a, xs, e1, e _ _ h1, IsKV.mono e h2⟩
  | .set _, _, h => h
  | .scr _, _, ⟨a, e1, h1⟩ => ⟨a, e1, e.seq h1⟩
  | .ref _, _, ⟨a, e1, h1⟩ => ⟨a, e1, get_app h1⟩
theorem IsL.mono (e : Same F F') : ∀ {l : List T} {xs : List V}, IsL K α F l xs → IsL K (α ++ β) F' l xs
  | [], _, h => h
  | _ :: _, _, ⟨x, ys, e1, h1, h2⟩ => ⟨x, ys, e1, Is.mono e h1, IsL.mono e h2⟩
theorem IsKV.mono (e : Same F F') : ∀ {l : List (Key × T)} {xs : List (Key × V)}, IsKV K α F l xs → IsKV K (α ++ β) F' l xs
  | [], _, h => h
  | (_, _) :: _, _, ⟨x, ys, e1, h1, h2⟩ => ⟨x, ys, e1, Is.mono e h1, IsKV.mono e h2⟩
end
theorem IsL.length : ∀ {l : List T} {xs : List V}, IsL K α F l xs → l.length = xs.length
  | [], _, h => by cases h; rfl
  | _ :: _, _, ⟨x, ys, e1, _, h2⟩ => by subst e1; simp [IsL.length h2]
theorem IsL.get : ∀ {l : List T} {xs : List V} {i : Nat} {t : T}, IsL K α F l xs → l[i]? = some t → ∃ x, xs[i]? = some x ∧ Is K α F t x
  | [], _, _, _, _, e => by simp at e
  | t :: _, _, 0, u, ⟨x, ys, e1, h1, _⟩, e => by
    subst e1; cases e; exact ⟨x, rfl, h1⟩
  | _ :: _, _, i + 1, u, ⟨x, ys, e1, _, h2⟩, e => by
    subst e1
    obtain ⟨y, a, b⟩ := IsL.get (i := i) h2 (by simpa using e)
    exact ⟨y, by simpa using a, b⟩
theorem IsL.get' : ∀ {l : List T} {xs : List V} {i : Nat} {x : V}, IsL K α F l xs → xs[i]? = some x → ∃ t, l[i]? = some t ∧ Is K α F t x
  | [], _, _, _, h, e => by cases h; simp at e
  | t :: _, _, 0, u, ⟨x, ys, e1, h1, _⟩, e => by
    subst e1; cases e; exact ⟨t, rfl, h1⟩
  | _ :: _, _, i + 1, u, ⟨x, ys, e1, _, h2⟩, e => by
    subst e1
    obtain ⟨y, a, b⟩ := IsL.get' (i := i) h2 (by simpa using e)
    exact ⟨y, by simpa using a, b⟩
theorem IsL.app : ∀ {l r : List T} {xs ys : List V}, IsL K α F l xs → IsL K α F r ys → IsL K α F (l ++ r) (xs ++ ys)
  | [], _, _, _, h, g => by cases h; exact g
  | _ :: _, _, _, _, ⟨x, zs, e1, h1, h2⟩, g => by subst e1; exact ⟨x, _, rfl, h1, IsL.app h2 g⟩
theorem IsL.take : ∀ {l : List T} {xs : List V} (n : Nat), IsL K α F l xs → IsL K α F (l.take n) (xs.take n)
  | [], _, n, h => by cases h; simp [IsL]
  | _ :: _, _, 0, ⟨x, zs, e1, h1, h2⟩ => by subst e1; rfl
  | _ :: _, _, n + 1, ⟨x, zs, e1, h1, h2⟩ => by subst e1; exact ⟨x, _, rfl, h1, IsL.take n h2⟩
theorem IsL.drop : ∀ {l : List T} {xs : List V} (n : Nat), IsL K α F l xs → IsL K α F (l.drop n) (xs.drop n)
  | [], _, n, h => by cases h; simp [IsL]
  | _ :: _, _, 0, h => h
  | _ :: _, _, n + 1, ⟨x, zs, e1, h1, h2⟩ => by subst e1; exact IsL.drop n h2
theorem IsL.set : ∀ {l : List T} {xs : List V} (n : Nat) {t : T} {x : V}, IsL K α F l xs → Is K α F t x → IsL K α F (l.set n t) (xs.set n x)
  | [], _, n, _, _, h, _ => by cases h; rfl
  | _ :: _, _, 0, _, _, ⟨x, zs, e1, h1, h2⟩, g => by subst e1; exact ⟨_, _, rfl, g, h2⟩
  | _ :: _, _, n + 1, _, _, ⟨x, zs, e1, h1, h2⟩, g => by subst e1; exact ⟨x, _, rfl, h1, IsL.set n h2 g⟩
theorem IsL.rep {l : List T} {xs : List V} (h : IsL K α F l xs) : ∀ n : Nat, IsL K α F (List.replicate n l).flatten (List.replicate n xs).flatten
  | 0 => rfl
  | n + 1 => by
    rw [List.replicate_succ, List.replicate_succ, List.flatten_cons, List.flatten_cons]
    exact h.app (IsL.rep h n)
theorem IsL.cut {l : List T} {xs : List V} (h : IsL K α F l xs) (lo hi : Option Int) : IsL K α F (cutT l lo hi) (cutV xs lo hi) := by
  unfold cutT cutV
  rw [h.length]
  exact (h.drop _).take _
theorem IsL.rev : ∀ {l : List T} {xs : List V}, IsL K α F l xs → IsL K α F l.reverse xs.reverse
  | [], _, h => by cases h; rfl
  | t :: l, _, ⟨x, ys, e1, h1, h2⟩ => by
    subst e1
    rw [List.reverse_cons, List.reverse_cons]
    exact (IsL.rev h2).app ⟨x, [], rfl, h1, rfl⟩
theorem IsL.one {t : T} {x : V} (h : Is K α F t x) : IsL K α F [t] [x] := ⟨x, [], rfl, h, rfl⟩
theorem IsL.snoc {l : List T} {xs : List V} {t : T} {x : V} (h : IsL K α F l xs) (g : Is K α F t x) : IsL K α F (l ++ [t]) (xs ++ [x]) := h.app (.one g)
theorem IsL.ints : ∀ {l : List T} {xs : List V} {ns : List Int}, IsL K α F l xs → intsT l = some ns → xs = ns.map V.int
  | [], _, _, h, e => by cases h; cases e; rfl
  | t :: ts, _, ns, ⟨x, ys, e1, h1, h2⟩, e => by
    subst e1
    cases t with
    | int i =>
      simp only [intsT, Option.map_eq_some_iff] at e
      obtain ⟨ms, e2, rfl⟩ := e
      rw [show x = V.int i from h1, IsL.ints h2 e2]; rfl
    | _ => simp [intsT] at e
theorem IsL.bls : ∀ {l : List T} {xs : List V} {ns : List Bool}, IsL K α F l xs → blsT l = some ns → xs = ns.map V.bl
  | [], _, _, h, e => by cases h; cases e; rfl
  | t :: ts, _, ns, ⟨x, ys, e1, h1, h2⟩, e => by
    subst e1
    cases t with
    | bl i =>
      simp only [blsT, Option.map_eq_some_iff] at e
      obtain ⟨ms, e2, rfl⟩ := e
      rw [show x = V.bl i from h1, IsL.bls h2 e2]; rfl
    | _ => simp [blsT] at e
theorem IsKV.val : ∀ {l : List (Key × T)} {kvs : List (Key × V)} {k : Key}, IsKV K α F l kvs → (∀ t, valT l k = some t → ∃ v, valV kvs k = some v ∧ Is K α F t v) ∧ (valT l k = none → valV kvs k = none)
  | [], _, k, h => by cases h; exact ⟨fun t e => by simp [valT] at e, fun _ => rfl⟩
  | (j, u) :: ts, _, k, ⟨x, ys, e1, h1, h2⟩ => by
    subst e1
    have ih := IsKV.val (k := k) h2
    by_cases e : j = k
    · rw [valV_pos (p := (j, x)) e]
      have z : valT ((j, u) :: ts) k = some u := by simp [valT, List.find?_cons, e]
      rw [z]
      exact ⟨fun t q => ⟨x, rfl, by cases q; exact h1⟩, fun q => by cases q⟩
    · rw [valV_neg (p := (j, x)) e]
      have z : valT ((j, u) :: ts) k = valT ts k := by simp [valT, List.find?_cons, e]
      rw [z]
      exact ih
theorem IsKV.length : ∀ {l : List (Key × T)} {xs : List (Key × V)}, IsKV K α F l xs → l.length = xs.length
  | [], _, h => by cases h; rfl
  | (_, _) :: _, _, ⟨x, ys, e1, _, h2⟩ => by subst e1; simp [IsKV.length h2]
theorem IsKV.keys : ∀ {l : List (Key × T)} {xs : List (Key × V)}, IsKV K α F l xs → xs.map (·.1) = l.map (·.1)
  | [], _, h => by cases h; rfl
  | (_, _) :: _, _, ⟨x, ys, e1, _, h2⟩ => by subst e1; simp [IsKV.keys h2]
theorem IsKV.anyK {l : List (Key × T)} {kvs : List (Key × V)} (h : IsKV K α F l kvs) (k : Key) : (l.any fun kv => decide (kv.1 = k)) = (kvs.any fun kv => decide (kv.1 = k)) := by
  have e : ∀ {β : Type} (m : List (Key × β)), (m.any fun kv => decide (kv.1 = k)) = (m.map (·.1)).any fun j => decide (j = k) := fun m => by rw [List.any_map]; rfl
  rw [e l, e kvs, h.keys]
theorem IsKV.snoc : ∀ {l : List (Key × T)} {kvs : List (Key × V)} {k : Key} {t : T} {v : V}, IsKV K α F l kvs → Is K α F t v → IsKV K α F (l ++ [(k, t)]) (kvs ++ [(k, v)])
  | [], _, _, _, v, h, g => by cases h; exact ⟨v, [], rfl, g, rfl⟩
  | (_, _) :: _, _, _, _, _, ⟨x, ys, e1, h1, h2⟩, g => by subst e1; exact ⟨x, _, rfl, h1, IsKV.snoc h2 g⟩
theorem IsKV.repl : ∀ {l : List (Key × T)} {kvs : List (Key × V)} {k : Key} {t : T} {v : V}, IsKV K α F l kvs → Is K α F t v → IsKV K α F (l.map fun kv => if kv.1 = k then (kv.1, t) else kv) (kvs.map fun kv => if kv.1 = k then (kv.1, v) else kv)
  | [], _, _, _, _, h, g => by cases h; rfl
  | (j, u) :: _, _, k, _, v, ⟨x, ys, e1, h1, h2⟩, g => by
    subst e1
    have ih := IsKV.repl (k := k) h2 g
    by_cases e : j = k
    · simp only [List.map_cons, if_pos e]; exact ⟨v, _, rfl, g, ih⟩
    · simp only [List.map_cons, if_neg e]; exact ⟨x, _, rfl, h1, ih⟩
theorem IsKV.put {l : List (Key × T)} {kvs : List (Key × V)} {k : Key} {t : T} {v : V} (h : IsKV K α F l kvs) (g : Is K α F t v) : IsKV K α F (putT l k t) (putK kvs k v) := by
  unfold putT putK
  rw [h.anyK k]
  split
  · exact h.repl g
  · exact h.snoc g
end

/-! ### the store in the heap -/
/-- a table of code objects: each that it tells is frozen, and bears the name q -/
def TabF (F H : Hp) (a : Addr) (q : Str) : Prop := ∃ ps : Array Value, H a = some (.tbl ps) ∧ TriplesOk ps.toList ∧ ∀ (pos : Pos) (cv : Value), codeAmong pos ps.toList = some cv → ∃ c, cv = .ref c ∧ F c = some (LamX.CodeO c q)
theorem TabF.mono {F F' H H' : Hp} {a : Addr} {q : Str} (x : TabF F H a q) (sF : Same F F') (h : ∀ o, H a = some o → H' a = some o) : TabF F' H' a q := by
  obtain ⟨ps, e, t, c⟩ := x
  refine ⟨ps, h _ e, t, fun pos cv z => ?_⟩
  obtain ⟨b, e1, e2⟩ := c pos cv z
  exact ⟨b, e1, sF _ _ e2⟩
def CellIs (K : PySem.W.Frag) (α : List Addr) (F H : Hp) (a : Addr) : Cell → Prop
  | .lst l => ∃ xs, H a = some (.lst xs) ∧ IsL K α F l xs
  | .dct l => ∃ kvs, H a = some (.dK kvs) ∧ IsKV K α F l kvs
  | .ins _ _ => False
  | .tbl P q => a = P ∧ TabF F H a q
structure OkS (K : PySem.W.Frag) (α : List Addr) (F : Hp) (S : Store) (H : Hp) : Prop where
  sub : Same F H
  len : α.length = S.length
  nd : α.Nodup
  cell : ∀ (n : Nat) (c : Cell) (a : Addr), S[n]? = some c → α[n]? = some a → F a = none ∧ CellIs K α F H a c
  codes : ∀ c q, H c = some (LamX.CodeO c q) → F c ≠ none
/-- from one state to a later one, as an expression or a call may do -/
structure Step (α : List Addr) (F H : Hp) (α' : List Addr) (F' H' : Hp) : Prop where
  pre : ∃ β, α' = α ++ β ∧ ∀ b ∈ β, H b = none
  ff : Same F F'
  fn : ∀ a, F a = none → H a ≠ none → F' a = none
  hh : ∀ a o, H a = some o → a ∉ α → H' a = some o
  hx : ∀ a, H a ≠ none → H' a ≠ none
section
variable {K : PySem.W.Frag} {α α1 α2 : List Addr} {F F1 F2 H H1 H2 : Hp} {S S1 : Store}
theorem Step.refl : Step α F H α F H := ⟨⟨[], by simp, by simp⟩, Same.refl _, fun _ h _ => h, fun _ _ h _ => h, fun _ h => h⟩
theorem Step.notin (s : Step α F H α1 F1 H1) {a : Addr} (h : H a ≠ none) (ha : a ∉ α) : a ∉ α1 := by
  obtain ⟨β, rfl, hb⟩ := s.pre
  intro m
  rcases List.mem_append.mp m with m | m
  · exact ha m
  · exact h (hb a m)
theorem Step.trans (s : Step α F H α1 F1 H1) (t : Step α1 F1 H1 α2 F2 H2) : Step α F H α2 F2 H2 := by
  obtain ⟨β, e1, hb⟩ := s.pre
  obtain ⟨γ, e2, hg⟩ := t.pre
  refine ⟨⟨β ++ γ, by rw [e2, e1, List.append_assoc], fun b m => ?_⟩, s.ff.trans t.ff, fun a h1 h2 => t.fn a (s.fn a h1 h2) (s.hx a h2), fun a o h1 h2 => ?_, fun a h => t.hx a (s.hx a h)⟩
  · rcases List.mem_append.mp m with m | m
    · exact hb b m
    · cases q : H b with
      | none => rfl
      | some o => exact absurd (hg b m) (s.hx b (by rw [q]; exact fun z => by cases z))
  · exact t.hh a o (s.hh a o h1 h2) (s.notin (by rw [h1]; exact fun z => by cases z) h2)
theorem Step.is (s : Step α F H α1 F1 H1) {t : T} {v : V} (h : Is K α F t v) : Is K α1 F1 t v := by
  obtain ⟨β, rfl, _⟩ := s.pre
  exact h.mono s.ff
theorem Step.isL (s : Step α F H α1 F1 H1) {t : List T} {v : List V} (h : IsL K α F t v) : IsL K α1 F1 t v := by
  obtain ⟨β, rfl, _⟩ := s.pre
  exact h.mono s.ff
theorem Step.isKV (s : Step α F H α1 F1 H1) {t : List (Key × T)} {v : List (Key × V)} (h : IsKV K α F t v) : IsKV K α1 F1 t v := by
  obtain ⟨β, rfl, _⟩ := s.pre
  exact h.mono s.ff
/-- a new object, frozen at once -/
theorem OkS.lay (ok : OkS K α F S H) {p : Addr} {o : HO} (hp : H p = none) : OkS K α (upd F p o) S (upd H p o) := by
  have fp : F p = none := ok.sub.free hp
  have sF : Same F (upd F p o) := fun b x e => by rw [upd_ne (ne_of_none e fp)]; exact e
  refine ⟨fun b x e => ?_, ok.len, ok.nd, fun n c a h1 h2 => ?_, fun c q e => ?_⟩
  rotate_left 2
  · by_cases hc : c = p
    · rw [hc, upd_same]; exact fun z => by cases z
    · rw [upd_ne hc] at e ⊢; exact ok.codes c q e
  · by_cases hb : b = p
    · subst hb; rw [upd_same] at e; rw [upd_same]; exact e
    · rw [upd_ne hb] at e; rw [upd_ne hb]; exact ok.sub _ _ e
  · obtain ⟨q1, q2⟩ := ok.cell n c a h1 h2
    have mo : ∀ {l xs}, IsL K α F l xs → IsL K α (upd F p o) l xs := fun h => by have := h.mono (β := []) sF; simpa using this
    have mk : ∀ {l xs}, IsKV K α F l xs → IsKV K α (upd F p o) l xs := fun h => by have := h.mono (β := []) sF; simpa using this
    have ha : a ≠ p := fun e => by
      subst e
      cases c with
      | lst l => obtain ⟨xs, z, _⟩ := q2; rw [hp] at z; cases z
      | dct l => obtain ⟨xs, z, _⟩ := q2; rw [hp] at z; cases z
      | ins _ _ => exact q2
      | tbl _ _ => obtain ⟨_, ps, z, _⟩ := q2; rw [hp] at z; cases z
    refine ⟨by rw [upd_ne ha]; exact q1, ?_⟩
    cases c with
    | lst l => obtain ⟨xs, z, y⟩ := q2; exact ⟨xs, by rw [upd_ne ha]; exact z, mo y⟩
    | dct l => obtain ⟨xs, z, y⟩ := q2; exact ⟨xs, by rw [upd_ne ha]; exact z, mk y⟩
    | ins _ _ => exact q2
    | tbl _ _ => exact ⟨q2.1, q2.2.mono sF fun o z => by rw [upd_ne ha]; exact z⟩
theorem Step.lay (hs : Same F H) {p : Addr} {o : HO} (hp : H p = none) : Step α F H α (upd F p o) (upd H p o) := by
  have fp : F p = none := hs.free hp
  refine ⟨⟨[], by simp, by simp⟩, fun b x e => by rw [upd_ne (ne_of_none e fp)]; exact e, fun a h1 h2 => ?_, fun a x h1 _ => ?_, fun a h1 => ?_⟩
  · have : a ≠ p := fun e => h2 (by rw [e]; exact hp)
    rw [upd_ne this]; exact h1
  · rw [upd_ne (ne_of_none h1 hp)]; exact h1
  · have : a ≠ p := fun e => h1 (by rw [e]; exact hp)
    rw [upd_ne this]; exact h1
/-- a new object that is not frozen -/
theorem OkS.loose (ok : OkS K α F S H) {p : Addr} {o : HO} (hp : H p = none) (nc : ∀ q, o ≠ LamX.CodeO p q := by intro q z; unfold LamX.CodeO at z; cases z) : OkS K α F S (upd H p o) := by
  refine ⟨fun b x e => by rw [upd_ne (ne_of_none (ok.sub _ _ e) hp)]; exact ok.sub _ _ e, ok.len, ok.nd, fun n c a h1 h2 => ?_, fun c q e => ?_⟩
  rotate_left
  · by_cases hc : c = p
    · subst hc; rw [upd_same] at e; exact absurd (Option.some.inj e) (nc q)
    · rw [upd_ne hc] at e; exact ok.codes c q e
  obtain ⟨q1, q2⟩ := ok.cell n c a h1 h2
  refine ⟨q1, ?_⟩
  cases c with
  | lst l => obtain ⟨xs, z, y⟩ := q2; exact ⟨xs, by rw [upd_ne (ne_of_none z hp)]; exact z, y⟩
  | dct l => obtain ⟨xs, z, y⟩ := q2; exact ⟨xs, by rw [upd_ne (ne_of_none z hp)]; exact z, y⟩
  | ins _ _ => exact q2
  | tbl _ _ => exact ⟨q2.1, q2.2.mono (Same.refl _) fun o z => by rw [upd_ne (ne_of_none z hp)]; exact z⟩
theorem Step.loose {p : Addr} {o : HO} (hp : H p = none) : Step α F H α F (upd H p o) := by
  refine ⟨⟨[], by simp, by simp⟩, Same.refl _, fun a h1 _ => h1, fun a x h1 _ => ?_, fun a h1 => ?_⟩
  · rw [upd_ne (ne_of_none h1 hp)]; exact h1
  · have : a ≠ p := fun e => h1 (by rw [e]; exact hp)
    rw [upd_ne this]; exact h1
end

section
variable {K : PySem.W.Frag} {α α1 : List Addr} {F F1 H H1 : Hp} {S S1 : Store}
theorem CellIs.app {β : List Addr} {a : Addr} {c : Cell} (h : CellIs K α F H a c) : CellIs K (α ++ β) F H a c := by
  cases c with
  | lst l => obtain ⟨xs, z, y⟩ := h; exact ⟨xs, z, y.mono (Same.refl _)⟩
  | dct l => obtain ⟨xs, z, y⟩ := h; exact ⟨xs, z, y.mono (Same.refl _)⟩
  | ins _ _ => exact h
  | tbl _ _ => exact h
/-- a new object becomes a cell -/
theorem OkS.cellNew (ok : OkS K α F S H) {p : Addr} {c : Cell} (hF : F p = none) (hp : p ∉ α) (hc : CellIs K α F H p c) :
    OkS K (α ++ [p]) F (S ++ [c]) H ∧ ∀ {α0 : List Addr} {F0 H0 : Hp}, Step α0 F0 H0 α F H → H0 p = none → Step α0 F0 H0 (α ++ [p]) F H := by
  refine ⟨⟨ok.sub, by simp [ok.len], ?_, fun n c' a h1 h2 => ?_, ok.codes⟩, fun {α0 F0 H0} st h0 => ?_⟩
  · rw [List.nodup_append]
    exact ⟨ok.nd, by simp, fun x hx y hy => by simp only [List.mem_singleton] at hy; subst hy; exact fun e => hp (e ▸ hx)⟩
  · by_cases hn : n < S.length
    · rw [List.getElem?_append_left hn] at h1
      rw [List.getElem?_append_left (by rw [ok.len]; exact hn)] at h2
      obtain ⟨q1, q2⟩ := ok.cell n c' a h1 h2
      exact ⟨q1, q2.app⟩
    · have hn' : n = S.length := by
        have := (List.getElem?_eq_some_iff.mp h1).1
        simp at this
        omega
      subst hn'
      rw [List.getElem?_append_right (Nat.le_refl _)] at h1
      rw [← ok.len, List.getElem?_append_right (Nat.le_refl _)] at h2
      simp at h1 h2
      subst h1 h2
      exact ⟨hF, hc.app⟩
  · obtain ⟨β, rfl, hb⟩ := st.pre
    refine ⟨⟨β ++ [p], by rw [List.append_assoc], fun b m => ?_⟩, st.ff, st.fn, st.hh, st.hx⟩
    rcases List.mem_append.mp m with m | m
    · exact hb b m
    · rw [List.mem_singleton.mp m]; exact h0
end

/-! ### the slots -/
def SlotIs (K : PySem.W.Frag) (α : List Addr) (F H : Hp) : Slot → Option V → Prop
  | .none, _ => True
  | .val t, o => ∃ v, o = some v ∧ Is K α F t v
  | .own l, o => ∃ a xs, o = some (.ref a) ∧ H a = some (.lst xs) ∧ F a = Option.none ∧ a ∉ α ∧ IsL K α F l xs
structure Loc (K : PySem.W.Frag) (α : List Addr) (F H : Hp) (ρ : Env) (σ : L2.St) : Prop where
  len : ρ.length = σ.length
  at_ : ∀ (i : Nat) (s : Slot), ρ[i]? = some s → SlotIs K α F H s (σ.getD i none)
  sep : ∀ (i j : Nat) (l m : List T), i ≠ j → ρ[i]? = some (.own l) → ρ[j]? = some (.own m) → σ.getD i none ≠ σ.getD j none
/-- a value, perhaps an own list looked at in passing -/
def IsP (K : PySem.W.Frag) (α : List Addr) (F H : Hp) (t : T) (v : V) : Prop :=
  Is K α F t v ∨ ∃ a xs l, t = .lst l ∧ v = .ref a ∧ H a = some (.lst xs) ∧ F a = none ∧ a ∉ α ∧ IsL K α F l xs
/-- a value as it is viewed (a cell's list or dict, too) -/
def IsV (K : PySem.W.Frag) (α : List Addr) (F H : Hp) (t : T) (v : V) : Prop :=
  Is K α F t v ∨ (∃ a xs l, t = .lst l ∧ v = .ref a ∧ H a = some (.lst xs) ∧ IsL K α F l xs) ∨ ∃ a kvs l, t = .dct l ∧ v = .ref a ∧ H a = some (.dK kvs) ∧ IsKV K α F l kvs
section
variable {K : PySem.W.Frag} {α α1 : List Addr} {F F1 H H1 : Hp} {S : Store} {ρ : Env} {σ : L2.St}
theorem SlotIs.step (s : Step α F H α1 F1 H1) : ∀ {x : Slot} {o : Option V}, SlotIs K α F H x o → SlotIs K α1 F1 H1 x o
  | .none, _, _ => trivial
  | .val t, _, ⟨v, e, h⟩ => ⟨v, e, s.is h⟩
  | .own l, _, ⟨a, xs, e, h1, h2, h3, h4⟩ => ⟨a, xs, e, s.hh a _ h1 h3, s.fn a h2 (by rw [h1]; exact fun z => by cases z), s.notin (by rw [h1]; exact fun z => by cases z) h3, s.isL h4⟩
theorem Loc.step (L : Loc K α F H ρ σ) (s : Step α F H α1 F1 H1) : Loc K α1 F1 H1 ρ σ := ⟨L.len, fun i x e => (L.at_ i x e).step s, L.sep⟩
theorem IsP.step (s : Step α F H α1 F1 H1) {t : T} {v : V} (h : IsP K α F H t v) : IsP K α1 F1 H1 t v := by
  rcases h with h | ⟨a, xs, l, e1, e2, h1, h2, h3, h4⟩
  · exact .inl (s.is h)
  · exact .inr ⟨a, xs, l, e1, e2, s.hh a _ h1 h3, s.fn a h2 (by rw [h1]; exact fun z => by cases z), s.notin (by rw [h1]; exact fun z => by cases z) h3, s.isL h4⟩
theorem IsP.view (ok : OkS K α F S H) {t t' : T} {v : V} (h : IsP K α F H t v) (e : view S t = some t') : IsV K α F H t' v := by
  rcases h with h | ⟨a, xs, l, e1, e2, h1, h2, h3, h4⟩
  · cases t with
    | ref n =>
      obtain ⟨a, rfl, ha⟩ := h
      simp only [RD.view] at e
      split at e
      · rename_i l hl; cases e
        obtain ⟨_, xs, z, y⟩ := ok.cell n _ a hl ha
        exact .inr (.inl ⟨a, xs, l, rfl, rfl, z, y⟩)
      · rename_i l hl; cases e
        obtain ⟨_, xs, z, y⟩ := ok.cell n _ a hl ha
        exact .inr (.inr ⟨a, xs, l, rfl, rfl, z, y⟩)
      · cases e
    | _ => cases e; exact .inl h
  · subst e1; cases e
    exact .inr (.inl ⟨a, xs, l, rfl, e2, h1, h4⟩)
theorem IsV.lst (ok : OkS K α F S H) {l : List T} {v : V} (h : IsV K α F H (.lst l) v) : ∃ a xs, v = .ref a ∧ H a = some (.lst xs) ∧ IsL K α F l xs := by
  rcases h with ⟨a, xs, e, h1, h2⟩ | ⟨a, xs, m, e1, e2, h1, h2⟩ | ⟨a, xs, m, e1, _⟩
  · exact ⟨a, xs, e, ok.sub _ _ h1, h2⟩
  · cases e1; exact ⟨a, xs, e2, h1, h2⟩
  · cases e1
theorem IsV.tup (ok : OkS K α F S H) {l : List T} {v : V} (h : IsV K α F H (.tup l) v) : ∃ a xs, v = .ref a ∧ SqT K H a xs ∧ IsL K α F l xs := by
  rcases h with ⟨a, xs, e, h1, h2⟩ | ⟨a, xs, m, e1, e2, h1, h2⟩ | ⟨a, xs, m, e1, _⟩
  · exact ⟨a, xs, e, sqt_same ok.sub h1, h2⟩
  · cases e1
  · cases e1
theorem IsV.dct (ok : OkS K α F S H) {l : List (Key × T)} {v : V} (h : IsV K α F H (.dct l) v) : ∃ a kvs, v = .ref a ∧ H a = some (.dK kvs) ∧ IsKV K α F l kvs := by
  rcases h with ⟨a, xs, e, h1, h2⟩ | ⟨a, xs, m, e1, e2, h1, h2⟩ | ⟨a, xs, m, e1, e2, h1, h2⟩
  · exact ⟨a, xs, e, ok.sub _ _ h1, h2⟩
  · cases e1
  · cases e1; exact ⟨a, xs, e2, h1, h2⟩
theorem IsV.int {i : Int} {v : V} (h : IsV K α F H (.int i) v) : v = .int i := by
  rcases h with h | ⟨a, xs, m, e1, _⟩ | ⟨a, xs, m, e1, _⟩
  · exact h
  · cases e1
  · cases e1
theorem IsV.str {i : Str} {v : V} (h : IsV K α F H (.str i) v) : v = .str i := by
  rcases h with h | ⟨a, xs, m, e1, _⟩ | ⟨a, xs, m, e1, _⟩
  · exact h
  · cases e1
  · cases e1
theorem IsV.bl {i : Bool} {v : V} (h : IsV K α F H (.bl i) v) : v = .bl i := by
  rcases h with h | ⟨a, xs, m, e1, _⟩ | ⟨a, xs, m, e1, _⟩
  · exact h
  · cases e1
  · cases e1
theorem IsV.non {v : V} (h : IsV K α F H .non v) : v = .non := by
  rcases h with h | ⟨a, xs, m, e1, _⟩ | ⟨a, xs, m, e1, _⟩
  · exact h
  · cases e1
  · cases e1
theorem IsV.scr (ok : OkS K α F S H) {ns : List Int} {v : V} (h : IsV K α F H (.scr ns) v) : ∃ a, v = .ref a ∧ SqL K H a (ns.map V.int) := by
  rcases h with ⟨a, e, h1⟩ | ⟨a, xs, m, e1, _⟩ | ⟨a, xs, m, e1, _⟩
  · exact ⟨a, e, ok.sub.seq h1⟩
  · cases e1
  · cases e1
theorem Loc.var (L : Loc K α F H ρ σ) {i : Nat} {t : T} (h : getV ρ i = some t) : ∃ v, σ[i]? = some (some v) ∧ Is K α F t v := by
  unfold getV at h
  split at h
  · rename_i u e; cases h
    obtain ⟨v, e2, h2⟩ := L.at_ i _ e
    refine ⟨v, ?_, h2⟩
    have hl : i < σ.length := by rw [← L.len]; exact (List.getElem?_eq_some_iff.mp e).1
    rw [List.getD_eq_getElem?_getD, List.getElem?_eq_getElem hl] at e2
    rw [List.getElem?_eq_getElem hl]
    exact congrArg some e2
  · cases h
theorem getD_some {σ : L2.St} {i : Nat} {v : V} (e : σ.getD i none = some v) : σ[i]? = some (some v) := by
  rw [List.getD_eq_getElem?_getD] at e
  cases q : σ[i]? with
  | none => rw [q] at e; cases e
  | some o => rw [q] at e; exact congrArg some e
theorem getD_of {σ : L2.St} {i : Nat} {v : V} (e : σ[i]? = some (some v)) : σ.getD i none = some v := by
  rw [List.getD_eq_getElem?_getD, e]; rfl
theorem Loc.peek (L : Loc K α F H ρ σ) {i : Nat} {t : T} (h : getP ρ i = some t) : ∃ v, σ[i]? = some (some v) ∧ IsP K α F H t v := by
  unfold getP at h
  split at h
  · rename_i u e; cases h
    obtain ⟨v, e2, h2⟩ := L.at_ i _ e
    exact ⟨v, getD_some e2, .inl h2⟩
  · rename_i l e; cases h
    obtain ⟨a, xs, e2, h1, h2, h3, h4⟩ := L.at_ i _ e
    exact ⟨.ref a, getD_some e2, .inr ⟨a, xs, l, rfl, rfl, h1, h2, h3, h4⟩⟩
  · cases h
/-- a slot stored -/
theorem Loc.set (L : Loc K α F H ρ σ) {i : Nat} {t : T} {v : V} (h : Is K α F t v) : Loc K α F H (ρ.set i (.val t)) (σ.set i (some v)) := by
  refine ⟨by simp [L.len], fun j s e => ?_, fun j k l m hjk e1 e2 => ?_⟩
  · by_cases hj : i = j
    · subst hj
      have hl : i < ρ.length := by
        have := (List.getElem?_eq_some_iff.mp e).1
        simpa using this
      rw [List.getElem?_set_self hl] at e
      cases e
      refine ⟨v, ?_, h⟩
      rw [List.getD_eq_getElem?_getD, List.getElem?_set_self (by rw [← L.len]; exact hl)]; rfl
    · rw [List.getElem?_set_ne hj] at e
      have := L.at_ j s e
      rw [List.getD_eq_getElem?_getD, List.getElem?_set_ne hj, ← List.getD_eq_getElem?_getD]
      exact this
  · have ne : ∀ {n : Nat} {q : List T}, (ρ.set i (.val t))[n]? = some (.own q) → i ≠ n ∧ ρ[n]? = some (.own q) := fun {n q} e => by
      by_cases hn : i = n
      · subst hn
        have hl : i < ρ.length := by
          have := (List.getElem?_eq_some_iff.mp e).1
          simpa using this
        rw [List.getElem?_set_self hl] at e; cases e
      · rw [List.getElem?_set_ne hn] at e; exact ⟨hn, e⟩
    obtain ⟨n1, e1⟩ := ne e1
    obtain ⟨n2, e2⟩ := ne e2
    rw [List.getD_eq_getElem?_getD, List.getD_eq_getElem?_getD, List.getElem?_set_ne n1, List.getElem?_set_ne n2, ← List.getD_eq_getElem?_getD, ← List.getD_eq_getElem?_getD]
    exact L.sep j k l m hjk e1 e2
/-- slots forgotten -/
theorem Loc.unset (L : Loc K α F H ρ σ) {i : Nat} : Loc K α F H (ρ.set i .none) (σ.set i none) := by
  refine ⟨by simp [L.len], fun j s e => ?_, fun j k l m hjk e1 e2 => ?_⟩
  · by_cases hj : i = j
    · subst hj
      have hl : i < ρ.length := by
        have := (List.getElem?_eq_some_iff.mp e).1
        simpa using this
      rw [List.getElem?_set_self hl] at e
      cases e
      trivial
    · rw [List.getElem?_set_ne hj] at e
      have := L.at_ j s e
      rw [List.getD_eq_getElem?_getD, List.getElem?_set_ne hj, ← List.getD_eq_getElem?_getD]
      exact this
  · have ne : ∀ {n : Nat} {q : List T}, (ρ.set i .none)[n]? = some (.own q) → i ≠ n ∧ ρ[n]? = some (.own q) := fun {n q} e => by
      by_cases hn : i = n
      · subst hn
        have hl : i < ρ.length := by
          have := (List.getElem?_eq_some_iff.mp e).1
          simpa using this
        rw [List.getElem?_set_self hl] at e; cases e
      · rw [List.getElem?_set_ne hn] at e; exact ⟨hn, e⟩
    obtain ⟨n1, e1⟩ := ne e1
    obtain ⟨n2, e2⟩ := ne e2
    rw [List.getD_eq_getElem?_getD, List.getD_eq_getElem?_getD, List.getElem?_set_ne n1, List.getElem?_set_ne n2, ← List.getD_eq_getElem?_getD, ← List.getD_eq_getElem?_getD]
    exact L.sep j k l m hjk e1 e2
theorem Loc.wipe (L : Loc K α F H ρ σ) : ∀ vs : List Nat, Loc K α F H (wipeE ρ vs) (wipe σ vs)
  | [] => L
  | v :: vs => (Loc.wipe L vs).unset
end
end RD

namespace RD
open PySem PySem.Spec PyProof.Rows L2

section
variable {K : PySem.W.Frag} {α : List Addr} {F H : Hp} {S : Store}
mutual
theorem Is.dp (e : Same F H) : ∀ {t : T} {d : PyData} {v : V}, Is K α F t v → t.toD = some d → Dp K H v d
  | .non, _, _, h, q => by cases h; cases q; exact .non
  | .bl _, _, _, h, q => by cases h; cases q; exact .bl _
  | .int _, _, _, h, q => by cases h; cases q; exact .int _
  | .str _, _, _, h, q => by cases h; cases q; exact .str _
  | .tup l, _, _, ⟨a, xs, e1, h1, h2⟩, q => by
    subst e1
    simp only [T.toD, Option.map_eq_some_iff] at q
    obtain ⟨ds, q, rfl⟩ := q
    exact .tup (sqt_same e h1) (IsL.dp e h2 q)
  | .lst l, _, _, ⟨a, xs, e1, h1, h2⟩, q => by
    subst e1
    simp only [T.toD, Option.map_eq_some_iff] at q
    obtain ⟨ds, q, rfl⟩ := q
    exact .lst (.of (e _ _ h1)) (IsL.dp e h2 q)
  | .dct _, _, _, _, q => by simp [T.toD] at q
  | .set _, _, _, _, q => by simp [T.toD] at q
  | .scr _, _, _, _, q => by simp [T.toD] at q
  | .ref _, _, _, _, q => by simp [T.toD] at q
theorem IsL.dp (e : Same F H) : ∀ {l : List T} {ds : List PyData} {xs : List V}, IsL K α F l xs → T.toDs l = some ds → DpAll K H xs ds
  | [], _, _, h, q => by cases h; simp only [T.toDs] at q; cases q; exact .nil
  | t :: ts, _, _, ⟨x, ys, e1, h1, h2⟩, q => by
    subst e1
    simp only [T.toDs] at q
    split at q
    · rename_i d ds qd qs
      cases q
      exact .cons (Is.dp e h1 qd) (IsL.dp e h2 qs)
    · cases q
end
theorem IsV.dp (ok : OkS K α F S H) {t : T} {d : PyData} {v : V} (h : IsV K α F H t v) (q : t.toD = some d) : Dp K H v d := by
  rcases h with h | ⟨a, xs, l, rfl, rfl, h1, h2⟩ | ⟨a, xs, l, rfl, _⟩
  · exact h.dp ok.sub q
  · simp only [T.toD, Option.map_eq_some_iff] at q
    obtain ⟨ds, q, rfl⟩ := q
    exact .lst (.of h1) (h2.dp ok.sub q)
  · simp [T.toD] at q
theorem shp_inv {t : T} {d : PyData} (h : shp t = some d) : t.toD = some d ∧ SeqAt.shaped d = true := by
  unfold shp at h
  split at h
  · split at h
    · cases h; exact ⟨by assumption, by assumption⟩
    · cases h
  · cases h
end

/-- what is wanted behind an operation that gives r, the store as it was -/
def After (K : PySem.W.Frag) (α : List Addr) (F : Hp) (S : Store) (H : Hp) (r : T) (Q : VK) : Prop :=
  ∀ v H' F', OkS K α F' S H' → Step α F H α F' H' → Is K α F' r v → Q v H'
section
variable {X : Cx} {α : List Addr} {F H : Hp} {S : Store} {Q : VK} {r : T}
theorem After.now (q : After X.K α F S H r Q) (ok : OkS X.K α F S H) {v : V} (h : Is X.K α F r v) : Q v H := q v H F ok .refl h
theorem After.lst (q : After X.K α F S H (.lst l) Q) (ok : OkS X.K α F S H) {xs : List V} (h : IsL X.K α F l xs) {p : Addr} (hp : H p = none) : Q (.ref p) (upd H p (.lst xs)) := by
  refine q _ _ (upd F p (.lst xs)) (ok.lay hp) (.lay ok.sub hp) ⟨p, xs, rfl, upd_same, ?_⟩
  have := h.mono (β := []) (Step.lay (α := α) (o := .lst xs) ok.sub hp).ff
  simpa using this
theorem After.tup (q : After X.K α F S H (.tup l) Q) (ok : OkS X.K α F S H) {xs : List V} (h : IsL X.K α F l xs) {p : Addr} (hp : H p = none) : Q (.ref p) (upd H p (.tup xs)) := by
  refine q _ _ (upd F p (.tup xs)) (ok.lay hp) (.lay ok.sub hp) ⟨p, xs, rfl, .of upd_same, ?_⟩
  have := h.mono (β := []) (Step.lay (α := α) (o := .tup xs) ok.sub hp).ff
  simpa using this
/-- a new object that holds t -/
def NewO (K : PySem.W.Frag) (α : List Addr) (F : Hp) (o : HO) : T → Prop
  | .lst l => ∃ xs, o = .lst xs ∧ IsL K α F l xs
  | .dct l => ∃ kvs, o = .dK kvs ∧ IsKV K α F l kvs
  | _ => False
theorem NewO.is {K : PySem.W.Frag} {α : List Addr} {F : Hp} {o : HO} {t : T} {p : Addr} (h : NewO K α F o t) (sm : Same F (upd F p o)) : Is K α (upd F p o) t (.ref p) := by
  cases t with
  | lst l => obtain ⟨xs, rfl, h⟩ := h; exact ⟨p, xs, rfl, upd_same, by have := h.mono (β := []) sm; simpa using this⟩
  | dct l => obtain ⟨xs, rfl, h⟩ := h; exact ⟨p, xs, rfl, upd_same, by have := h.mono (β := []) sm; simpa using this⟩
  | _ => exact h.elim
theorem NewO.nocode {K : PySem.W.Frag} {α : List Addr} {F : Hp} {o : HO} {t : T} (h : NewO K α F o t) (p : Addr) : ∀ q, o ≠ LamX.CodeO p q := fun q z => by
  cases t with
  | lst l => obtain ⟨xs, e, _⟩ := h; rw [e] at z; unfold LamX.CodeO at z; cases z
  | dct l => obtain ⟨xs, e, _⟩ := h; rw [e] at z; unfold LamX.CodeO at z; cases z
  | _ => exact h
theorem After.new {t : T} {o : HO} (q : After X.K α F S H t Q) (ok : OkS X.K α F S H) (h : NewO X.K α F o t) {p : Addr} (hp : H p = none) : Q (.ref p) (upd H p o) :=
  q _ _ (upd F p o) (ok.lay hp) (.lay ok.sub hp) (h.is (Step.lay (α := α) (o := o) ok.sub hp).ff)
theorem lim_line {n : Nat} (h : n ≤ lim) : n < sizeLine := by rw [sizeLine_eq]; exact Nat.lt_of_le_of_lt h (by decide)
theorem IsL.nil_iff {K : PySem.W.Frag} {l : List T} {xs : List V} (h : IsL K α F l xs) : xs = [] ↔ l = [] := by
  have := h.length
  constructor <;> intro e
  · subst e; exact List.eq_nil_of_length_eq_zero this
  · subst e; exact List.eq_nil_of_length_eq_zero this.symm
/-- a tuple as a frozen value: where it was, when it was a value -/
theorem IsV.tupF {l : List T} {v : V} (h : IsV X.K α F H (.tup l) v) : Is X.K α F (.tup l) v := by
  rcases h with h | ⟨a, xs, m, e1, _⟩ | ⟨a, xs, m, e1, _⟩
  · exact h
  · cases e1
  · cases e1

def pyOp : Bop → Operator
  | .add => .Add | .sub => .Sub | .mul => .Mult | .fdiv => .FloorDiv | .mod => .Mod | .pow => .Pow
def rOp (o : Bop) (K : PySem.W.Frag) : R2 := fun x y H Q => ∃ α F S t u r, OkS K α F S H ∧ IsV K α F H t x ∧ IsV K α F H u y ∧ opr o t u = some r ∧ After K α F S H r Q
theorem op_any (o : Bop) : OpR X (binaryOp (pyOp o)) (rOp o X.K) := by
  intro pins s σ H x y v u Q I rx ry h
  obtain ⟨α, F, S, t, w, r, ok, hx, hy, e, q⟩ := h
  unfold opr at e
  split at e
  · cases e; rw [hx.int] at rx; rw [hy.int] at ry
    exact op_add pins s σ H _ _ v u Q I rx ry ⟨_, _, rfl, rfl, q.now ok rfl⟩
  · split at e
    · rename_i hl; cases e; rw [hx.str] at rx; rw [hy.str] at ry
      exact op_add_str pins s σ H _ _ v u Q I rx ry ⟨_, _, rfl, rfl, Nat.le_of_lt (lim_line hl), q.now ok rfl⟩
    · cases e
  · split at e
    · rename_i l m hl; cases e
      obtain ⟨a, xs, rfl, h1, h2⟩ := hx.tup ok
      obtain ⟨b, ys, rfl, g1, g2⟩ := hy.tup ok
      refine op_catA pins s σ H _ _ v u Q I rx ry ⟨a, b, xs, ys, rfl, rfl, h1, g1, by rw [← h2.length, ← g2.length]; exact Nat.le_of_lt (lim_line hl), fun z => ?_, fun z1 z2 => ?_, fun z1 z2 p hp => ?_⟩
      · rw [h2.nil_iff] at z; subst z; exact q.now ok hy.tupF
      · rw [g2.nil_iff] at z2; subst z2; rw [List.append_nil] at q; exact q.now ok hx.tupF
      · exact q.tup ok (h2.app g2) hp
    · cases e
  · split at e
    · rename_i l m hl; cases e
      obtain ⟨a, xs, rfl, h1, h2⟩ := hx.lst ok
      obtain ⟨b, ys, rfl, g1, g2⟩ := hy.lst ok
      exact op_cat pins s σ H _ _ v u Q I rx ry ⟨a, b, xs, ys, rfl, rfl, h1, g1, by rw [← h2.length, ← g2.length]; exact Nat.le_of_lt (lim_line hl), fun p hp => q.lst ok (h2.app g2) hp⟩
    · cases e
  · cases e; rw [hx.int] at rx; rw [hy.int] at ry
    exact op_sub pins s σ H _ _ v u Q I rx ry ⟨_, _, rfl, rfl, q.now ok rfl⟩
  · split at e
    · rename_i hl; cases e; rw [hx.int] at rx; rw [hy.int] at ry
      refine op_mul pins s σ H _ _ v u Q I rx ry ⟨_, _, rfl, rfl, ?_, q.now ok rfl⟩
      unfold wideB at hl
      rw [Bool.or_eq_true, decide_eq_true_eq, decide_eq_true_eq] at hl
      exact hl
    · cases e
  · split at e
    · rename_i l k hl; cases e; rw [hy.int] at ry
      obtain ⟨a, xs, rfl, h1, h2⟩ := hx.lst ok
      refine op_rep pins s σ H _ _ v u Q I rx ry ⟨a, k, xs, rfl, rfl, h1, by omega, by omega, by rw [← h2.length]; exact Nat.le_of_lt (lim_line hl.2.2), fun p hp => q.lst ok (h2.rep _) hp⟩
    · cases e
  · split at e
    · rename_i i j hl; cases e; rw [hx.int] at rx; rw [hy.int] at ry
      refine op_fdivW pins s σ H _ _ v u Q I rx ry ⟨_, _, rfl, rfl, ⟨hl.1, ?_⟩, q.now ok rfl⟩
      have h2 : j.natAbs < 2 ^ 200 := by
        have e : j = (j.natAbs : Int) := by omega
        have z := hl.2
        rw [e] at z
        exact_mod_cast z
      have h3 : j.natAbs ≠ 0 := by omega
      have := (Nat.log2_lt h3).mpr h2
      omega
    · cases e
  · split at e
    · rename_i i j hl; cases e; rw [hx.int] at rx; rw [hy.int] at ry
      exact op_mod pins s σ H _ _ v u Q I rx ry ⟨_, _, rfl, rfl, hl, q.now ok rfl⟩
    · cases e
  · split at e
    · rename_i i j hl; cases e; rw [hx.int] at rx; rw [hy.int] at ry
      exact op_pow pins s σ H _ _ v u Q I rx ry ⟨_, _, rfl, rfl, ⟨hl.1, by omega, hl.2.2⟩, q.now ok rfl⟩
    · cases e
  · cases e; rw [hx.bl] at rx; rw [hy.int] at ry
    cases rx
    obtain ⟨tk, rfl⟩ := ry
    exact PySem.IntBool.add_bool_int ⟨.int _, H, I.tok _, ⟨_, rfl⟩, q.now ok rfl⟩
  · cases e; rw [hx.bl] at rx; rw [hy.int] at ry
    cases rx
    obtain ⟨tk, rfl⟩ := ry
    exact PySem.IntBool.sub_bool_int ⟨.int _, H, I.tok _, ⟨_, rfl⟩, q.now ok rfl⟩
  · cases e

/-! ### comparisons -/
def pyCmp : Cop → CmpOp
  | .eq => .Eq | .ne => .NotEq | .lt => .Lt | .le => .LtE | .gt => .Gt | .ge => .GtE | .isin => .In | .notin => .NotIn | .isb => .Is | .isnb => .IsNot
def rCmp (o : Cop) (K : PySem.W.Frag) : R2 := fun x y H Q => ∃ α F S t u k, OkS K α F S H ∧ IsV K α F H t x ∧ IsV K α F H u y ∧ cmpT o t u = some k ∧ Q (.bl k) H
theorem eqT_inv {a b : T} {k : Bool} (h : eqT a b = some k) : ∃ d e, shp a = some d ∧ shp b = some e ∧ k = PyData.eqv d e := by
  unfold eqT at h
  split at h
  · cases h; exact ⟨_, _, by assumption, by assumption, rfl⟩
  · cases h
theorem in_any (hu : X.A.units + 70 < cLine) {α : List Addr} {F H : Hp} {S : Store} {Q : VK} {t w : T} {k : Bool} {pins : List (Addr × Obj)} {s : Shared} {σ : L2.St} {x y : V} {v u : Value} (I : Inv X pins σ H s) (rx : RelV x v) (ry : RelV y u)
    (ok : OkS X.K α F S H) (hx : IsV X.K α F H t x) (hy : IsV X.K α F H w y) (e : inT t w = some k) (neg : Bool) (q : Q (.bl (if neg = true then !k else k)) H) :
    wpAny (model X.prog X.w) X.A (compareOp (if neg = true then .NotIn else .In) v u) (EP X pins σ Q) X.xe s := by
  unfold inT at e
  split at e
  · split at e
    · cases e; rw [hx.str] at rx; rw [hy.str] at ry
      cases neg with
      | false => exact op_in_str pins s σ H _ _ v u Q I rx ry ⟨_, _, rfl, rfl, q⟩
      | true => exact op_notin_str pins s σ H _ _ v u Q I rx ry ⟨_, _, rfl, rfl, q⟩
    · cases e
  · rename_i kvs
    simp only [Option.map_eq_some_iff] at e
    obtain ⟨key, ek, rfl⟩ := e
    obtain ⟨a, ks, rfl, h1, h2⟩ := hy.dct ok
    cases ry
    have rk : RelV (kV key) v := by
      cases t with
      | int i => cases ek; rw [hx.int] at rx; exact rx
      | str i => cases ek; rw [hx.str] at rx; exact rx
      | _ => simp [keyT] at ek
    have ev : (valV ks key).isSome = (valT kvs key).isSome := by
      cases z : valT kvs key with
      | none => rw [h2.val.2 z]; rfl
      | some t => obtain ⟨v, z2, _⟩ := h2.val.1 t z; rw [z2]; rfl
    cases neg with
    | false =>
      refine d_in (by omega) I (DGet.k h1) rk fun s' I' => ⟨.bl _, H, I', rfl, ?_⟩
      rw [ev]; exact q
    | true =>
      refine d_notIn (by omega) I (DGet.k h1) rk fun s' I' => ⟨.bl _, H, I', rfl, ?_⟩
      rw [ev]; exact q
  · rename_i l
    split at e
    · rename_i d ds e1 e2
      cases e
      obtain ⟨d1, s1⟩ := shp_inv e1
      obtain ⟨d2, s2⟩ := shp_inv e2
      obtain ⟨as, r1⟩ := Dp.reads I _ _ _ (hx.dp ok d1) rx
      obtain ⟨bs, r2⟩ := Dp.reads I _ _ _ (hy.dp ok d2) ry
      have room : X.A.units + 1 + min (PyData.depthAll ds) d.depth < cLine := by
        have h1 := SeqAt.depth_of_shaped s1
        have h2 : min (PyData.depthAll ds) d.depth ≤ d.depth := Nat.min_le_right _ _
        omega
      cases neg with
      | false => exact SeqAt.in_tuple_reads r2 r1 (SeqAt.canLay_of_shaped s2) (SeqAt.canLay_of_shaped s1) room ⟨.bl _, H, I, rfl, q⟩
      | true => exact SeqAt.notIn_tuple_reads r2 r1 (SeqAt.canLay_of_shaped s2) (SeqAt.canLay_of_shaped s1) room ⟨.bl _, H, I, rfl, q⟩
    · cases e
  · rename_i l
    split at e
    · rename_i d ds e1 e2
      cases e
      obtain ⟨d1, s1⟩ := shp_inv e1
      obtain ⟨d2, s2⟩ := shp_inv e2
      obtain ⟨as, r1⟩ := Dp.reads I _ _ _ (hx.dp ok d1) rx
      obtain ⟨bs, r2⟩ := Dp.reads I _ _ _ (hy.dp ok d2) ry
      have room : X.A.units + 1 + min (PyData.depthAll ds) d.depth < cLine := by
        have h1 := SeqAt.depth_of_shaped s1
        have h2 : min (PyData.depthAll ds) d.depth ≤ d.depth := Nat.min_le_right _ _
        omega
      cases neg with
      | false => exact SeqAt.in_list_reads r2 r1 (SeqAt.canLay_of_shaped s2) (SeqAt.canLay_of_shaped s1) room ⟨.bl _, H, I, rfl, q⟩
      | true => exact SeqAt.notIn_list_reads r2 r1 (SeqAt.canLay_of_shaped s2) (SeqAt.canLay_of_shaped s1) room ⟨.bl _, H, I, rfl, q⟩
    · cases e
  · cases e
theorem cmp_any (hu : X.A.units + 100 < cLine) (o : Cop) : OpR X (compareOp (pyCmp o)) (rCmp o X.K) := by
  intro pins s σ H x y v u Q I rx ry h
  obtain ⟨α, F, S, t, w, k, ok, hx, hy, e, q⟩ := h
  cases o with
  | eq =>
    obtain ⟨d, d', e1, e2, rfl⟩ := eqT_inv e
    obtain ⟨d1, s1⟩ := shp_inv e1
    obtain ⟨d2, s2⟩ := shp_inv e2
    exact op_eqD (by omega) pins s σ H _ _ v u Q I rx ry ⟨_, _, hx.dp ok d1, hy.dp ok d2, s1, s2, q⟩
  | ne =>
    simp only [cmpT, Option.map_eq_some_iff] at e
    obtain ⟨k, e, rfl⟩ := e
    obtain ⟨d, d', e1, e2, rfl⟩ := eqT_inv e
    obtain ⟨d1, s1⟩ := shp_inv e1
    obtain ⟨d2, s2⟩ := shp_inv e2
    exact op_neD (by omega) pins s σ H _ _ v u Q I rx ry ⟨_, _, hx.dp ok d1, hy.dp ok d2, s1, s2, q⟩
  | lt =>
    simp only [cmpT] at e
    unfold ltT at e
    split at e
    · cases e; rw [hx.int] at rx; rw [hy.int] at ry
      exact op_lt pins s σ H _ _ v u Q I rx ry ⟨_, _, rfl, rfl, q⟩
    · cases e; rw [hx.str] at rx; rw [hy.str] at ry
      exact op_lt_str pins s σ H _ _ v u Q I rx ry ⟨_, _, rfl, rfl, q⟩
    · split at e
      · rename_i d d' e1 e2
        split at e
        · rename_i hal
          cases e
          obtain ⟨d1, s1⟩ := shp_inv e1
          obtain ⟨d2, s2⟩ := shp_inv e2
          obtain ⟨as, r1⟩ := Dp.reads I _ _ _ (hx.dp ok d1) rx
          obtain ⟨bs, r2⟩ := Dp.reads I _ _ _ (hy.dp ok d2) ry
          have nn : d ≠ .none := fun z => by subst z; simp [T.toD] at d1
          have room : X.A.units + min d.depth d'.depth < cLine := by
            have h1 := SeqAt.depth_of_shaped s1
            have h2 : min d.depth d'.depth ≤ d.depth := Nat.min_le_left _ _
            omega
          exact W.rcLt_alike _ _ X.A s _ _ _ _ r1 r2 hal nn room _ _ _ _ ⟨.bl _, H, I, rfl, q⟩
        · cases e
      · cases e
    · cases e
  | le =>
    simp only [cmpT] at e
    unfold leT at e
    split at e
    · cases e; rw [hx.int] at rx; rw [hy.int] at ry
      exact op_le pins s σ H _ _ v u Q I rx ry ⟨_, _, rfl, rfl, q⟩
    · cases e
  | gt =>
    simp only [cmpT] at e
    split at e
    · cases e; rw [hx.int] at rx; rw [hy.int] at ry
      exact op_gt pins s σ H _ _ v u Q I rx ry ⟨_, _, rfl, rfl, q⟩
    · cases e
  | ge =>
    simp only [cmpT] at e
    split at e
    · cases e; rw [hx.int] at rx; rw [hy.int] at ry
      exact op_ge pins s σ H _ _ v u Q I rx ry ⟨_, _, rfl, rfl, q⟩
    · cases e
  | isin => exact in_any (by omega) I rx ry ok hx hy e false q
  | notin =>
    simp only [cmpT, Option.map_eq_some_iff] at e
    obtain ⟨k, e, rfl⟩ := e
    exact in_any (by omega) I rx ry ok hx hy e true q
  | isb =>
    simp only [cmpT] at e
    split at e
    · cases e; rw [hx.bl] at rx; rw [hy.bl] at ry
      exact op_isBl pins s σ H _ _ v u Q I rx ry ⟨_, _, rfl, rfl, q⟩
    · cases e
  | isnb =>
    simp only [cmpT] at e
    split at e
    · cases e; rw [hx.bl] at rx; rw [hy.bl] at ry
      exact op_notBl pins s σ H _ _ v u Q I rx ry ⟨_, _, rfl, rfl, q⟩
    · cases e
end
end RD

namespace RD
open PySem PySem.Spec PyProof.Rows L2

/-! ### the checker: a term of the language against the text -/
def isVis (sc : Scope) (x : Str) : Bool := match sc.names.lookup x with
  | some .local => true
  | some .cell => true
  | some .free => true
  | _ => false
def isLoc (sc : Scope) (x : Str) : Bool := match sc.names.lookup x with
  | some .local => true
  | some .cell => true
  | _ => false
def isGl (sc : Scope) (x : Str) : Bool := match sc.names.lookup x with
  | some .globalImplicit => true
  | _ => false
def okN (x : Str) : Bool := !(x == ("__debug__" : Str)) && !(x == ("__classdict__" : Str)) && !decide (x = ("__name__" : Str))
def Bt.nm : Bt → Str
  | .len => "len" | .all => "all" | .any => "any" | .max => "max" | .min => "min" | .list => "list" | .tuple => "tuple" | .sorted => "sorted" | .set => "set" | .abs => "abs" | .int => "int" | .dict => "dict"
def chkNames (N : List Str) (sc : Scope) : List Nat → List Expr → Bool
  | [], [] => true
  | i :: is, f :: fs => (match f with
    | .Name x _ => decide (N[i]? = some x) && isLoc sc x && okN x
    | _ => false) && chkNames N sc is fs
  | _, _ => false
def chkTg (N : List Str) (sc : Scope) (tg : Tg) (f : Expr) : Bool := match tg with
  | .name i => chkNames N sc [i] [f]
  | .tup is => match f with
    | .Tuple fs _ _ => chkNames N sc is fs && decide (is.Nodup)
    | _ => false
/-- a comprehension's own names, with their slots -/
def ownOf (N : List Str) (is : List Nat) : List (Str × Nat) := is.map fun i => (N.getD i "", i)
def chkTys (sc : Scope) : List Ty → List Expr → Bool
  | [], [] => true
  | y :: ys, f :: fs => (match f with
    | .Name x _ => decide (x = (Str.ofString y.nm)) && isGl sc x
    | _ => false) && chkTys sc ys fs
  | _, _ => false
def plainA (ps : List Str) (a : Arguments) : Bool := a.posonlyargs.isEmpty && a.vararg.isNone && a.kwonlyargs.isEmpty && a.kwarg.isNone && decide (a.args.map (·.arg) = ps) && decide ps.Nodup
/-- lambda x: (len(x), x) -/
def lamKeyB (params : Arguments) (body : Expr) (scope : Scope) : Option Str := match body with
  | .Tuple [.Call (.Name l _) [.Name y _] [] _, .Name x _] _ _ =>
    if plainA [x] params && params.defaults.isEmpty && params.kw_defaults.isEmpty && decide (l = ("len" : Str)) && decide (y = x) && !(x == ("__debug__" : Str)) && decide (scope.kind = .function) && !scope.isCoroutine && !scope.isGenerator && decide (scope.names.lookup x = some .local)
      && decide (scope.names.lookup ("len" : Str) = some .globalImplicit) && scope.names.all fun n => decide (n.2 ≠ .cell) && decide (n.2 ≠ .free) then some x else none
  | _ => none
def subX (x : Xop) (sc : Scope) (f : Expr) : Option Expr := match x with
  | .lrng => match f with
    | .Call (.Name a _) [.Call (.Name b _) [g] [] _] [] _ => if decide (a = ("list" : Str)) && isGl sc a && decide (b = ("range" : Str)) && isGl sc b then some g else none
    | _ => none
  | .rev => match f with
    | .Subscript e (.Slice none none (some (.UnaryOp .USub (.Constant (.int i) _ _) _)) _) _ => if i = 1 then some e else none
    | _ => none
  | .upper => match f with
    | .Call (.Attribute (.Name y p0) a p) [] [] q => if decide (a = ("upper" : Str)) && (p.endLine == q.line) then some (.Name y p0) else none
    | _ => none
  | .strOf => match f with
    | .Call (.Name a _) [g] [] _ => if decide (a = ("str" : Str)) && isGl sc a then some g else none
    | _ => none
  | .lset => match f with
    | .Call (.Name a _) [.Call (.Name b _) [g] [] _] [] _ => if decide (a = ("len" : Str)) && isGl sc a && decide (b = ("set" : Str)) && isGl sc b then some g else none
    | _ => none
  | .lsc => match f with
    | .Call (.Name a _) [.SetComp g gens scope p] [] _ => if decide (a = ("len" : Str)) && isGl sc a then some (.ListComp g gens scope p) else none
    | _ => none
  | .dzip => match f with
    | .Call (.Name a _) [.Call (.Name b _) [g, h] [] p] [] _ => if decide (a = ("dict" : Str)) && isGl sc a && decide (b = ("zip" : Str)) && isGl sc b then some (.Tuple [g, h] 0 p) else none
    | _ => none
  | .slen => match f with
    | .Call (.Name a _) [g] [⟨some k, .Lambda params body lsc _, _⟩] _ => if decide (a = ("sorted" : Str)) && isGl sc a && decide (k = ("key" : Str)) && (lamKeyB params body lsc).isSome then some g else none
    | _ => none
/-- len({..}) is read as a list comprehension's, the two of a zip as a tuple's -/
def extOk (x : Xop) (e : Ex) : Bool := match x with
  | .lsc => (match e with
    | .lc .. => true
    | _ => false)
  | .dzip => (match e with
    | .tup (.cons _ (.cons _ .nil)) => true
    | _ => false)
  | _ => true
/-- a call, or a subscript -/
def callB : Expr → Bool
  | .Call .. => true
  | .Subscript .. => true
  | _ => false
theorem subX_call {x : Xop} {sc : Scope} {f g : Expr} (h : subX x sc f = some g) : callB f = true := by
  cases x <;> (unfold subX at h; simp only at h; split at h <;> first | rfl | cases h)
mutual
def chkE (N : List Str) : Scope → Ex → Expr → Bool
  | sc, .int i, f => match f with
    | .Constant (.int j) _ _ => decide (i = j)
    | _ => false
  | sc, .bl b, f => match f with
    | .Constant (.bool c) _ _ => decide (b = c)
    | _ => false
  | sc, .non, f => match f with
    | .Constant .none _ _ => true
    | _ => false
  | sc, .str x, f => match f with
    | .Constant (.str y) _ _ => decide (x = y)
    | _ => false
  | sc, .var i, f => match f with
    | .Name x _ => decide (N[i]? = some x) && isVis sc x && okN x
    | _ => false
  | sc, .peek i, f => match f with
    | .Name x _ => decide (N[i]? = some x) && isVis sc x && okN x
    | _ => false
  | sc, .glb x, f => match f with
    | .Name y _ => decide (x = y) && isGl sc y && okN y
    | _ => false
  | sc, .bop isAnd es, f => match f with
    | .BoolOp op fs _ => decide (op = if isAnd = true then .And else .Or) && chkEs N sc es fs
    | _ => false
  | sc, .not a, f => match f with
    | .UnaryOp .Not g _ => chkE N sc a g
    | _ => false
  | sc, .neg a, f => match f with
    | .UnaryOp .USub g _ => chkE N sc a g
    | _ => false
  | sc, .bin o a b, f => match f with
    | .BinOp l o' r _ => decide (o' = pyOp o) && chkE N sc a l && chkE N sc b r
    | _ => false
  | sc, .cmp o a b, f => match f with
    | .Compare l [o'] [r] _ => decide (o' = pyCmp o) && chkE N sc a l && chkE N sc b r
    | _ => false
  | sc, .isN neg a, f => match f with
    | .Compare l [o'] [.Constant .none _ _] _ => decide (o' = if neg = true then .IsNot else .Is) && chkE N sc a l
    | _ => false
  | sc, .chain o p a b c, f => match f with
    | .Compare l [o', p'] [m, r] _ => decide (o' = pyCmp o) && decide (p' = pyCmp p) && chkE N sc a l && chkE N sc b m && chkE N sc c r && a.strict && b.strict && c.strict
    | _ => false
  | sc, .ite c a b, f => match f with
    | .IfExp t x y _ => chkE N sc c t && chkE N sc a x && chkE N sc b y
    | _ => false
  | sc, .isa a ts, f => match f with
    | .Call (.Name x _) [g, h] [] _ => decide (x = ("isinstance" : Str)) && isGl sc x && chkE N sc a g && a.strict && (match ts with
      | [y] => chkTys sc [y] [h]
      | ys => match h with
        | .Tuple hs _ _ => chkTys sc ys hs && decide (2 ≤ hs.length) && decide (hs.length < 10)
        | _ => false)
    | _ => false
  | sc, .idx a b, f => match f with
    | .Subscript l r _ => chkE N sc a l && chkE N sc b r
    | _ => false
  | sc, .slice a lo hi, f => match f with
    | .Subscript l (.Slice x y none _) _ => chkE N sc a l && chkO N sc lo x && chkO N sc hi y
    | _ => false
  | sc, .tup es, f => match f with
    | .Tuple fs _ _ => chkEs N sc es fs && decide (fs.length < 1000)
    | _ => false
  | sc, .lst es, f => match f with
    | .List fs _ => chkEs N sc es fs && decide (fs.length < 1000)
    | _ => false
  | sc, .blt b es, f => match f with
    | .Call (.Name x _) fs [] _ => decide (x = b.nm) && isGl sc x && chkEs N sc es fs && decide (fs ≠ [] ∧ fs.length < 3)
    | _ => false
  | sc, .call g es, f => match f with
    | .Call (.Name x _) fs [] _ => decide (x = g) && isGl sc x && okN x && chkEs N sc es fs
    | _ => false
  | sc, .lc tg it c e, f => match f with
    | .ListComp g [⟨t, i, ifs, n⟩] scope _ => decide (n = 0) && blkC N sc scope (ownOf N tg.slots) && chkTg N scope tg t && chkI N sc tg.isT it i && (match ifs with
      | [] => (match c with | .none => true | _ => false)
      | [h] => (match c with | .some _ => true | _ => false) && chkO N (relS scope sc) c (some h)
      | _ => false) && chkE N (relS scope sc) e g
    | _ => false
  | sc, .dc tg it k v, f => match f with
    | .DictComp g h [⟨t, i, [], n⟩] scope _ => decide (n = 0) && blkC N sc scope (ownOf N tg.slots) && chkTg N scope tg t && chkI N sc tg.isT it i && chkE N (relS scope sc) k g && chkE N (relS scope sc) v h
    | _ => false
  | sc, .cel e, f => newE e && chkE N sc e f
  | sc, .sset e, f => match f with
    | .Call (.Name x _) [.Call (.Name y _) [g] [] _] [] _ => decide (x = ("sorted" : Str)) && isGl sc x && decide (y = ("set" : Str)) && isGl sc y && chkE N sc e g
    | _ => false
  | sc, .ext x e, f => match subX x sc f with
    | some g => extOk x e && chkE N sc e g
    | none => false
  | sc, .met m o a, f => match f with
    | .Call (.Attribute (.Name y p0) n p) [g] [] q => decide (n = m.nm) && (p.endLine == q.line) && chkE N sc o (.Name y p0) && chkE N sc a g
    | _ => false
def chkEs (N : List Str) : Scope → Exs → List Expr → Bool
  | sc, .nil, fs => match fs with
    | [] => true
    | _ => false
  | sc, .cons e es, fs => match fs with
    | f :: fs => chkE N sc e f && chkEs N sc es fs
    | _ => false
def chkO (N : List Str) : Scope → Oe → Option Expr → Bool
  | sc, .none, f => match f with
    | none => true
    | _ => false
  | sc, .some e, f => match f with
    | some f => chkE N sc e f
    | _ => false
def chkI (N : List Str) : Scope → Bool → Itr → Expr → Bool
  | sc, _, .seq e, f => chkE N sc e f
  | sc, _, .rng1 a, f => match f with
    | .Call (.Name x _) [g] [] _ => decide (x = ("range" : Str)) && isGl sc x && chkE N sc a g
    | _ => false
  | sc, _, .rng2 a b, f => match f with
    | .Call (.Name x _) [g, h] [] _ => decide (x = ("range" : Str)) && isGl sc x && chkE N sc a g && chkE N sc b h
    | _ => false
  | sc, tup, .enum a, f => match f with
    | .Call (.Name x _) [g] [] _ => tup && decide (x = ("enumerate" : Str)) && isGl sc x && chkE N sc a g
    | _ => false
  | sc, tup, .zip2 a b, f => match f with
    | .Call (.Name x _) [g, h] [] _ => tup && decide (x = ("zip" : Str)) && isGl sc x && chkE N sc a g && chkE N sc b h
    | _ => false
  | sc, tup, .zip3 a b c, f => match f with
    | .Call (.Name x _) [g, h, i] [] _ => tup && decide (x = ("zip" : Str)) && isGl sc x && chkE N sc a g && chkE N sc b h && chkE N sc c i
    | _ => false
end
end RD

/-! lambda x: (len(x), x), called with a tuple: a new pair, all else kept. -/
namespace RD
open PySem PySem.Spec PyProof.Rows L2
theorem bind_lam {n qual x : Str} {params : Arguments} {body : Expr} {scope : Scope} {cl : List (Str × Addr)} {pm cdv ct u : Value} (h : plainA [x] params = true) : bindArgs (PySem.W.kla_fn n qual params body scope cl pm cdv ct) ⟨[u], []⟩ = pure [(x, u)] := by
  obtain ⟨po, as, va, ko, kd, kw, df⟩ := params
  simp only [plainA, Bool.and_eq_true, decide_eq_true_eq, List.isEmpty_iff, Option.isNone_iff_eq_none] at h
  obtain ⟨⟨⟨⟨⟨rfl, rfl⟩, rfl⟩, rfl⟩, e⟩, nd⟩ := h
  obtain ⟨a, rfl, rfl⟩ := List.map_eq_singleton_iff.mp e
  have z : notAStandIn Value.none = pure () := rfl
  simp [bindArgs, PySem.W.kla_fn, seqItems?, z]
theorem lamKey_facts {params : Arguments} {body : Expr} {scope : Scope} {x : Str} (ok : lamKeyB params body scope = some x) : params.defaults = [] ∧ params.kw_defaults = [] ∧ ∀ y ∈ scope.names, y.2 ≠ .free := by
  unfold lamKeyB at ok
  split at ok
  · split at ok
    · rename_i c
      simp only [Bool.and_eq_true, decide_eq_true_eq, Bool.not_eq_true', List.all_eq_true, List.isEmpty_iff] at c
      obtain ⟨⟨⟨⟨⟨⟨⟨⟨⟨⟨⟨_, d⟩, k⟩, _⟩, _⟩, _⟩, _⟩, _⟩, _⟩, _⟩, _⟩, nm⟩ := c
      exact ⟨d, k, fun y hy => (nm y hy).2⟩
    · cases ok
  · cases ok
section
variable {P : Program} {w : World} {A : Around} {s : Shared} {mg mb : Str → Option Value}
theorem lam_key {R : Result → Shared → Prop} {name qual x : Str} {params : Arguments} {body : Expr} {scope : Scope} {cl : List (Str × Addr)} {pm ctv : Value} {c' f t : Addr} {items : Array Value}
    (ok : lamKeyB params body scope = some x) (depth : A.depth < recursionLimit) (hf : s.heap.get? f = some (PySem.W.kla_obj name qual params body scope cl pm c' ctv)) (code : s.heap.CodeRec (.ref c') qual)
    (hg : s.heap.Ns mainGlobals mg) (hb : s.heap.Ns builtinsNs mb) (len : mg "len" = none) (blt : mb "len" = some (.builtin "len")) (lim : s.heap.NoLimit) (ht : IsTup s.heap t items) (small : (items.size : Int) < 2 ^ 63)
    (q : ∀ p h' tk tk', (∀ b o, s.heap.get? b = some o → h'.get? b = some o) → s.heap.objs.size ≤ p → IsTup h' p #[.int items.size tk, .ref t] → R (.ok (.ret (.ref p))) { s with heap := h', toks := tk' }) :
    codeAny (model P w) A (.call (.ref f) ⟨[.ref t], []⟩) R s := by
  unfold lamKeyB at ok
  split at ok
  · rename_i l pl y py pc x' px k pt
    split at ok
    · rename_i c
      cases ok
      simp only [Bool.and_eq_true, decide_eq_true_eq, Bool.not_eq_true', List.all_eq_true] at c
      obtain ⟨⟨⟨⟨⟨⟨⟨⟨⟨⟨⟨pa, _⟩, _⟩, rfl⟩, rfl⟩, nd⟩, kind⟩, co⟩, gen⟩, loc⟩, gl⟩, nm⟩ := c
      refine PySem.W.kla_callFunE depth hf rfl co gen rfl code ?_
      rw [bind_lam pa]
      refine wpAny_pure (wpAny_newFunctionEnv (fun n hn => (nm n hn).1) (fun n hn => by
        simp only [List.mem_cons, List.not_mem_nil, or_false] at hn
        subst hn; exact loc) (fun h1 ns sb => ⟨lim.fresh _ sb, PySem.W.kla_codeExpr ?_⟩) kind)
      have up : ∀ b o, s.heap.get? b = some o → h1.get? b = some o := fun b o e => sb.extBut b o (Nat.ne_of_lt (Heap.lt_size e)) (Heap.get?_push_of_some _ e)
      have frame : (newEnv scope s.heap.objs.size mainGlobals cl (qual ++ ".<locals>.") (some f) (.ref c') none builtinsNs).scope.kind = .function := kind
      have size : h1.objs.size = s.heap.objs.size + 1 := by rw [sb.1, Heap.size_push]
      have mine : ∀ (s' : Shared) (Q' : Value → Shared → Prop) (E' : Value → Shared → Prop) (p : Pos), (∀ b o, h1.get? b = some o → s'.heap.get? b = some o) → Q' (.ref t) s' → wpAny (model P w) (A.deeper (newEnv scope s.heap.objs.size mainGlobals cl (qual ++ ".<locals>.") (some f) (.ref c') none builtinsNs)) (eval (.Name y p) (newEnv scope s.heap.objs.size mainGlobals cl (qual ++ ".<locals>.") (some f) (.ref c') none builtinsNs)) Q' E' s' := fun s' Q' E' p k q' =>
        wpAny_Name (wpAny_loadName_local kind loc (ns.keeps k) (by simp [List.lookup]) q') nd
      refine wpAny_Tuple_spliced (args_cons (Call_ (Calls.Name_function_global kind gl (Calls.loadGlobal_builtin (hg.keeps up) len (hb.keeps up) blt ?_))) rfl)
      refine callWith_builtin1 (args_cons (mine _ _ _ _ (fun _ _ e => e) (args_nil ?_)) rfl) rfl rfl
      have ht1 : IsTup h1 t items := by obtain ⟨o, e, r⟩ := ht; exact ⟨o, up _ _ e, r⟩
      refine len_tuple ht1 small (args_cons (mine _ _ _ _ (fun _ _ e => e) (args_nil ⟨by show 2 ≤ sizeLine; decide, ?_⟩)) rfl)
      refine q h1.objs.size _ (s.toks + 1 + 1) _ (fun b o e => Heap.get?_push_of_some _ (up b o e)) (by omega) (IsTup.new _ _)
    · cases ok
  · cases ok
end
end RD

/-! sorted(xs, key=lambda x: (len(x), x)), xs a list of tuples of texts. -/
namespace RD
open PySem PySem.Spec PyProof.Rows L2 PySem.W
/-- all that stands in a heap, but for what stands at L -/
def allBut (h : Heap) (L : Addr) : List (Addr × Obj) := (List.range h.objs.size).filterMap fun b => if b = L then none else (h.get? b).map fun o => (b, o)
theorem mem_allBut {h : Heap} {L b : Addr} {o : Obj} : (b, o) ∈ allBut h L ↔ b ≠ L ∧ h.get? b = some o := by
  unfold allBut
  rw [List.mem_filterMap]
  constructor
  · rintro ⟨c, _, e⟩
    by_cases hc : c = L
    · rw [if_pos hc] at e; cases e
    · rw [if_neg hc, Option.map_eq_some_iff] at e
      obtain ⟨u, hu, e⟩ := e
      cases e
      exact ⟨hc, hu⟩
  · rintro ⟨hb, e⟩
    exact ⟨b, List.mem_range.mpr (Heap.lt_size e), by rw [if_neg hb, e]; rfl⟩
theorem alike_strs : ∀ xs ys : List Str, alikeAll (xs.map .str) (ys.map .str) = true
  | [], _ => by simp [alikeAll]
  | _ :: _, [] => by simp [alikeAll]
  | x :: xs, y :: ys => by
    have ih := alike_strs xs ys
    simp only [List.map_cons]
    rw [alikeAll, ih]
    simp [alike]
theorem depth_strs : ∀ xs : List Str, PyData.depthAll (xs.map .str) = 0
  | [] => by simp [PyData.depthAll]
  | x :: xs => by
    simp only [List.map_cons]
    rw [PyData.depthAll, depth_strs xs]
    simp [PyData.depth]
theorem reads_strs {h : Heap} : ∀ {vs : List Value} {xs : List Str}, EachIs (fun v x => ∃ t, v = .str x t) vs xs → ReadsAll h vs (xs.map .str) []
  | _, _, .nil => .nil
  | _, _, .cons ⟨t, e⟩ r => by
    subst e
    exact .cons (as := []) (.str _ _) (reads_strs r)
section
variable {P : Program} {w : World} {A : Around} {E : Value → Shared → Prop} {s : Shared} {mg mb mL : Str → Option Value}
/-- a tuple of texts -/
def TupS (h : Heap) (v : Value) (b : List Str) : Prop := ∃ t items, v = .ref t ∧ IsTup h t items ∧ EachIs (fun v x => ∃ t, v = .str x t) items.toList b
theorem sorted_len {R : Value → List Str → Prop} {L l f c' : Addr} {name qual x : Str} {params : Arguments} {body : Expr} {scope : Scope} {cl : List (Str × Addr)} {pm ctv : Value} {vs : List Value} {bs : List (List Str)} {Q : Value → Shared → Prop}
    (ok : lamKeyB params body scope = some x) (depth : A.depth < recursionLimit) (room : A.units + 10 < cLine) (nsL : s.heap.Ns L mL) (nG : mainGlobals ≠ L) (nB : builtinsNs ≠ L) (nS : cStatics ≠ L) (hg : s.heap.Ns mainGlobals mg) (hb : s.heap.Ns builtinsNs mb) (len : mg "len" = none) (blt : mb "len" = some (.builtin "len")) (lim : s.heap.NoLimit)
    (hf : s.heap.get? f = some (PySem.W.kla_obj name qual params body scope cl pm c' ctv)) (code : s.heap.CodeRec (.ref c') qual) (cL : c' ≠ L) (hl : s.heap.IsList l vs.toArray) (hR : ∀ v b, R v b → TupS s.heap v b) (e : EachIs R vs bs) (few : bs.length ≤ sizeLine) (short : ∀ b ∈ bs, (b.length : Int) < 2 ^ 63)
    (q : ∀ D out c h' tk, (∀ b o, b ≠ L → s.heap.get? b = some o → h'.get? b = some o) → h'.Ns L mL → D ≠ L → s.heap.get? D = none → h'.get? D = some (PySem.W.listOf (List.toArray out) c) → out.length = bs.length → EachIs R out (bs.mergeSort (dataLe false keyLL)) → Q (.ref D) { s with heap := h', toks := tk }) :
    wpAny (model P w) A (call (.builtin "sorted") [.ref l] [(("key" : Str), .ref f)]) Q E s := by
  have none0 : ∀ b, ({} : Heap).get? b = none := fun b => by simp [Heap.get?]
  have F0 : Fr {} L s.heap mL := ⟨nsL, fun b o e => (by rw [none0] at e; cases e), Nat.zero_le _⟩
  have N0 : News {} L s.heap (allBut s.heap L) := fun p hp => by
    obtain ⟨b, o⟩ := p
    obtain ⟨h1, h2⟩ := mem_allBut.mp hp
    exact ⟨h2, h1, none0 b⟩
  have notL : ∀ {b o}, s.heap.get? b = some o → (∀ es n, o.data ≠ .dict es n) → b ≠ L := fun {b o} e hd z => by
    obtain ⟨o', es, ep, e', d, _⟩ := nsL
    rw [z, e'] at e
    cases e
    exact hd _ _ d
  have fL : f ≠ L := notL hf fun es n z => nomatch z
  refine sorted_key_data_frame (f := .ref f) (R := R) (L := L) (h₀ := {}) (m := mL) (b := false) keyLL F0 N0 hl e (.of fun b b' => by simp [keyLL, alike, alikeAll, alike_strs]) (.tuples fun b => ⟨_, _, rfl⟩) few (fun b _ => ?_) ?_ ?_ ?_ (fun v b rv hb' h tk own F N => ?_) fun D out c h' tk F N lt ho eo => ?_
  · have : (keyLL b).depth ≤ 2 := by simp [keyLL, PyData.depth, PyData.depthAll, depth_strs]
    omega
  · exact ksk_s1 _ _
  · exact fun x => ksk_l1 _ _
  · exact fun x => ksk_t1 f x
  · have keep : ∀ b o, b ≠ L → s.heap.get? b = some o → h.get? b = some o := fun b o hb e => (N (b, o) (List.mem_append_left _ (mem_allBut.mpr ⟨hb, e⟩))).1
    have ns : ∀ {a m}, a ≠ L → s.heap.Ns a m → h.Ns a m := fun {a m} ha ⟨o, es, ep, e, r⟩ => ⟨o, es, ep, keep _ _ ha e, r⟩
    obtain ⟨t, items, rfl, ht, es⟩ := hR v b rv
    have tL : t ≠ L := by
      obtain ⟨o, e, _, n, d⟩ := ht
      exact notL e fun es n z => by rw [d] at z; cases z
    have ht' : IsTup h t items := by obtain ⟨o, e, r⟩ := ht; exact ⟨o, keep _ _ tL e, r⟩
    have size : items.size = b.length := by have := es.length; simpa using this
    have code' : h.CodeRec (.ref c') qual := by
      obtain ⟨c2, oc, us, t2, e1, e2, r⟩ := code
      cases e1
      exact ⟨c', oc, us, t2, rfl, keep _ _ cL e2, r⟩
    have lim' : h.NoLimit := by obtain ⟨mc, h1, h2⟩ := lim; exact ⟨mc, ns nS h1, h2⟩
    refine wpAny_call (lam_key (A := A.in1.in1) (s := { s with heap := h, toks := tk }) ok depth (keep _ _ fL hf) code' (ns nG hg) (ns nB hb) len blt lim' ht' (by rw [size]; exact short b hb') fun p h' tk1 tk2 up ge hp => ?_)
    obtain ⟨ot, e1, c1, m1, d1⟩ := ht'
    obtain ⟨op, e2, c2, m2, d2⟩ := hp
    have ltL : L < h.objs.size := by obtain ⟨o, _, _, e, _⟩ := F.ns; exact Heap.lt_size e
    have pL : p ≠ L := Nat.ne_of_gt (Nat.lt_of_lt_of_le ltL ge)
    refine ⟨h', tk2, [(p, op), (t, ot)], rfl, fun g _ hg' => ?_, fun o ho => ?_, ⟨F.ns.keeps up, fun b o e => (by rw [none0] at e; cases e), Nat.zero_le _⟩, fun o ho => ?_⟩
    · have g1 := hg' (p, op) (by simp)
      have g2 := hg' (t, ot) (by simp)
      rw [size] at d2
      refine ⟨_, .tuple g1 c2 d2 (.cons (.int _ _) (.cons (.tuple g2 c1 d1 (reads_strs es)) .nil))⟩
    · simp only [List.mem_cons, List.not_mem_nil, or_false] at ho
      rcases ho with rfl | rfl
      · exact c2
      · exact c1
    · rcases List.mem_append.mp ho with ho | ho
      · obtain ⟨a1, a2, a3⟩ := N o ho
        exact ⟨up _ _ a1, a2, a3⟩
      · simp only [List.mem_cons, List.not_mem_nil, or_false] at ho
        rcases ho with rfl | rfl
        · exact ⟨e2, pL, none0 _⟩
        · exact ⟨up _ _ e1, tL, none0 _⟩
  · have keep : ∀ b o, b ≠ L → s.heap.get? b = some o → h'.get? b = some o := fun b o hb e => (N (b, o) (List.mem_cons_of_mem _ (mem_allBut.mpr ⟨hb, e⟩))).1
    obtain ⟨d1, d2, d3⟩ := N (D, listOf out.toArray c) (.head _)
    have new : s.heap.get? D = none := by
      cases z : s.heap.get? D with
      | none => rfl
      | some o => exact absurd (lt (D, o) (mem_allBut.mpr ⟨d2, z⟩)) (Nat.lt_irrefl _)
    exact q D out c h' tk keep F.ns d2 new d1 ho eo
end
end RD

/-! the lambda made, the list sorted by it: as a rule. -/
namespace RD
open PySem PySem.Spec PyProof.Rows L2 LamX
open PySem.W (EachIs)
theorem defaults_none {params : Arguments} {env : PySem.Env} (d : params.defaults = []) (k : params.kw_defaults = []) : defaultsOf params env = ([], []) := by
  obtain ⟨po, as, va, ko, kd, kw, df⟩ := params
  simp only at d k
  subst d k
  rfl
theorem sqL_extN {K : PySem.W.Frag} {H H' : Hp} {a : Addr} {xs : List V} (e : ExtN H H') (h : SqL K H a xs) : SqL K H' a xs :=
  h.imp (fun r => r.imp (fun z => e _ _ z fun _ y => nomatch y) fun ⟨o, z⟩ => ⟨o, e _ _ z fun _ y => nomatch y⟩) id
theorem sqT_extN {K : PySem.W.Frag} {H H' : Hp} {a : Addr} {xs : List V} (e : ExtN H H') (h : SqT K H a xs) : SqT K H' a xs :=
  h.imp (fun r => r.imp (fun z => e _ _ z fun _ y => nomatch y) fun ⟨o, z⟩ => ⟨o, e _ _ z fun _ y => nomatch y⟩) id
theorem paired_mono {α β : Type} {R R' : α → β → Prop} (k : ∀ a b, R a b → R' a b) : ∀ {xs : List α} {ys : List β}, Paired R xs ys → Paired R' xs ys
  | _, _, .nil => .nil
  | _, _, .cons h t => .cons (k _ _ h) (paired_mono k t)
section
variable {X : Cx} {pins : List (Addr × Obj)} {σ : L2.St} {H : Hp} {s : Shared} {Q : VK}
/-- a tracked tuple of texts -/
def TupV (X : Cx) (H : Hp) (y : V) (b : List Str) : Prop := ∃ t, y = .ref t ∧ SqT X.K H t (b.map V.str)
theorem each_strs : ∀ {b : List Str} {us : List Value}, Vals (b.map V.str) us → EachIs (fun v x => ∃ t, v = .str x t) us b
  | [], _, .nil => .nil
  | _ :: _, _, .cons ⟨t, e⟩ r => .cons ⟨t, e⟩ (each_strs r)
theorem each_rows {R : V → List Str → Prop} : ∀ {xs : List V} {bs : List (List Str)} {us : List Value}, Paired R xs bs → Vals xs us → EachIs (fun v b => ∃ y, RelV y v ∧ R y b) us bs
  | _, _, _, .nil, .nil => .nil
  | _, _, _, .cons h p, .cons r v => .cons ⟨_, r, h⟩ (each_rows p v)
theorem rows_each {R : V → List Str → Prop} : ∀ {us : List Value} {bs : List (List Str)}, EachIs (fun v b => ∃ y, RelV y v ∧ R y b) us bs → ∃ ys, Paired R ys bs ∧ Vals ys us
  | _, _, .nil => ⟨[], .nil, .nil⟩
  | _, _, .cons ⟨y, r, h⟩ t => by
    obtain ⟨ys, p, v⟩ := rows_each t
    exact ⟨y :: ys, .cons h p, .cons r v⟩
/-- what a lambda's making leaves: nothing new in its maker's table, or one code object more -/
def Made (P : Addr) (q : Str) (c' : Addr) (H H' : Hp) : Prop := H' = H ∨ ∃ ps, H c' = none ∧ c' ≠ P ∧ H' = upd (upd H P (.tbl ps)) c' (CodeO c' q)
theorem Made.ext {P c' : Addr} {q : Str} {H H' : Hp} {ps : Array Value} (m : Made P q c' H H') (hP : H P = some (.tbl ps)) : ExtN H H' := by
  rcases m with rfl | ⟨ps', n, ne, rfl⟩
  · exact ExtN.refl _
  · intro b o e nt
    rw [upd_ne (ne_of_none e n), upd_ne fun z => nt ps (by rw [z, hP] at e; exact (Option.some.inj e).symm)]
    exact e
/-- the lambda is made: one table known -/
theorem lam_made {c P : Addr} {q : Str} {params : Arguments} {body : Expr} {lscope : Scope} {pos : Pos} {E : Value → Shared → Prop} {R : Value → Shared → Prop} (I : Inv X pins σ H s) (TB : TabB X.base X.mg c P) (hcode : X.env.code = .ref c) (hq : q = X.env.qual ++ ("<lambda>" : Str)) (tab : TabS H P q)
    (hdef : defaultsOf params X.env = ([], [])) (nofree : ∀ y ∈ lscope.names, y.2 ≠ .free)
    (h : ∀ (f c' : Addr) (pm ctv : Value) (H1 : Hp) (s' : Shared), Inv X pins σ H1 s' → Made P q c' H H1 → TabS H1 P q → s'.heap.get? f = some (PySem.W.kla_obj "<lambda>" q params body lscope (cloFrom X.env.cells lscope.names []) pm c' ctv) → H1 c' = some (CodeO c' q) → R (.ref f) s') :
    wpAny (model X.prog X.w) X.A (eval (.Lambda params body lscope pos) X.env) R E s := by
  subst hq
  obtain ⟨ps, hP, triples, among⟩ := tab
  have clo := closure_ok (scope := lscope) (env := X.env) fun y hy e => absurd e (nofree y hy)
  have nsG := I.mod.glob.keeps I.bk
  have at_ : s.heap.get? P = some { cls := .none, data := .fields ps } := I.hok P _ hP
  refine PySem.W.kla_eval hdef ?_
  cases found : codeAmong pos ps.toList with
  | some cv =>
    obtain ⟨c', rfl, hc⟩ := among pos cv found
    refine PySem.W.kla_makeFunctionHit (mg := X.mg) clo I.ok.glob nsG hcode (TB.code.keeps I.bk) at_ triples found (TB.bm.keeps I.bk) fun ctv h' tk up _ => ?_
    exact h _ c' _ ctv H _ (I.kept fun b o e => Heap.get?_push_of_some _ (up b o e)) (.inl rfl) ⟨ps, hP, triples, among⟩ (Heap.get?_push_size _ rfl) hc
  | none =>
    refine PySem.W.kla_makeFunction (mg := X.mg) clo I.ok.glob nsG hcode (TB.code.keeps I.bk) at_ triples found TB.gP (TB.bm.keeps I.bk) fun c' ctv h' tk up ge lt rec_ tb => ?_
    obtain ⟨c2, oc, us, t, e, e1, e2, e3⟩ := rec_
    cases e
    have nC : H c' = none := I.hok.fresh ge
    have ne : c' ≠ P := fun z => by rw [z, hP] at nC; cases nC
    have J := inv_table (t' := tk) (more := #[rawInt pos.line, rawInt pos.col, .ref c']) (h' := h'.push (PySem.W.kla_obj "<lambda>" (X.env.qual ++ "<lambda>") params body lscope (cloFrom X.env.cells lscope.names []) ((X.mg "__name__").getD .none) c' ctv)) I hP (fun b o hb e => Heap.get?_push_of_some _ (up b o hb e))
      (Heap.get?_push_of_some _ tb) ge ⟨oc, us, t, Heap.get?_push_of_some _ e1, e2, e3⟩
    refine h _ c' _ ctv _ _ J (.inr ⟨_, nC, ne, rfl⟩) ⟨_, by rw [upd_ne (Ne.symm ne), upd_same], ?_, fun p cv z => ?_⟩ (Heap.get?_push_size _ rfl) upd_same
    · rw [Array.toList_append]; exact PySem.TriplesOk_snoc _ _ _ _ triples
    · rw [Array.toList_append] at z
      rcases among_app _ triples z with z | rfl
      · obtain ⟨c0, w1, w2⟩ := among p cv z
        refine ⟨c0, w1, ?_⟩
        rw [upd_ne (ne_of_none w2 nC), upd_ne fun y => by rw [y, hP] at w2; exact absurd (Option.some.inj w2).symm (codeO_ne ps)]
        exact w2
      · exact ⟨c', rfl, upd_same⟩
theorem slen_at {R : V → List Str → Prop} {nm : Str} {c P l : Addr} {params : Arguments} {body : Expr} {lscope : Scope} {pl : Pos} {x : Str} {xs : List V} {bs : List (List Str)} (calm : X.calm = true) (depth : X.A.depth < recursionLimit) (room : X.A.units + 200 < cLine) (I : Inv X pins σ H s)
    (TB : TabB X.base X.mg c P) (hcode : X.env.code = .ref c) (hq : nm = X.env.qual ++ ("<lambda>" : Str)) (tab : TabS H P nm) (ok : lamKeyB params body lscope = some x) (free : X.mg "len" = none)
    (hl : SqL X.K H l xs) (hR : ∀ y b, R y b → TupV X H y b) (rows : Paired R xs bs) (few : bs.length ≤ sizeLine) (short : ∀ b ∈ bs, (b.length : Int) < 2 ^ 63)
    (q : ∀ H2 c', Made P nm c' H H2 → TabS H2 P nm → ∀ D ys, H2 D = none → Paired R ys (bs.mergeSort (PySem.W.dataLe false keyLL)) → Q (.ref D) (upd H2 D (.lst ys))) :
    wpAny (model X.prog X.w) X.A (eval (.Lambda params body lscope pl) X.env) (fun f s1 => wpAny (model X.prog X.w) X.A (call (.builtin "sorted") [.ref l] [(("key" : Str), f)]) (EP X pins σ Q) X.xe s1) X.xe s := by
  obtain ⟨d0, k0, nofree⟩ := lamKey_facts ok
  have hdef : defaultsOf params X.env = ([], []) := defaults_none d0 k0
  obtain ⟨ps0, hP0, _⟩ := id tab
  refine lam_made I TB hcode hq tab hdef nofree fun f c' pm ctv H1 s' I1 made T1 hf hc => ?_
  have ext : ExtN H H1 := made.ext hP0
  have hl1 : SqL X.K H1 l xs := sqL_extN ext hl
  have hR1 : ∀ y b, R y b → TupV X H1 y b := fun y b h => by obtain ⟨t, e, h⟩ := hR y b h; exact ⟨t, e, sqT_extN ext h⟩
  obtain ⟨its, r, at_, hz⟩ := I1.list hl1
  obtain ⟨mL, nsL, _⟩ := I1.loc
  obtain ⟨mb, b1, b2⟩ := I1.mod.blt
  obtain ⟨⟨oc, us, tk, e1, e2, e3⟩, _⟩ := I1.hok c' _ hc
  have inBase : ∀ {a m}, X.base.Ns a m → a ≠ X.env.locals := fun {a m} ⟨o, _, _, e, _⟩ => Nat.ne_of_lt (Nat.lt_of_lt_of_le (Heap.lt_size e) (Nat.le_trans I1.ok.bsz I1.ok.above))
  refine sorted_len (R := fun v b => ∃ y, RelV y v ∧ R y b) (L := X.env.locals) ok depth (by omega) nsL (inBase I1.mod.glob) (inBase b1) (by obtain ⟨mc, h, _⟩ := I1.mod.nolimit; exact inBase h) (I1.mod.glob.keeps I1.bk) (b1.keeps I1.bk) free ((b2 "len" (by decide)).trans boot_len) I1.nolimit hf
    ⟨c', oc, us, tk, rfl, e1, e2, e3⟩ (fun e => by have := I1.free; rw [← e, hc] at this; cases this) at_.isList (fun v b ⟨y, ry, ryb⟩ => ?_) (each_rows rows r) few short fun D out cc h' tk' keep ns' nD new at' len eo => ?_
  · obtain ⟨t, ey, sq⟩ := hR1 y b ryb
    subst ey
    cases ry
    obtain ⟨its2, r2, at2, _⟩ := I1.tuple sq
    exact ⟨t, _, rfl, at2, by simpa using each_strs r2⟩
  · obtain ⟨ys, py, vy⟩ := rows_each eo
    have hD : H1 D = none := I1.hok.gone new
    have off : ∀ b o, s'.heap.get? b = some o → b ≠ D := fun b o e z => by rw [z, new] at e; cases e
    have offH : ∀ b u, H1 b = some u → b ≠ D := fun b u e z => by rw [z, hD] at e; cases e
    have len2 : ys.length ≤ sizeLine := by rw [vy.length, len]; exact few
    have J := I1.step (h' := h') (H' := upd H1 D (.lst ys)) (g' := s'.gens) (d' := s'.drawn) (t' := tk') (ch := []) (fun b hb => absurd hb (by simp)) (fun b o hb _ _ e _ => keep b o hb e) (fun b o hb _ _ e _ => ⟨o.slots, keep b o hb e⟩)
      (fun b o _ e n => by rw [upd_ne (off b o e)]; exact n)
      (fun b o _ e => by
        by_cases hb : b = X.env.locals
        · obtain ⟨o', _, _, z, _⟩ := ns'
          rw [hb]; exact ⟨o', z⟩
        · exact ⟨o, keep b o hb e⟩)
      (fun b zs e => by rw [upd_ne (offH b _ e)]; exact e) (fun b o u e => by rw [upd_ne (offH b _ e)]; exact e) (fun b ps e => ⟨#[], by rw [upd_ne (offH b _ e), e]; simp⟩)
      (fun m hn => by
        have same : m = mL := funext fun n => hn.agree nsL n
        rw [same]; exact ns')
      (fun b u e => by
        by_cases hb : b = D
        · subst hb
          rw [upd_same] at e
          cases e
          exact ⟨len2, out, cc, vy, at'⟩
        · rw [upd_ne hb] at e
          have nL : ∀ c w, H1 c = some w → c ≠ X.env.locals := fun c w z y => by rw [y, I1.free] at z; cases z
          refine (I1.hok b u e).stay (fun c v hc q => keep c v ?_ q) (fun c q => by rw [upd_ne (offH c _ q)]; exact q) fun c zs q => by rw [upd_ne (offH c _ q)]; exact q
          rcases hc with z | z
          · rw [z]; exact nL b u e
          · exact nL c _ z)
      I1.bare
    exact ⟨.ref D, _, J, rfl, q H1 c' made T1 D ys hD py⟩
end
end RD

/-! Sets of ints and texts, told by their keys: one item is put in. (Takes the place of the first half of RDs.) -/
namespace RD
open PySem PySem.Spec PyProof.Rows L2

/-- the key that a value is -/
def keyIn (v : Value) : Key := match v with
  | .int i _ => .inl i
  | .str x _ => .inr x
  | _ => .inl 0
theorem keyIn_of {k : Key} {v : Value} (r : RelV (kV k) v) : keyIn v = k := by
  cases k <;> obtain ⟨t, rfl⟩ := r <;> rfl
/-- a set's table: each entry holds a key under its own hash; ks are the keys, in whatever order they lie -/
structure Ent (P : Program) (w : World) (es : Array (Int × Value)) (t : SetTable) (ks : List Key) : Prop where
  good : ∀ e ∈ es.toList, ∃ k, RelV (kV k) e.2 ∧ e.1 = (mixKind P w).hash k
  keys : (es.toList.map fun e => keyIn e.2).Perm ks
  fits : t.fits es.size = true
  rise : L2.Ris t.place.toList
  led : w.params.followText "set-order" = true ∨ t.led = true
  room : es.size < scanBound
def KeySet (P : Program) (w : World) (h : Heap) (a : Addr) (ks : List Key) : Prop :=
  ∃ o es ep t, h.get? a = some o ∧ o.ExactSet ∧ o.data = .set es ep t ∧ Ent P w es t ks
section
variable {P : Program} {w : World} {es : Array (Int × Value)} {t : SetTable} {ks : List Key}
theorem Ent.size (e : Ent P w es t ks) : es.size = ks.length := by
  have := e.keys.length_eq
  simpa using this
theorem is_key_iff {k j : Key} {v : Value} (r : RelV (kV j) v) : (mixKind P w).is k v = true ↔ j = k := by
  cases j <;> cases k <;> obtain ⟨tk, rfl⟩ := r <;> simp [mixKind, keyIs, Value.isInt, Value.isStrOf]
theorem Ent.elems (e : Ent P w es t ks) : ElemsOf (mixKind P w) es.toList := fun x hx => by
  obtain ⟨k, rk, hk⟩ := e.good x hx
  exact ⟨⟨k, (is_key_iff rk).mpr rfl, hk⟩, key_scan rk⟩
/-- the place of a key among the entries -/
theorem Ent.find (e : Ent P w es t ks) (k : Key) : (es.toList.findIdx? fun x => (mixKind P w).is k x.2) = none ↔ k ∉ ks := by
  rw [List.findIdx?_eq_none_iff]
  constructor
  · intro no hm
    obtain ⟨x, hx, hxk⟩ := List.mem_map.mp (e.keys.mem_iff.mpr hm)
    obtain ⟨j, rj, _⟩ := e.good x hx
    have := no x hx
    rw [(is_key_iff rj).mpr ((keyIn_of rj).symm.trans hxk)] at this
    cases this
  · intro hk x hx
    obtain ⟨j, rj, _⟩ := e.good x hx
    cases q : (mixKind P w).is k x.2 with
    | false => rfl
    | true =>
      have ej := (is_key_iff rj).mp q
      exact (hk (e.keys.mem_iff.mp (List.mem_map.mpr ⟨x, hx, (keyIn_of rj).trans ej⟩))).elim
/-- a new entry laid, whether or not the table is laid out anew behind it -/
theorem Ent.grow (e : Ent P w es t ks) {k : Key} {u : Value} (ru : RelV (kV k) u) (room : ks.length + 1 < scanBound) {es' : Array (Int × Value)} {t' : SetTable}
    (pm : es'.toList.Perm (es.push ((mixKind P w).hash k, u)).toList) (fits : t'.fits es'.size = true) (rise : L2.Ris t'.place.toList) (led : t'.led = t.led) : Ent P w es' t' (ks ++ [k]) where
  good := fun x hx => by
    have hx' : x ∈ es.toList ++ [((mixKind P w).hash k, u)] := by simpa using pm.mem_iff.mp hx
    rcases List.mem_append.mp hx' with h | h
    · exact e.good x h
    · rw [List.mem_singleton.mp h]; exact ⟨k, ru, rfl⟩
  keys := by
    refine (pm.map _).trans ?_
    rw [Array.toList_push, List.map_append]
    simpa [keyIn_of ru] using e.keys.append_right [k]
  fits := fits
  rise := rise
  led := by rw [led]; exact e.led
  room := by
    have h1 : es'.size = es.size + 1 := by simpa using pm.length_eq
    rw [h1, e.size]; exact room
variable {A : Around} {E : Value → Shared → Prop} {s : Shared} {a : Addr}
/-- the keys met so far, one more met -/
def meet1 (ks : List Key) (k : Key) : List Key := if (ks.any fun j => decide (j = k)) = true then ks else ks ++ [k]
theorem any_mem {ks : List Key} {k : Key} : (ks.any fun j => decide (j = k)) = true ↔ k ∈ ks := by
  rw [List.any_eq_true]
  exact ⟨fun ⟨j, hj, e⟩ => (of_decide_eq_true e) ▸ hj, fun h => ⟨k, h, decide_eq_true rfl⟩⟩
/-- the table stored at a: the set tells its keys -/
theorem stored {es' : Array (Int × Value)} {t' : SetTable} {o : Obj} {ep : Nat} (ho : s.heap.get? a = some o) (ex : o.ExactSet) (hd : o.data = .set es ep t) {ks' : List Key} (e' : Ent P w es' t' ks') :
    KeySet P w (s.heap.update a (Obj.putSet es' t')) a ks' ∧ ∃ o2, (s.heap.update a (Obj.putSet es' t')).get? a = some o2 ∧ o2.ExactSet ∧ o2.data = .set es' (ep + 1) t' := by
  obtain ⟨at_, _⟩ := SetOf_store (knd := mixKind P w) (S' := fun k => es'.toList.any fun x => (mixKind P w).is k x.2) ho ex hd (es' := es') (t' := t') e'.elems (fun k => List.any_eq_true) e'.room e'.fits
  exact ⟨⟨_, es', ep + 1, t', at_, ⟨ex.1, ex.2.1, ex.2.2⟩, rfl, e'⟩, _, at_, ⟨ex.1, ex.2.1, ex.2.2⟩, rfl⟩
/-- what is wanted behind a new item -/
def PutEnd (P : Program) (w : World) (s : Shared) (a : Addr) (ks : List Key) (R : Bool → Shared → Prop) (k : Key) : Prop :=
  ∀ h', Heap.SameBut a s.heap h' → KeySet P w h' a (meet1 ks k) → ∀ b, R b { s with heap := h' }
theorem Ent.plainOff {b : Bool} (e : Ent P w es t ks) : Ent P w es (if b = true then t else { t with plain := false }) ks := by
  cases b
  · exact ⟨e.good, e.keys, SetTable.fits_plain_off e.fits, e.rise, e.led, e.room⟩
  · exact e
/-- the laid table stored, laid out anew where it is too full; g: the rule that tells of a table that gave way -/
theorem lay_down {g : Bool → Sem Unit} (silent : ∀ (b : Bool) (s1 : Shared) (Q : Unit → Shared → Prop), Q () s1 → wpAny (model P w) A (g b) Q E s1) {o : Obj} {ep : Nat} {es1 : Array (Int × Value)} {t2 : SetTable} {ks' : List Key} {dummy : Bool} {R : Option Bool → Shared → Prop}
    (ho : s.heap.get? a = some o) (ex : o.ExactSet) (hd : o.data = .set es ep t) (e : Ent P w es1 t2 ks') (q : ∀ h', Heap.SameBut a s.heap h' → KeySet P w h' a ks' → R (some true) { s with heap := h' }) :
    wpAny (model P w) A (storeSet a es1 t2 >>= fun _ => if (!dummy && t2.tooFull) = true then g (relayAll t2 es1 (SetTable.grown es1.size)).2.2 >>= fun _ =>
      storeSet a (relayAll t2 es1 (SetTable.grown es1.size)).1 (relayAll t2 es1 (SetTable.grown es1.size)).2.1 >>= fun _ => pure (some true) else pure (some true)) R E s := by
  obtain ⟨k1, o2, h2, ex2, d2⟩ := stored ho ex hd e
  refine wpAny_bind (wpAny_storeSet_of ho hd ?_ (fits_of_scanBound e.room))
  split
  · have pm := relayAll_perm t2 es1 (SetTable.grown es1.size)
    have e2 : Ent P w (relayAll t2 es1 (SetTable.grown es1.size)).1 (relayAll t2 es1 (SetTable.grown es1.size)).2.1 ks' := {
      good := fun x hx => e.good x (pm.mem_iff.mp hx)
      keys := (pm.map _).trans e.keys
      fits := relayAll_fits ..
      rise := relayAll_ris ..
      led := by rw [relayAll_led]; exact e.led
      room := by have := pm.length_eq; simp only [Array.length_toList] at this; rw [this]; exact e.room }
    refine wpAny_bind (silent _ _ _ (wpAny_bind (wpAny_storeSet_of (s := { s with heap := s.heap.update a (Obj.putSet es1 t2) }) h2 d2 (wpAny_pure (q _ ?_ (stored (s := { s with heap := s.heap.update a (Obj.putSet es1 t2) }) h2 ex2 d2 e2).1)) (fits_of_scanBound e2.room))))
    exact (Heap.SameBut.update ..).trans (Heap.SameBut.update ..)
  · exact wpAny_pure (q _ (Heap.SameBut.update ..) k1)
theorem put_in {k : Key} {u : Value} {R : Bool → Shared → Prop} (ru : RelV (kV k) u) (S : KeySet P w s.heap a ks) (room : ks.length + 1 < scanBound) (q : PutEnd P w s a ks R k) :
    wpAny (model P w) A (setAddHashed a u ((mixKind P w).hash k)) R E s := by
  obtain ⟨o, es, ep, t, ho, ex, hd, e⟩ := S
  have scan : byScan u es = true := byScan_of (key_scan ru) e.room e.elems
  unfold setAddHashed
  refine wpAny_holding ?_
  rw [show (100000 : Nat) = 99999 + 1 from rfl, setAddHashedIn]
  refine wpAny_bind (wpAny_setState_of ho hd e.fits ?_)
  simp only [scan, if_true]
  unfold setAddByScan
  refine wpAny_bind (wpAny_bind (wpAny_rule (wpAny_bind (wpAny_setScan_of ((is_key_iff ru).mpr rfl) ho hd e.fits e.elems ?_))))
  cases met : es.toList.findIdx? fun x => (mixKind P w).is k x.2 with
  | some j =>
    have hm : k ∈ ks := Classical.byContradiction fun hn => by rw [(e.find k).mpr hn] at met; cases met
    refine wpAny_pure (wpAny_pure (q s.heap (Heap.SameBut.refl _ _) ?_ _))
    rw [meet1, if_pos (any_mem.mpr hm)]
    exact ⟨o, es, ep, t, ho, ex, hd, e⟩
  | none =>
    have hn : k ∉ ks := (e.find k).mp met
    have e1 := e.grow ru room (layNew_perm t es _ u) (layNew_fits t es _ u) (layNew_ris t es _ u e.rise) (layNew_led t es _ u)
    have keys : meet1 ks k = ks ++ [k] := by rw [meet1, if_neg fun h => hn (any_mem.mp h)]
    rw [← keys] at e1
    dsimp only
    generalize layNew t es ((mixKind P w).hash k) u = laid at e1
    obtain ⟨es1, t1, dummy, gave⟩ := laid
    dsimp only at e1 ⊢
    refine wpAny_bind ?_
    refine (show ∀ {r : Sem Unit} {Q : Unit → Shared → Prop}, (∀ Q : Unit → Shared → Prop, Q () s → wpAny (model P w) A r Q E s) → Q () s → wpAny (model P w) A r Q E s from fun h q => h _ q) (fun Q h => by cases gave <;> first | exact wpAny_rule h | exact wpAny_pure h) ?_
    have last : ∀ h', Heap.SameBut a s.heap h' → KeySet P w h' a (meet1 ks k) → wpAny (model P w) A (pure true) R E { s with heap := h' } := fun h' sb ks' => wpAny_pure (q h' sb ks' true)
    by_cases pl : t1.plain = true
    · rw [if_pos pl, hashByValue_scannable 8 (key_scan ru)]
      refine wpAny_bind (wpAny_pure ?_)
      exact lay_down (fun b s1 Q h => by cases b <;> first | exact wpAny_rule h | exact wpAny_pure h) ho ex hd (e1.plainOff (b := plainKind u)) last
    · rw [if_neg pl]
      exact lay_down (fun b s1 Q h => by cases b <;> first | exact wpAny_rule h | exact wpAny_pure h) ho ex hd e1 last
end
end RD

/-! A set filled from whatever is walked. -/
namespace RD
open PySem PySem.Spec PyProof.Rows L2
section
variable {P : Program} {w : World} {A : Around} {E : Value → Shared → Prop} {s : Shared} {a : Addr}
/-- what a key's hash is, asked of its value -/
theorem hash_of {k : Key} {u : Value} {R : Int → Shared → Prop} (ru : RelV (kV k) u) (q : R ((mixKind P w).hash k) { s with toks := s.toks + 1 }) : wpAny (model P w) A (pyHash u) R E s := by
  cases k with
  | inl i => obtain ⟨t, rfl⟩ := ru; exact wpAny_pyHash_int q
  | inr x => obtain ⟨t, rfl⟩ := ru; exact wpAny_pyHash_str q
theorem add_one {k : Key} {u : Value} {ks : List Key} {R : Bool → Shared → Prop} (ru : RelV (kV k) u) (S : KeySet P w s.heap a ks) (room : ks.length + 1 < scanBound)
    (q : ∀ h', Heap.SameBut a s.heap h' → KeySet P w h' a (meet1 ks k) → ∀ b, R b { s with heap := h', toks := s.toks + 1 }) : wpAny (model P w) A (setAdd a u) R E s := by
  unfold setAdd
  exact wpAny_holding (wpAny_bind (hash_of ru (put_in (s := { s with toks := s.toks + 1 }) ru S room fun h' sb S' b => q h' sb S' b)))
theorem meet1_len (ks : List Key) (k : Key) : (meet1 ks k).length ≤ ks.length + 1 := by
  unfold meet1
  split <;> simp
theorem KeySet.kept {h h' : Heap} {ks : List Key} (S : KeySet P w h a ks) (k : ∀ o, h.get? a = some o → h'.get? a = some o) : KeySet P w h' a ks := by
  obtain ⟨o, es, ep, t, ho, r⟩ := S
  exact ⟨o, es, ep, t, k o ho, r⟩
/-- more may have been written -/
theorem wider {wr wr' : List Addr} {G : Array GenState → Array GenState → Prop} {s s' : Shared} (m : Moved wr G s s') (h : ∀ b ∈ wr, b ∈ wr') : Moved wr' G s s' :=
  { m with heap := fun b o hb e => m.heap b o (fun z => hb (h b z)) e }
theorem after {wr : List Addr} {G : Array GenState → Array GenState → Prop} (tr : ∀ x y z, G x y → G y z → G x z) {s s1 s2 : Shared} (m : Moved wr G s s1) (m2 : Moved wr G s1 s2) : Moved wr G s s2 where
  heap := fun b o hb e => m2.heap b o hb (m.heap b o hb e)
  gens := tr _ _ _ m.gens m2.gens
  drawn := m2.drawn.trans m.drawn
  os := m2.os.trans m.os
  toks := Nat.le_trans m.toks m2.toks
/-- the keys of the turns from i on, met one after another -/
def meetFrom (key : Nat → Key) (i n : Nat) (ks : List Key) : List Key := ((List.range' i (n - i)).map key).foldl meet1 ks
theorem meetFrom_step {key : Nat → Key} {i n : Nat} {ks : List Key} (h : i < n) : meetFrom key i n ks = meetFrom key (i + 1) n (meet1 ks (key i)) := by
  unfold meetFrom
  rw [show n - i = (n - (i + 1)) + 1 by omega, List.range'_succ]
  rfl
theorem meetFrom_end {key : Nat → Key} {n : Nat} {ks : List Key} : meetFrom key n n ks = ks := by simp [meetFrom]
variable {I : Addr} {fp wr : List Addr} {G : Array GenState → Array GenState → Prop} {n : Nat} {Pv : Nat → Value → Prop} {St : Nat → Shared → Prop} {R : Result → Shared → Prop}
theorem fill (W : WalksS P w A.in1 I fp wr G n Pv St) (off : a ∉ fp) (key : Nat → Key) (val : ∀ i v, Pv i v → RelV (kV (key i)) v) (room : n + 1 < scanBound) : ∀ (left i : Nat) (s : Shared) (ks : List Key), n - i = left → i ≤ n → St i s → ks.length ≤ i → KeySet P w s.heap a ks →
    (∀ s', Moved (a :: wr) G s s' → KeySet P w s'.heap a (meetFrom key i n ks) → R (.ok (.ret .none)) s') → codeAny (model P w) A (.builtin "set.update.loop" ⟨[.ref a, .ref I], []⟩) R s := by
  have offw : a ∉ wr := fun h => off (W.sub _ h)
  intro left
  induction left with
  | zero =>
    intro i s ks hl hi st len S q
    obtain rfl : i = n := by omega
    refine codeAny_builtin PyProof.Rows.F.entry_set_update_loop ?_
    rw [Around.under_plainId PyProof.Rows.F.plain_set_update_loop]
    show wpAny (model P w) A.in1 (pyNext (.ref I) >>= _) _ _ s
    refine wpAny_bind (W.done s _ _ st fun s' m => wpAny_pure (q s' (wider m fun b hb => List.mem_cons_of_mem _ hb) ?_))
    rw [meetFrom_end]
    exact S.kept fun o e => m.heap a o offw e
  | succ left ih =>
    intro i s ks hl hi st len S q
    have hlt : i < n := by omega
    refine codeAny_builtin PyProof.Rows.F.entry_set_update_loop ?_
    rw [Around.under_plainId PyProof.Rows.F.plain_set_update_loop]
    show wpAny (model P w) A.in1 (pyNext (.ref I) >>= _) _ _ s
    refine wpAny_bind (W.item i s _ _ hlt st fun v s1 hv st1 m1 => ?_)
    have S1 := S.kept fun o e => m1.heap a o offw e
    refine wpAny_bind (wpAny_holding (add_one (val i v hv) S1 (by omega) fun h' sb S2 b => ?_))
    have quiet : (Code.builtin "set.update.loop" ⟨[.ref a, .ref I], []⟩).quiet = true := plainId_quiet PyProof.Rows.F.plain_set_update_loop _
    refine wpAny_pure ⟨quiet, ?_⟩
    have st2 := W.frame (i + 1) s1 h' (s1.toks + 1) st1 (Nat.le_succ _) fun b hb o e => sb.extBut b o (fun z => off (z ▸ hb)) e
    have m2 : Moved (a :: wr) G s1 { s1 with heap := h', toks := s1.toks + 1 } := ⟨fun b o hb e => sb.extBut b o (fun z => hb (by simp [z])) e, W.grefl _, rfl, rfl, Nat.le_succ _⟩
    have m12 := after W.gtrans (wider m1 fun b hb => List.mem_cons_of_mem _ hb) m2
    refine ih (i + 1) _ (meet1 ks (key i)) (by omega) hlt st2 (by have := meet1_len ks (key i); omega) S2 fun s' m' S' => q s' (after W.gtrans m12 m') ?_
    rw [meetFrom_step hlt]; exact S'
end
end RD

/-! A built-in type called, where what its __init__ checks hangs on the state. -/
namespace RD
open PySem PySem.Spec PyProof.Rows L2
section
variable {P : Program} {w : World} {A : Around} {E : Value → Shared → Prop} {s : Shared}
theorem type_called {T newId initId : String} {args : List Value} {Q R : Value → Shared → Prop} (ft : TypeCalled T newId initId) (ck : checkTypeCall T ⟨args, []⟩ = pure ())
    (made : codeAny (model P w) A.in1 (.call (.builtin newId) ⟨.type T :: args, []⟩) (wants R E) s)
    (next : ∀ obj s1, R obj s1 → s1.TypeIs obj T ∧ wpAny (model P w) A.in1 (callSpecial? obj "__init__" args) (fun r s2 => r = some .none ∧ Q obj s2) E s1) : wpAny (model P w) A (call (.type T) args) Q E s := by
  refine wpAny_call (codeAny_of_tree (wpAny_pure ⟨Code.quiet_builtin _ (by decide +kernel), codeAny_builtin PySem.F.entry_type_call ?_⟩))
  rw [Around.under_plain (weight_type_call_type T args []) (units_type_call_type T args [])]
  obtain ⟨c, tl, mro⟩ := ft.mro
  unfold Builtin.«type.__call__»
  simp only [ft.notType, Bool.false_eq_true, if_false, ft.canCreate]
  refine wpAny_bind (wpAny_of_eq ck ?_)
  refine wpAny_bind (wpAny_of_eq mro ?_)
  rw [if_neg (show ¬ (c :: tl).isEmpty = true from Bool.false_ne_true)]
  refine wpAny_bind (wpAny_of_eq ft.made ?_)
  dsimp only
  refine wpAny_bind (wpAny_pure (wpAny_bind (wpAny_holding (wpAny_call (codeAny_mono made fun r s1 hr => ?_)))))
  cases r with
  | error e => exact hr
  | ok fl =>
    cases fl with
    | ret obj =>
      obtain ⟨is, ini⟩ := next obj s1 hr
      refine wpAny_bind (wpAny_isInstance is ft.sub ?_)
      simp only [Bool.not_true, Bool.false_eq_true, if_false]
      refine wpAny_bind (wpAny_holding (wpAny_mono ini (fun r s2 hq => ?_) fun _ _ h => h))
      obtain ⟨rfl, hq⟩ := hq
      exact wpAny_pure hq
    | next => exact hr.elim
    | brk => exact hr.elim
    | cont => exact hr.elim
end
end RD

/-! set(xs) of a list or a tuple of ints and texts. -/
namespace RD
open PySem PySem.Spec PyProof.Rows L2
section
variable {P : Program} {w : World} {A : Around} {E : Value → Shared → Prop} {s : Shared} {a l : Addr}
theorem fresh_set {led : Bool} (h : w.params.followText "set-order" = true ∨ led = true) {hp : Heap} (ho : hp.get? a = some { cls := .type "set", dict := none, data := .set #[] 0 (.fresh 0 0 led) }) : KeySet P w hp a [] :=
  ⟨_, #[], 0, _, ho, ⟨rfl, rfl, rfl⟩, rfl, { good := fun e he => by simp at he, keys := by simp, fits := rfl, rise := List.Pairwise.nil, led := h, room := by decide }⟩
/-- a thing that is walked and is neither a set nor a dict: what set(..) asks of it -/
structure Walked (P : Program) (w : World) (A : Around) (h : Heap) (l : Addr) (key : Nat → Key) (n : Nat) : Prop where
  type : ∃ T, (T = "list" ∨ T = "tuple") ∧ ∃ o, h.get? l = some o ∧ o.cls = .type T
  iter : ∀ (s : Shared) (Q : Value → Shared → Prop) (E : Value → Shared → Prop), (∀ b o, h.get? b = some o → s.heap.get? b = some o) →
    (∀ I h' St, (∀ b o, s.heap.get? b = some o → h'.get? b = some o) → s.heap.get? I = none → I < h'.objs.size →
      WalksS P w A.in1 I [I, l] [I] (fun x y => y = x) n (fun i v => RelV (kV (key i)) v) St → St 0 { s with heap := h' } → Q (.ref I) { s with heap := h' }) → wpAny (model P w) A (pyIter (.ref l)) Q E s
theorem init_set {key : Nat → Key} {n : Nat} {Q : PySem.Fin → Shared → Prop} (W : ∀ A' : Around, A'.handled = A.handled → Walked P w A' s.heap l key n) (S : ∃ led, (w.params.followText "set-order" = true ∨ led = true) ∧ s.heap.get? a = some { cls := .type "set", dict := none, data := .set #[] 0 (.fresh 0 0 led) })
    (room : n + 1 < scanBound) (q : ∀ s', (∀ b o, b ≠ a → s.heap.get? b = some o → s'.heap.get? b = some o) → s'.gens = s.gens → s'.drawn = s.drawn → s'.os = s.os → KeySet P w s'.heap a (meetFrom key 0 n []) → Q (.done (.ret .none)) s') :
    wpAny (model P w) A (Builtin.«set.__init__» ⟨[.ref a, .ref l], []⟩) Q E s := by
  obtain ⟨led, hl, ho⟩ := S
  unfold Builtin.«set.__init__»
  have isSet : s.TypeIs (.ref a) "set" := ⟨_, ho, rfl⟩
  obtain ⟨T, hT, ol, hol, hcl⟩ := (W A rfl).type
  have isSeq : s.TypeIs (.ref l) T := ⟨ol, hol, hcl⟩
  have noSet : isSubtype (.type T) (.type "set") = pure false ∧ isSubtype (.type T) (.type "frozenset") = pure false ∧ (Value.type T == Value.type "dict") = false := by
    rcases hT with rfl | rfl
    · exact ⟨PySem.F.sub_list_set, PySem.F.sub_list_frozenset, rfl⟩
    · exact ⟨PySem.F.sub_tuple_set, PySem.F.sub_tuple_frozenset, rfl⟩
  refine wpAny_bind (wpAny_pure ?_)
  show wpAny _ _ (typeNameOfCut 200 (.ref a) >>= _) _ _ s
  refine wpAny_bind ?_
  unfold typeNameOfCut shownTypeOf
  refine wpAny_bind (wpAny_bind (wpAny_typeOf isSet ?_))
  rw [if_neg (show ¬ (Value.type "set" == Value.type "builtin_function_or_method") = true from Bool.false_ne_true)]
  refine wpAny_pure (wpAny_pure ?_)
  refine wpAny_bind (m := checkCount _ 0 1 _) (wpAny_pure ?_)
  refine wpAny_bind (m := Builtin.Frozenset.addrOf _) (wpAny_pure ?_)
  unfold setUsed
  refine wpAny_bind (wpAny_bind (wpAny_setState_of ho rfl rfl (wpAny_pure ?_)))
  rw [if_neg (show ¬ ((#[], 0, SetTable.fresh 0 0 led).snd.snd.fill != 0) = true from Bool.false_ne_true)]
  dsimp only
  refine wpAny_bind ?_
  unfold Builtin.Frozenset.updateFrom
  refine wpAny_bind (m := Builtin.Frozenset.isAnySet _) ?_
  unfold Builtin.Frozenset.isAnySet
  refine wpAny_bind (wpAny_isInstance isSeq noSet.1 (wpAny_isInstance isSeq noSet.2.1 ?_))
  simp only [Bool.false_eq_true, if_false]
  refine wpAny_bind (wpAny_typeOf isSeq ?_)
  rw [if_neg (by rw [noSet.2.2]; exact Bool.false_ne_true)]
  refine wpAny_bind ((W A rfl).iter s _ _ (fun _ _ h => h) fun I h' St k1 hI hlt WS st => ?_)
  have offI : a ∉ [I, l] := fun hm => by
    simp only [List.mem_cons, List.not_mem_nil, or_false] at hm
    rcases hm with rfl | rfl
    · rw [hI] at ho; cases ho
    · rw [ho] at hol
      have same : Value.type "set" = Value.type T := by rw [← hcl, ← Option.some.inj hol]
      rcases hT with rfl | rfl <;> exact absurd (Value.type.inj same) (by decide)
  refine wpAny_bind (wpAny_runValue (fill WS offI key (fun _ _ h => h) room n 0 { s with heap := h' } [] rfl (Nat.zero_le _) st (Nat.le_refl _) ((fresh_set hl ho).kept fun o e => k1 a o e) fun s' m S' => wpAny_pure (wpAny_pure ?_)))
  refine q s' (fun b o hb e => m.heap b o ?_ (k1 b o e)) m.gens m.drawn m.os S'
  intro hm
  simp only [List.mem_cons, List.not_mem_nil, or_false] at hm
  rcases hm with rfl | rfl
  · exact hb rfl
  · rw [hI] at e; cases e
/-- a new set, whatever is to fill it -/
theorem new_set {x : Value} {R : Value → Shared → Prop} (q : ∀ led, (w.params.followText "set-order" = true ∨ led = true) → R (.ref s.heap.objs.size) { s with heap := s.heap.push { cls := .type "set", dict := none, data := .set #[] 0 (.fresh 0 0 led) } }) :
    codeAny (model P w) A (.call (.builtin "set.__new__") ⟨[.type "set", x], []⟩) (wants R E) s := by
  refine codeAny_call_builtin PySem.F.plain_set_new PySem.F.entry_set_new ?_
  refine wpAny_of_eq (a := ()) (by kernel_rfl) ?_
  unfold Builtin.«set.__new__»
  refine wpAny_bind (wpAny_of_eq (a := (Value.type "set", [x])) (by kernel_rfl) (wpAny_bind ?_))
  unfold newSet setsByText
  refine wpAny_bind (wpAny_bind (wpAny_askSetting (wpAny_pure (wpAny_newObj_type (wpAny_pure (q _ ?_))))))
  show w.params.followText "set-order" = true ∨ (!w.params.followText "set-order") = true
  cases w.params.followText "set-order"
  · exact .inr rfl
  · exact .inl rfl
/-- set's __init__ takes one thing to be walked -/
theorem set_check {M : Model} {x self : Value} {R : Unit → Shared → Prop} (is : s.TypeIs self "set") (q : R () s) : wpAny M A (checkBuiltinCall "set.__init__" ⟨[self, x], []⟩) R E s := by
  unfold checkBuiltinCall
  rw [PySem.kind_set_init, PySem.split_set_init, PySem.sig_set_init]
  refine wpAny_bind (wpAny_isInstance is PySem.sub_set_self ?_)
  simp only [Bool.not_true, if_false, Bool.false_eq_true]
  show wpAny M A (Bind.checkArgs "set.__init__" _ ⟨[self, x], []⟩) R E s
  unfold Bind.checkArgs
  refine wpAny_bind (m := Bind.printed "set" true _ _) (printed_name (by decide) (wpAny_bind (m := Bind.printed "*" false _ _) (printed_star (self := self) rfl is fun short => ?_)))
  have fine : Bind.check ⟨.positional, "set", "*", .self, [⟨"iterable", .posOnly, false⟩]⟩ "set" short 1 [] = pure () := by
    simp [Bind.check, Bind.checkCount, Bind.isPositional, show (Manifest.ParamKind.posOnly == Manifest.ParamKind.posOnly) = true from rfl]
  show wpAny M A (Sem.onRaise (Bind.check ⟨.positional, "set", "*", .self, [⟨"iterable", .posOnly, false⟩]⟩ "set" short 1 []) _) R E s
  rw [fine]
  exact wpAny_pure q
theorem set_call {key : Nat → Key} {n : Nat} {Q : Value → Shared → Prop} (W : ∀ (A' : Around) (h : Heap), A'.handled = A.handled → (∀ b o, s.heap.get? b = some o → h.get? b = some o) → Walked P w A' h l key n) (hl : l < s.heap.objs.size) (room : n + 1 < scanBound)
    (q : ∀ s', (∀ b o, s.heap.get? b = some o → s'.heap.get? b = some o) → s'.gens = s.gens → s'.drawn = s.drawn → s'.os = s.os → KeySet P w s'.heap s.heap.objs.size (meetFrom key 0 n []) → Q (.ref s.heap.objs.size) s') :
    wpAny (model P w) A (call (.type "set") [.ref l]) Q E s := by
  refine type_called (R := fun v s1 => v = .ref s.heap.objs.size ∧ ∃ led, (w.params.followText "set-order" = true ∨ led = true) ∧ s1 = { s with heap := s.heap.push { cls := .type "set", dict := none, data := .set #[] 0 (.fresh 0 0 led) } }) PySem.F.called_set (by kernel_rfl) (new_set fun led hl => ⟨rfl, led, hl, rfl⟩) ?_
  rintro obj s1 ⟨rfl, led, hled, rfl⟩
  have up : ∀ b o, s.heap.get? b = some o → (s.heap.push { cls := .type "set", dict := none, data := .set #[] 0 (.fresh 0 0 led) }).get? b = some o := fun b o e => Heap.get?_push_of_some _ e
  have at_ : (s.heap.push { cls := .type "set", dict := none, data := .set #[] 0 (.fresh 0 0 led) }).get? s.heap.objs.size = some { cls := .type "set", dict := none, data := .set #[] 0 (.fresh 0 0 led) } := Heap.get?_push_size _ rfl
  have is : Shared.TypeIs { s with heap := s.heap.push { cls := .type "set", dict := none, data := .set #[] 0 (.fresh 0 0 led) } } (.ref s.heap.objs.size) "set" := ⟨_, at_, rfl⟩
  refine ⟨is, wpAny_callSpecial?_slot is PySem.F.called_set.init (wpAny_call (codeAny_call_builtin (by decide +kernel) PySem.F.entry_set_init (set_check is ?_)))⟩
  have ran := init_set (s := { s with heap := s.heap.push { cls := .type "set", dict := none, data := .set #[] 0 (.fresh 0 0 led) } }) (a := s.heap.objs.size) (l := l) (A := A.in1.in1) (E := fun e s' => E e s') (Q := fun f s' => f = .done (.ret .none) ∧ Q (.ref s.heap.objs.size) s') (fun A' h => W A' _ h up) ⟨led, hled, at_⟩ room
    fun s' k g d os S => ⟨rfl, q s' (fun b o e => k b o (Nat.ne_of_lt (Heap.lt_size e)) (up b o e)) g d os S⟩
  refine wpAny_mono ran (fun f s' hf => ?_) fun _ _ h => h
  obtain ⟨rfl, hq⟩ := hf
  exact ⟨rfl, hq⟩
end
end RD

/-! sorted(t) of a tuple: the items are gathered (wpAny_collect_seq), laid as a new list, and that list is sorted (list_sort_data). -/
namespace RD
open PySem PySem.Calls PySem.W PyProof.Rows
/-- what sorted(t) leaves: behind the gathering (g) a new list with the items in order, all else as it was -/
def SortedEnd {β : Type} (R : Value → β → Prop) (h : Heap) (m : List β) (Q : Value → Shared → Prop) (s : Shared) : Prop :=
  ∀ (g : Heap) (p : Addr) (out : List Value) (c : Nat) (h' : Heap), (∀ b o, h.get? b = some o → g.get? b = some o) → g.objs.size ≤ p → (∀ b o, g.get? b = some o → h'.get? b = some o) →
    out.length = m.length → EachIs R out m → h'.get? p = some (seqObj "list" out.toArray c) → Q (.ref p) { s with heap := h' }
section
variable {prog : Program} {w : World} {A : Around} {E : Value → Shared → Prop} {s : Shared}
/-- sorted(x), whatever x is, once its items are gathered: vs, in the heap g -/
theorem sorted_by {β : Type} {x : Addr} {bs : List β} {enc : β → PyData} {R : Value → β → Prop} {Q : Value → Shared → Prop} (al : AllAlike (bs.map enc)) (so : Sortable (bs.map enc)) (hz : bs.length ≤ sizeLine)
    (room : ∀ b ∈ bs, A.units + 3 + (enc b).depth < cLine)
    (gather : ∀ (Z : List Value → Shared → Prop), (∀ vs ms s', ms.Perm bs → EachIs R vs ms → EachIs (fun v b => ∃ as, Reads s'.heap v (enc b) as) vs ms → (∀ p out c h', s'.heap.objs.size ≤ p → (∀ b o, s'.heap.get? b = some o → h'.get? b = some o) → out.length = bs.length → EachIs R out (ms.mergeSort (dataLe false enc)) →
        h'.get? p = some (seqObj "list" (List.toArray out) c) → Q (.ref p) { s' with heap := h' }) → Z vs s') → wpAny (model prog w) A.in1 (collect (.ref x)) Z E s) : wpAny (model prog w) A (call (.builtin "sorted") [.ref x]) Q E s := by
  refine call_function_entry_kw (kw := []) kind_sorted plain_sorted entry_sorted (args_sorted1 _) ?_
  unfold Builtin.«sorted»
  refine wpAny_bind (m := checkCount "sorted" 1 1 _) (wpAny_pure (wpAny_bind (gather _ fun vs ms s' pm hR hread q => ?_)))
  have hn : vs.length = bs.length := hR.length.trans pm.length_eq
  refine wpAny_bind (wpAny_newList ?_ (by rw [hn]; exact hz))
  -- the new list stands at the heap's end; nothing that was read lies there
  generalize hp : s'.heap.objs.size = p
  have new_at : (s'.heap.push (seqObj "list" vs.toArray 0)).get? p = some (seqObj "list" vs.toArray 0) := by rw [← hp]; exact Heap.get?_push_size _ rfl
  have upto : ∀ b o, s'.heap.get? b = some o → (s'.heap.push (seqObj "list" vs.toArray 0)).get? b = some o := fun b o e => Heap.get?_push_of_some _ e
  have apart : EachIs (fun v b => ∃ as, Reads (s'.heap.push (seqObj "list" vs.toArray 0)) v (enc b) as ∧ p ∉ as) vs ms := hread.mono fun v b ⟨as, r⟩ => ⟨as, Reads.keeps upto r, fun hm => by
    obtain ⟨o', e⟩ := PyProof.On.reads_mem_get r p hm
    exact Nat.lt_irrefl _ (hp ▸ Heap.lt_size e)⟩
  have sub : ∀ d ∈ ms.map enc, d ∈ bs.map enc := fun d hd => (pm.map enc).mem_iff.mp hd
  have al' : AllAlike (ms.map enc) := fun d hd d' hd' => al d (sub d hd) d' (sub d' hd')
  have so' : Sortable (ms.map enc) := by
    rcases so with h | h
    · exact .inl fun d hd => h d (sub d hd)
    · exact .inr fun d hd => h d (sub d hd)
  refine wpAny_bind (wpAny_holding (list_sort_data (R := R) (enc := enc) (bs := ms) (vs := vs) (n := 0) (a := p) (by simpa using new_at) hR (by simpa using apart) al' so' (by rw [pm.length_eq]; exact hz) (fun b hb => by have := room b (pm.mem_iff.mp hb); simp only [Around.in1] at *; omega) fun out ho hout => ?_))
  obtain ⟨c, at_⟩ := sortedHeap_at (out := out.toArray) new_at
  refine wpAny_pure ⟨_, rfl, q p out c _ (Nat.le_of_eq hp) (fun b o e => ?_) (ho.trans pm.length_eq) hout (by simpa using at_)⟩
  have hb : b < s'.heap.objs.size := Heap.lt_size e
  have far := sortedHeap_old (h := s'.heap.push (seqObj "list" vs.toArray 0)) (a := p) (vs := vs) (out := out.toArray) (b := b) (Nat.ne_of_lt (hp ▸ hb)) (by rw [Heap.size_push]; exact Nat.lt_succ_of_lt hb)
  simpa using far.trans (Heap.get?_push_of_some _ e)
theorem sorted_tupD {β : Type} {vs : List Value} {bs : List β} {enc : β → PyData} {R : Value → β → Prop} {l : Addr} {Q : Value → Shared → Prop}
    (ht : IsTup s.heap l vs.toArray) (hR : EachIs R vs bs) (hread : EachIs (fun v b => ∃ as, Reads s.heap v (enc b) as) vs bs) (al : AllAlike (bs.map enc)) (so : Sortable (bs.map enc)) (hz : bs.length ≤ sizeLine)
    (room : ∀ b ∈ bs, A.units + 3 + (enc b).depth < cLine) (q : SortedEnd R s.heap (bs.mergeSort (dataLe false enc)) Q s) : wpAny (model prog w) A (call (.builtin "sorted") [.ref l]) Q E s := by
  have hn : vs.length = bs.length := hR.length
  obtain ⟨o, ho, hc, n, hd⟩ := ht
  refine sorted_by (R := R) al so hz room fun Z z => wpAny_collect_seq l (.inr rfl) ho hc hd (fun g kept => ?_) (by simpa [hn] using hz)
  refine z _ bs _ (List.Perm.refl _) (by simpa using hR) (by simpa using hread.mono fun v b ⟨as, r⟩ => ⟨as, Reads.keeps kept r⟩) fun p out c h' hp k ho hout at_ => ?_
  exact q g p out c h' kept hp k (by rw [ho]; simp) hout at_
end
end RD

/-! set(xs) of a list, of a tuple; what such a set gives when it is sorted, and its length. -/
namespace RD
open PySem PySem.Spec PyProof.Rows L2 PySem.W
section
variable {P : Program} {w : World} {A : Around} {E : Value → Shared → Prop} {s : Shared} {a l : Addr}
def keyAt (ks : List Key) (i : Nat) : Key := ks.getD i (.inl 0)
theorem at_key {ks : List Key} {vs : List Value} (r : Vals (ks.map kV) vs) {i : Nat} {v : Value} (e : vs.toArray[i]? = some v) : RelV (kV (keyAt ks i)) v := by
  have e' : vs[i]? = some v := by simpa using e
  have hi : i < ks.length := by
    have h1 := (List.getElem?_eq_some_iff.mp e').1
    have h2 := r.length
    rw [List.length_map] at h2
    omega
  obtain ⟨u, hu, ru⟩ := r.get (i := i) (x := kV ks[i]) (by rw [List.getElem?_map, List.getElem?_eq_getElem hi]; rfl)
  rw [hu] at e'
  cases e'
  have hk : keyAt ks i = ks[i] := by rw [keyAt, List.getD_eq_getElem?_getD, List.getElem?_eq_getElem hi]; rfl
  rw [hk]; exact ru
/-- a walk over items that stand for keys -/
theorem keyed {I : Addr} {St : Nat → Heap → Prop} {ks : List Key} {vs : List Value} (r : Vals (ks.map kV) vs) (W : Walks P w A I [I, l] [I] vs.toArray.size (fun i v => vs.toArray[i]? = some v) St) :
    WalksS P w A I [I, l] [I] (fun x y => y = x) ks.length (fun i v => RelV (kV (keyAt ks i)) v) fun i s => St i s.heap := by
  have hn : vs.toArray.size = ks.length := by have := r.length; rw [List.length_map] at this; simp [this]
  have V := W.toS
  rw [hn] at V
  exact { sub := V.sub, grefl := V.grefl, gtrans := V.gtrans, frame := V.frame, done := V.done, self := V.self,
          item := fun i s Q E hi st q => V.item i s Q E hi st fun v s' hv => q v s' (at_key r hv) }
theorem walked_list {h : Heap} {ks : List Key} {vs : List Value} (hh : A.handled = none) (hl : h.IsList l vs.toArray) (r : Vals (ks.map kV) vs) : Walked P w A h l (keyAt ks) ks.length where
  type := by obtain ⟨o, ho, hc, _⟩ := hl; exact ⟨"list", .inl rfl, o, ho, hc⟩
  iter := fun s Q E up q => by
    have hl' : s.heap.IsList l vs.toArray := hl.at fun o e => up l o e
    have far : l ≠ s.heap.objs.size := by obtain ⟨o, ho, _⟩ := hl'; exact Nat.ne_of_lt (Heap.lt_size ho)
    refine wpAny_pyIter_list hl' (q s.heap.objs.size _ _ (fun b o e => Heap.get?_push_of_some _ e) (Heap.get?_none_of_le (Nat.le_refl _)) (by rw [Heap.size_push]; exact Nat.lt_succ_self _) (keyed r (Walks.list (A := A.in1) hh _ l far vs.toArray)) ?_)
    exact ⟨⟨_, Heap.get?_push_size _ rfl, rfl, rfl⟩, hl'.at fun o e => Heap.get?_push_of_some _ e⟩
theorem walked_tuple {h : Heap} {ks : List Key} {vs : List Value} (hh : A.handled = none) (ht : h.IsTuple l vs.toArray) (r : Vals (ks.map kV) vs) : Walked P w A h l (keyAt ks) ks.length where
  type := by obtain ⟨o, ho, hc, _⟩ := ht; exact ⟨"tuple", .inr rfl, o, ho, hc⟩
  iter := fun s Q E up q => by
    have ht' : s.heap.IsTuple l vs.toArray := ht.at fun o e => up l o e
    have far : l ≠ s.heap.objs.size := by obtain ⟨o, ho, _⟩ := ht'; exact Nat.ne_of_lt (Heap.lt_size ho)
    refine wpAny_pyIter_tuple ht' (q s.heap.objs.size _ _ (fun b o e => Heap.get?_push_of_some _ e) (Heap.get?_none_of_le (Nat.le_refl _)) (by rw [Heap.size_push]; exact Nat.lt_succ_self _) (keyed r (Walks.tuple (A := A.in1) hh _ l far vs.toArray)) ?_)
    exact ⟨⟨_, Heap.get?_push_size _ rfl, rfl, rfl⟩, ht'.at fun o e => Heap.get?_push_of_some _ e⟩
/-- values that stand for keys, up to their order -/
theorem perm_keys {β : Type} {inj : β → Key} (hi : ∀ x y, inj x = inj y → x = y) : ∀ {vs : List Value} {bs : List β}, (∀ v ∈ vs, ∃ k, RelV (kV k) v) → (vs.map keyIn).Perm (bs.map inj) → ∃ ms : List β, ms.Perm bs ∧ EachIs (fun v b => RelV (kV (inj b)) v) vs ms
  | [], bs, _, p => by
    have : bs = [] := by simpa using p.symm.eq_nil
    subst this; exact ⟨[], .refl _, .nil⟩
  | v :: vs, bs, g, p => by
    obtain ⟨k, rk⟩ := g v (by simp)
    have hm : k ∈ bs.map inj := p.mem_iff.mp (by simp [keyIn_of rk])
    obtain ⟨b, hb, rfl⟩ := List.mem_map.mp hm
    obtain ⟨l, r, rfl⟩ := List.append_of_mem hb
    have p2 : (vs.map keyIn).Perm ((l ++ r).map inj) := by
      have q : (inj b :: vs.map keyIn).Perm (inj b :: (l ++ r).map inj) := by
        have q1 : (inj b :: vs.map keyIn).Perm ((l ++ b :: r).map inj) := by simpa [keyIn_of rk] using p
        exact q1.trans ((List.perm_middle (a := b) (l₁ := l) (l₂ := r)).map inj)
      exact (List.perm_cons _).mp q
    obtain ⟨ms, pm, e⟩ := perm_keys hi (fun v hv => g v (by simp [hv])) p2
    exact ⟨b :: ms, ((List.perm_cons b).mpr pm).trans List.perm_middle.symm, .cons rk e⟩
theorem sorted_keys {β : Type} {inj : β → Key} {enc : β → PyData} {bs : List β} {Q : Value → Shared → Prop} (hi : ∀ x y, inj x = inj y → x = y) (hh : A.handled = none) (S : KeySet P w s.heap a (bs.map inj)) (rd : ∀ (h : Heap) (b : β) (v : Value), RelV (kV (inj b)) v → Reads h v (enc b) [])
    (al : AllAlike (bs.map enc)) (so : Sortable (bs.map enc)) (hz : bs.length ≤ sizeLine) (room : ∀ b ∈ bs, A.units + 3 + (enc b).depth < cLine)
    (q : ∀ ms : List β, ms.Perm bs → ∀ (s' : Shared) (p : Addr) (out : List Value) (c : Nat) (h' : Heap), (∀ b o, s.heap.get? b = some o → s'.heap.get? b = some o) → s'.gens = s.gens → s'.os = s.os → s.heap.objs.size ≤ p → (∀ b o, s'.heap.get? b = some o → h'.get? b = some o) →
      out.length = bs.length → EachIs (fun v b => RelV (kV (inj b)) v) out (ms.mergeSort (PySem.W.dataLe false enc)) → h'.get? p = some (seqObj "list" out.toArray c) → Q (.ref p) { s' with heap := h' }) :
    wpAny (model P w) A (call (.builtin "sorted") [.ref a]) Q E s := by
  obtain ⟨o, es, ep, t, ho, ex, hd, e⟩ := S
  refine sorted_by (R := fun v b => RelV (kV (inj b)) v) al so hz room fun Z z => collect_set hh ⟨o, ho, ex.1, hd⟩ e.fits e.room e.rise e.led fun s' vs k up g os pm => ?_
  have each : ∀ v ∈ vs, ∃ k, RelV (kV k) v := fun v hv => by
    obtain ⟨x, hx, rfl⟩ := List.mem_map.mp (pm.mem_iff.mp hv)
    obtain ⟨k, rk, _⟩ := e.good x hx
    exact ⟨k, rk⟩
  have keys : (vs.map keyIn).Perm (bs.map inj) := (pm.map keyIn).trans (by rw [List.map_map]; exact e.keys)
  obtain ⟨ms, pms, em⟩ := perm_keys hi each keys
  exact z vs ms s' pms em (em.mono fun v b r => ⟨[], rd _ b v r⟩) fun p out c h' hp k2 ho2 hout at_ => q ms pms s' p out c h' k g os (Nat.le_trans up hp) k2 ho2 hout at_
/-- the keys met along a whole list -/
theorem met_all (ks : List Key) : meetFrom (keyAt ks) 0 ks.length [] = dedup ks := by
  have same : (List.range' 0 (ks.length - 0)).map (keyAt ks) = ks := by
    refine List.ext_getElem (by simp) fun i h1 h2 => ?_
    simp only [List.length_map, List.length_range', Nat.sub_zero] at h1
    simp [keyAt, h1]
  rw [meetFrom, same]
  rfl
theorem keys_of_list {ks : List Key} {vs : List Value} {Q : Value → Shared → Prop} (hh : A.handled = none) (hl : s.heap.IsList l vs.toArray) (r : Vals (ks.map kV) vs) (room : ks.length + 1 < scanBound)
    (q : ∀ s', (∀ b o, s.heap.get? b = some o → s'.heap.get? b = some o) → s'.gens = s.gens → s'.drawn = s.drawn → s'.os = s.os → KeySet P w s'.heap s.heap.objs.size (dedup ks) → Q (.ref s.heap.objs.size) s') : wpAny (model P w) A (call (.type "set") [.ref l]) Q E s :=
  set_call (fun A' h eh k => walked_list (eh.trans hh) (hl.at fun o e => k l o e) r) (by obtain ⟨o, ho, _⟩ := hl; exact Heap.lt_size ho) room fun s' k g d os S => q s' k g d os (met_all ks ▸ S)
theorem keys_of_tuple {ks : List Key} {vs : List Value} {Q : Value → Shared → Prop} (hh : A.handled = none) (ht : s.heap.IsTuple l vs.toArray) (r : Vals (ks.map kV) vs) (room : ks.length + 1 < scanBound)
    (q : ∀ s', (∀ b o, s.heap.get? b = some o → s'.heap.get? b = some o) → s'.gens = s.gens → s'.drawn = s.drawn → s'.os = s.os → KeySet P w s'.heap s.heap.objs.size (dedup ks) → Q (.ref s.heap.objs.size) s') : wpAny (model P w) A (call (.type "set") [.ref l]) Q E s :=
  set_call (fun A' h eh k => walked_tuple (eh.trans hh) (ht.at fun o e => k l o e) r) (by obtain ⟨o, ho, _⟩ := ht; exact Heap.lt_size ho) room fun s' k g d os S => q s' k g d os (met_all ks ▸ S)
end
end RD

/-! sorted(set(xs)) of ints or of texts, as a rule. -/
namespace RD
open PySem PySem.Spec PyProof.Rows L2 PySem.W

theorem sort_perm_eq {β : Type} {le : β → β → Bool} (tr : ∀ a b c, le a b = true → le b c = true → le a c = true) (to : ∀ a b, (le a b || le b a) = true) (an : ∀ a b, le a b = true → le b a = true → a = b) {l m : List β} (h : l.Perm m) : l.mergeSort le = m.mergeSort le :=
  List.Perm.eq_of_pairwise (le := fun a b => le a b = true) (fun a b _ _ h1 h2 => an a b h1 h2) (List.pairwise_mergeSort tr to l) (List.pairwise_mergeSort tr to m)
    (((List.mergeSort_perm l le).trans h).trans (List.mergeSort_perm m le).symm)
theorem sortI_perm {l m : List Int} (h : l.Perm m) : l.mergeSort leI = m.mergeSort leI :=
  sort_perm_eq (fun a b c h1 h2 => by simp only [leI, decide_eq_true_eq] at *; omega) (fun a b => by simp only [leI, Bool.or_eq_true, decide_eq_true_eq]; omega) (fun a b h1 h2 => by simp only [leI, decide_eq_true_eq] at *; omega) h
theorem sortS_perm {l m : List Str} (h : l.Perm m) : l.mergeSort leS = m.mergeSort leS :=
  sort_perm_eq (fun a b c h1 h2 => by simp only [leS, decide_eq_true_eq] at *; exact List.le_trans h1 h2) (fun a b => by simp only [leS, Bool.or_eq_true, decide_eq_true_eq]; exact List.le_total _ _)
    (fun a b h1 h2 => by
      simp only [leS, decide_eq_true_eq] at *
      have e := List.le_antisymm h1 h2
      cases a; cases b
      simp only [Str.mk.injEq]
      exact Array.toList_inj.mp e) h
/-- distinct keys of one kind are the keys of what is distinct -/
theorem dedup_map {β : Type} [DecidableEq β] {inj : β → Key} (hi : ∀ a b, inj a = inj b → a = b) (l : List β) : dedup (l.map inj) = (dedup l).map inj := by
  have go : ∀ (l acc : List β), (l.map inj).foldl meet1 (acc.map inj) = (l.foldl (fun acc x => if (acc.any fun j => decide (j = x)) = true then acc else acc ++ [x]) acc).map inj := by
    intro l
    induction l with
    | nil => intro acc; rfl
    | cons x l ih =>
      intro acc
      have met : ((acc.map inj).any fun j => decide (j = inj x)) = acc.any fun j => decide (j = x) := by
        rw [List.any_map]
        refine congrArg (List.any acc) (funext fun j => ?_)
        exact decide_eq_decide.mpr ⟨hi j x, fun e => by rw [e]⟩
      simp only [List.map_cons, List.foldl_cons, meet1, met]
      split
      · exact ih acc
      · rw [show acc.map inj ++ [inj x] = (acc ++ [x]).map inj by simp]; exact ih (acc ++ [x])
  exact go l []
theorem dedup_len {β : Type} [DecidableEq β] (l : List β) : (dedup l).length ≤ l.length := by
  unfold dedup
  have key : ∀ (l acc : List β), (l.foldl (fun acc x => if (acc.any fun j => decide (j = x)) = true then acc else acc ++ [x]) acc).length ≤ acc.length + l.length := by
    intro l
    induction l with
    | nil => intro acc; simp
    | cons x l ih =>
      intro acc
      simp only [List.foldl_cons, List.length_cons]
      refine Nat.le_trans (ih _) ?_
      split
      · omega
      · simp; omega
  simpa using key l []
def tSset (K : PySem.W.Frag) (ta : TE) : TE := fun σ H Q => ta σ H fun x H1 => ∃ (l : Addr) (xs : List V), x = .ref l ∧ (SqL K H1 l xs ∨ SqT K H1 l xs) ∧ xs.length ≤ 1000 ∧
  ((∃ ns : List Int, xs = ns.map V.int ∧ ∀ p, H1 p = none → Q (.ref p) (upd H1 p (.lst (((dedup ns).mergeSort leI).map V.int)))) ∨
    ∃ zs : List Str, xs = zs.map V.str ∧ ∀ p, H1 p = none → Q (.ref p) (upd H1 p (.lst (((dedup zs).mergeSort leS).map V.str))))
/-- a set of ints and texts, tracked -/
def KSet (X : Cx) (a : Addr) (ks : List Key) : HO := .ext fun h => KeySet X.prog X.w h a ks
section
variable {X : Cx} {pins : List (Addr × Obj)} {σ : L2.St} {H : Hp} {s : Shared}
theorem KSet.ok {D : Addr} {ks : List Key} {h : Heap} (S : KeySet X.prog X.w h D ks) : ObjOk X.prog X.w H h D (KSet X D ks) :=
  ⟨S, by obtain ⟨o, _, _, _, ho, _⟩ := S; exact ⟨o, ho⟩, fun _ _ S k => KeySet.kept S k⟩
/-- the values of a sorted set, as the layer's values -/
theorem as_vals {β : Type} {inj : β → Key} : ∀ {vs : List Value} {bs : List β}, EachIs (fun v b => RelV (kV (inj b)) v) vs bs → Vals (bs.map fun b => kV (inj b)) vs
  | _, _, .nil => .nil
  | _, _, .cons h t => .cons h (as_vals t)
/-- sorted(..) of a set that has just been made: a new list, the set forgotten -/
theorem sort_made {β : Type} [DecidableEq β] {inj : β → Key} {enc : β → PyData} {le : β → β → Bool} {a : Addr} {bs : List β} {Q : VK} (hi : ∀ x y, inj x = inj y → x = y) (calm : X.calm = true) (roomy : X.A.units + 200 < cLine) (rd : ∀ (h : Heap) (b : β) (v : Value), RelV (kV (inj b)) v → Reads h v (enc b) [])
    (al : ∀ b b', alike (enc b) (enc b') = true) (so : ∀ b, enc b ≠ .none ∧ ∀ xs, enc b ≠ .tuple xs) (flat : ∀ b, (enc b).depth = 0) (hle : dataLe false enc = le) (same : ∀ {l m : List β}, l.Perm m → l.mergeSort le = m.mergeSort le)
    (I : Inv X pins σ H s) (S : KeySet X.prog X.w s.heap a (bs.map inj)) (few : bs.length ≤ 1000) (q : ∀ p, H p = none → Q (.ref p) (upd H p (.lst ((bs.mergeSort le).map fun b => kV (inj b))))) : wpAny (model X.prog X.w) X.A (call (.builtin "sorted") [.ref a]) (EP X pins σ Q) X.xe s := by
  have line : bs.length ≤ sizeLine := by rw [sizeLine_eq]; omega
  refine sorted_keys hi (I.ok.hd calm) S rd (.of al) (.others so) line (fun b _ => by rw [flat b]; omega) fun ms pm s' p out c h' k1 g o hp k2 ho em at_ => ?_
  have fresh : H p = none := I.hok.fresh hp
  have all : ∀ b ob, s.heap.get? b = some ob → h'.get? b = some ob := fun b ob e => k2 b ob (k1 b ob e)
  have sorted_same : ms.mergeSort le = bs.mergeSort le := same pm
  rw [hle, sorted_same] at em
  have len : ((bs.mergeSort le).map fun b => kV (inj b)).length ≤ sizeLine := by rw [List.length_map, List.length_mergeSort]; exact line
  have J := I.call (s := s) (h' := h') (g' := s.gens) (d' := s'.drawn) (t' := s'.toks) (H' := upd H p (.lst ((bs.mergeSort le).map fun b => kV (inj b)))) (ch := []) (Un.laid all hp fresh) (I.hok.laid all hp ⟨len, out, c, as_vals em, at_⟩) I.bare (fun b z => nomatch z)
  have same_s : { s' with heap := h' } = { s with heap := h', gens := s.gens, drawn := s'.drawn, toks := s'.toks } := by rw [← g, ← o]
  rw [same_s]
  exact ⟨.ref p, upd H p (.lst ((bs.mergeSort le).map fun b => kV (inj b))), J, rfl, q p fresh⟩
/-- set(..), what comes after being known -/
theorem set_then {l : Addr} {ks : List Key} {Q : Value → Shared → Prop} (hc : X.calm = true) (I : Inv X pins σ H s) (hq : SqL X.K H l (ks.map kV) ∨ SqT X.K H l (ks.map kV)) (few : ks.length ≤ 1000)
    (q : ∀ s', Inv X pins σ H s' → (∀ b ob, s.heap.get? b = some ob → s'.heap.get? b = some ob) → KeySet X.prog X.w s'.heap s.heap.objs.size (dedup ks) → Q (.ref s.heap.objs.size) s') {E : Value → Shared → Prop} : wpAny (model X.prog X.w) X.A (call (.type "set") [.ref l]) Q E s := by
  have room : ks.length + 1 < scanBound := by unfold scanBound; omega
  have fin : ∀ s', (∀ b ob, s.heap.get? b = some ob → s'.heap.get? b = some ob) → s'.gens = s.gens → s'.drawn = s.drawn → s'.os = s.os → KeySet X.prog X.w s'.heap s.heap.objs.size (dedup ks) → Q (.ref s.heap.objs.size) s' := fun s' k g d os S => by
    refine q s' ?_ k S
    have e : s' = { s with heap := s'.heap, toks := s'.toks } := by rw [← g, ← d, ← os]
    rw [e]
    exact I.kept k
  rcases hq with hq | hq
  · obtain ⟨its, r, pl, _⟩ := I.list hq
    exact keys_of_list (I.ok.hd hc) pl.isList r room fin
  · obtain ⟨its, r, pl, _⟩ := I.tuple hq
    exact keys_of_tuple (I.ok.hd hc) pl r room fin
/-- set(..), the new set tracked -/
theorem set_new {l : Addr} {ks : List Key} {Q : Value → Shared → Prop} (hc : X.calm = true) (I : Inv X pins σ H s) (hq : SqL X.K H l (ks.map kV) ∨ SqT X.K H l (ks.map kV)) (few : ks.length ≤ 1000)
    (q : ∀ s', Inv X pins σ (upd H s.heap.objs.size (KSet X s.heap.objs.size (dedup ks))) s' → KeySet X.prog X.w s'.heap s.heap.objs.size (dedup ks) → Q (.ref s.heap.objs.size) s') {E : Value → Shared → Prop} : wpAny (model X.prog X.w) X.A (call (.type "set") [.ref l]) Q E s := by
  have room : ks.length + 1 < scanBound := by unfold scanBound; omega
  have fin : ∀ s', (∀ b ob, s.heap.get? b = some ob → s'.heap.get? b = some ob) → s'.gens = s.gens → s'.drawn = s.drawn → s'.os = s.os → KeySet X.prog X.w s'.heap s.heap.objs.size (dedup ks) → Q (.ref s.heap.objs.size) s' := fun s' k g d os S => by
    refine q s' ?_ S
    have e : s' = { s with heap := s'.heap, toks := s'.toks } := by rw [← g, ← d, ← os]
    rw [e]
    exact I.laid k (Nat.le_refl _) (KSet.ok S)
  rcases hq with hq | hq
  · obtain ⟨its, r, pl, _⟩ := I.list hq
    exact keys_of_list (I.ok.hd hc) pl.isList r room fin
  · obtain ⟨its, r, pl, _⟩ := I.tuple hq
    exact keys_of_tuple (I.ok.hd hc) pl r room fin
theorem pe_sset {a : Expr} {ta : TE} {p p2 q pos : Pos} (hc : X.calm = true) (hu : X.A.units + 200 < cLine) (hg : Gl X "sorted") (hm : X.mg "sorted" = none) (hg2 : Gl X "set") (hm2 : X.mg "set" = none) (ha : PE X a ta)
    (na : starEach [a] X.env = (false, eval a X.env) :: starEach [] X.env) : PE X (.Call (.Name "sorted" p) [.Call (.Name "set" p2) [a] [] q] [] pos) (tSset X.K ta) := by
  refine ⟨fun pins s σ H Q I h => Call_ (ld_blt I hg hm boot_sorted ?_)⟩
  refine callWith_builtin1 (args_cons (Call_ (ld_blt I hg2 hm2 boot_set ?_)) rfl) rfl rfl
  refine callWith_type1 (args_cons (thn (ha.run pins s σ H _ I h) fun v s1 ⟨x, H1, I1, r1, l, xs, ex, hq, few, which⟩ => args_nil ?_) na) na rfl
  subst ex
  cases r1
  rcases which with ⟨ns, rfl, q⟩ | ⟨zs, rfl, q⟩ <;> rw [List.length_map] at few
  · refine set_then (ks := ns.map Sum.inl) hc I1 (by rw [List.map_map]; exact hq) (by rw [List.length_map]; exact few) fun s' J _ S => args_nil ?_
    rw [dedup_map fun a b e => Sum.inl.inj e] at S
    exact sort_made (enc := .int) (le := leI) (fun a b e => Sum.inl.inj e) hc hu (fun h b v r => by obtain ⟨t, rfl⟩ := r; exact .int ..) (fun _ _ => rfl) (fun b => ⟨fun z => (nomatch z), fun xs z => (nomatch z)⟩) (fun b => by simp [PyData.depth]) (dataLe_int fun b => b) sortI_perm J S (Nat.le_trans (dedup_len ns) few) q
  · refine set_then (ks := zs.map Sum.inr) hc I1 (by rw [List.map_map]; exact hq) (by rw [List.length_map]; exact few) fun s' J _ S => args_nil ?_
    rw [dedup_map fun a b e => Sum.inr.inj e] at S
    exact sort_made (enc := .str) (le := leS) (fun a b e => Sum.inr.inj e) hc hu (fun h b v r => by obtain ⟨t, rfl⟩ := r; exact .str ..) (fun _ _ => rfl) (fun b => ⟨fun z => (nomatch z), fun xs z => (nomatch z)⟩) (fun b => by simp [PyData.depth]) (dataLe_str fun b => b) sortS_perm J S (Nat.le_trans (dedup_len zs) few) q
end
end RD

namespace RD
open PySem PySem.Spec PyProof.Rows L2

/-! ### shapes -/
def goodF : Expr → Bool
  | .Starred .. => false
  | .Slice .. => false
  | .Set .. => false
  | _ => true
theorem good_of {N : List Str} : ∀ {sc : Scope} {e : Ex} {f : Expr}, chkE N sc e f = true → goodF f = true := by
  intro sc e f h
  cases f with
  | Starred a b => cases e with
    | cel e => cases e <;> simp [chkE, newE] at h
    | ext x e =>
      simp only [chkE] at h
      split at h
      · rename_i z; have := subX_call z; simp [callB] at this
      · cases h
    | _ => simp [chkE] at h
  | Slice a b c d => cases e with
    | cel e => cases e <;> simp [chkE, newE] at h
    | ext x e =>
      simp only [chkE] at h
      split at h
      · rename_i z; have := subX_call z; simp [callB] at this
      · cases h
    | _ => simp [chkE] at h
  | Set a b c => cases e with
    | cel e => cases e <;> simp [chkE, newE] at h
    | ext x e =>
      simp only [chkE] at h
      split at h
      · rename_i z; have := subX_call z; simp [callB] at this
      · cases h
    | _ => simp [chkE] at h
  | _ => rfl
theorem goods_of {N : List Str} {sc : Scope} : ∀ {es : Exs} {fs : List Expr}, chkEs N sc es fs = true → ∀ f ∈ fs, goodF f = true
  | .nil, fs, h => by
    cases fs with
    | nil => intro f hf; simp at hf
    | cons a b => simp [chkEs] at h
  | .cons e es, fs, h => by
    cases fs with
    | nil => simp [chkEs] at h
    | cons a b =>
      simp only [chkEs, Bool.and_eq_true] at h
      intro f hf
      rcases List.mem_cons.mp hf with e | e
      · subst e; exact good_of h.1
      · exact goods_of h.2 f e
theorem plain_ix {f : Expr} (h : goodF f = true) : PlainIx f := by
  intro o i
  cases f <;> first
    | rfl
    | (simp [goodF] at h)
theorem star_of {f : Expr} {fs : List Expr} {env : PySem.Env} (h : goodF f = true) : starEach (f :: fs) env = (false, eval f env) :: starEach fs env := by
  cases f <;> first
    | rfl
    | (simp [goodF] at h)
theorem star_any {env : PySem.Env} {pos : Pos} : ∀ {fs : List Expr}, (∀ f ∈ fs, goodF f = true) → (backTo pos (starEach fs env)).any (·.1) = false
  | [], _ => rfl
  | f :: fs, h => by
    rw [star_of (h f (by simp))]
    have ih := star_any (env := env) (pos := pos) (fs := fs) fun g hg => h g (by simp [hg])
    simp only [backTo, List.map_cons, List.any_cons, Bool.false_or] at ih ⊢
    exact ih
theorem folded_of {f : Expr} {env : PySem.Env} (h : goodF f = true) : ∀ x, foldedSetIterable f env x = pure x := by
  intro x
  cases f <;> first
    | rfl
    | (simp [goodF] at h)

/-! ### subscripts -/
section
variable {X : Cx}
theorem atI_isL {K : PySem.W.Frag} {α : List Addr} {F : Hp} {l : List T} {xs : List V} {i : Int} {t : T} (h : IsL K α F l xs) (e : L2.atI l i = some t) : ∃ v, L2.atI xs i = some v ∧ Is K α F t v := by
  unfold L2.atI at e ⊢
  rw [h.length] at e
  cases q : ixN xs.length i with
  | none => rw [q] at e; cases e
  | some j =>
    rw [q] at e
    exact h.get (i := j) e
def rIdx (K : PySem.W.Frag) : R2 := fun x y H Q => ∃ α F S t u r, OkS K α F S H ∧ IsV K α F H t x ∧ IsP K α F H u y ∧ idxT t u = some r ∧ ∀ v, Is K α F r v → Q v H
theorem IsP.int {K : PySem.W.Frag} {α : List Addr} {F H : Hp} {i : Int} {v : V} (h : IsP K α F H (.int i) v) : v = .int i := by
  rcases h with h | ⟨a, xs, m, e1, _⟩
  · exact h
  · cases e1
theorem IsP.str {K : PySem.W.Frag} {α : List Addr} {F H : Hp} {i : Str} {v : V} (h : IsP K α F H (.str i) v) : v = .str i := by
  rcases h with h | ⟨a, xs, m, e1, _⟩
  · exact h
  · cases e1
theorem IsP.bl {K : PySem.W.Frag} {α : List Addr} {F H : Hp} {i : Bool} {v : V} (h : IsP K α F H (.bl i) v) : v = .bl i := by
  rcases h with h | ⟨a, xs, m, e1, _⟩
  · exact h
  · cases e1
theorem key_rel {K : PySem.W.Frag} {α : List Addr} {F H : Hp} {t : T} {k : Key} {y : V} {u : Value} (h : IsP K α F H t y) (e : keyT t = some k) (r : RelV y u) : RelV (kV k) u ∧ y = kV k := by
  cases t with
  | int i => cases e; rw [h.int] at r ⊢; exact ⟨r, rfl⟩
  | str i => cases e; rw [h.str] at r ⊢; exact ⟨r, rfl⟩
  | _ => simp [keyT] at e
theorem ix_any (hu : X.A.units + 1 < cLine) : IxR X (rIdx X.K) := by
  intro value slice pins s σ H x y v u Q I rx ry h hs
  obtain ⟨α, F, S, t, w, r, ok, hx, hy, e, q⟩ := h
  unfold idxT at e
  split at e
  · rw [hy.int] at ry
    obtain ⟨a, xs, rfl, h1, h2⟩ := hx.tup ok
    obtain ⟨z, e2, iz⟩ := atI_isL h2 e
    exact ix_tup value slice pins s σ H _ _ v u Q I rx ry ⟨a, xs, _, z, rfl, rfl, h1, e2, q z iz⟩ hs
  · rw [hy.int] at ry
    obtain ⟨a, xs, rfl, h1, h2⟩ := hx.lst ok
    obtain ⟨z, e2, iz⟩ := atI_isL h2 e
    exact ix_list value slice pins s σ H _ _ v u Q I rx ry ⟨a, xs, _, z, rfl, rfl, .of h1, e2, q z iz⟩ hs
  · rw [hy.int] at ry; rw [hx.str] at rx
    split at e
    · rename_i hl
      simp only [Option.map_eq_some_iff] at e
      obtain ⟨c, ec, rfl⟩ := e
      exact ix_str value slice pins s σ H _ _ v u Q I rx ry ⟨_, _, c, rfl, rfl, Nat.le_of_lt (lim_line hl), ec, q _ rfl⟩ hs
    · cases e
  · rw [hy.int] at ry
    rename_i ns i
    simp only [Option.map_eq_some_iff] at e
    obtain ⟨c, ec, rfl⟩ := e
    obtain ⟨a, rfl, h1⟩ := hx.scr ok
    refine ix_list value slice pins s σ H _ _ v u Q I rx ry ⟨a, _, _, .int c, rfl, rfl, h1, ?_, q _ rfl⟩ hs
    unfold L2.atI at ec ⊢
    rw [List.length_map]
    cases z : ixN ns.length i with
    | none => rw [z] at ec; cases ec
    | some j =>
      rw [z] at ec
      show (ns.map V.int)[j]? = _
      rw [List.getElem?_map, show ns[j]? = some c from ec]; rfl
  · rename_i kvs k
    split at e
    · rename_i key ek
      obtain ⟨a, ks, rfl, h1, h2⟩ := hx.dct ok
      obtain ⟨z, e2, iz⟩ := h2.val.1 _ e
      cases rx
      obtain ⟨rk, ey⟩ := key_rel hy ek ry
      subst ey
      have g : DGet H a (kV key) (some z) := by rw [← e2]; exact DGet.k h1
      have hT := dict_typeIs I g
      unfold subscriptTail
      refine wpAny_bind ?_
      rw [getitemInPython_of_ne hT.not_modules]
      refine wpAny_bind (wpAny_specialOf hT PySem.F.slot_dict_getitem.lookup ?_)
      have fin : wpAny (model X.prog X.w) X.A (subscripted slice false (.ref a) u) (fun r s₃ => wpAny (model X.prog X.w) X.A (letTemporaryGo value (.ref a) r >>= fun _ => pure r) (EP X pins σ Q) X.xe s₃) X.xe s := by
        rw [hs]
        exact wpAny_operating (d_getItem hu I g rk fun w' s' I' rw' => wpAny_bind (wpAny_letTemporaryGo (wpAny_pure ⟨z, H, I', rw', q z iz⟩)))
      first
        | exact wpAny_pure (wpAny_bind fin)
        | exact wpAny_bind (wpAny_pure (wpAny_bind fin))
    · cases e
  · cases e
/-- a slice -/
def rSlc (K : PySem.W.Frag) : V → Option Int → Option Int → Hp → VK → Prop := fun x lo hi H Q => ∃ α F S t r, OkS K α F S H ∧ IsV K α F H t x ∧ sliceT t lo hi = some r ∧ After K α F S H r Q
theorem cut_all {xs : List V} {lo hi : Option Int} (h : HT.sIx xs.length 0 lo = 0 ∧ HT.sIx xs.length xs.length hi = xs.length) : cutV xs lo hi = xs := by
  unfold cutV
  rw [h.1, h.2]; simp
theorem sl_any : SlR X (rSlc X.K) := by
  intro pins s σ H x v vl vu lo hi sl Q I rx hs pl pu h
  obtain ⟨α, F, S, t, r, ok, hx, e, q⟩ := h
  unfold sliceT at e
  split at e
  · rename_i l
    cases e
    obtain ⟨a, xs, rfl, h1, h2⟩ := hx.tup ok
    refine sl_tupA pins s σ H _ v vl vu lo hi sl Q I rx hs pl pu ⟨a, xs, rfl, h1, fun z => ?_, fun _ p hp => q.tup ok (h2.cut lo hi) hp⟩
    have e : cutT l lo hi = l := by
      unfold cutT; rw [h2.length, z.1, z.2]; rw [← h2.length]; simp
    rw [e] at q
    exact q.now ok hx.tupF
  · cases e
    obtain ⟨a, xs, rfl, h1, h2⟩ := hx.lst ok
    exact sl_list pins s σ H _ v vl vu lo hi sl Q I rx hs pl pu ⟨a, xs, rfl, .of h1, fun p hp => q.lst ok (h2.cut lo hi) hp⟩
  · split at e
    · rename_i z hl
      cases e; rw [hx.str] at rx
      exact sl_str pins s σ H _ v vl vu lo hi sl Q I rx hs pl pu ⟨z, rfl, Nat.le_of_lt (lim_line hl), q.now ok rfl⟩
    · cases e
  · cases e

/-! ### built-ins -/
def Bt.fv : Bt → Value
  | .len => .builtin "len" | .all => .builtin "all" | .any => .builtin "any" | .max => .builtin "max" | .min => .builtin "min" | .list => .type "list" | .tuple => .type "tuple" | .sorted => .builtin "sorted" | .set => .type "set" | .abs => .builtin "abs" | .int => .type "int" | .dict => .type "dict"
def AllV (K : PySem.W.Frag) (α : List Addr) (F H : Hp) : List T → List V → Prop
  | [], xs => xs = []
  | t :: ts, xs => ∃ x ys, xs = x :: ys ∧ IsV K α F H t x ∧ AllV K α F H ts ys
def rBt (b : Bt) (K : PySem.W.Frag) : List V → Hp → VK → Prop := fun vs H Q => ∃ α F S ts r, OkS K α F S H ∧ AllV K α F H ts vs ∧ btT b ts = some r ∧ After K α F S H r Q
theorem AllV.one {K : PySem.W.Frag} {α : List Addr} {F H : Hp} {t : T} {vs : List V} (h : AllV K α F H [t] vs) : ∃ v, vs = [v] ∧ IsV K α F H t v := by
  obtain ⟨x, ys, rfl, h1, h2⟩ := h
  cases h2
  exact ⟨x, rfl, h1⟩
theorem AllV.two {K : PySem.W.Frag} {α : List Addr} {F H : Hp} {t u : T} {vs : List V} (h : AllV K α F H [t, u] vs) : ∃ v w, vs = [v, w] ∧ IsV K α F H t v ∧ IsV K α F H u w := by
  obtain ⟨x, ys, rfl, h1, y, zs, rfl, h2, h3⟩ := h
  cases h3
  exact ⟨x, y, rfl, h1, h2⟩
theorem foldl_max_mem : ∀ (is : List Int) (i : Int), is.foldl (fun a b => if b > a then b else a) i ∈ i :: is ∧ ∀ y ∈ i :: is, y ≤ is.foldl (fun a b => if b > a then b else a) i
  | [], i => by simp
  | j :: js, i => by
    simp only [List.foldl_cons]
    by_cases h : j > i
    · rw [if_pos h]
      obtain ⟨h1, h2⟩ := foldl_max_mem js j
      refine ⟨List.mem_cons_of_mem _ h1, fun y hy => ?_⟩
      rcases List.mem_cons.mp hy with e | e
      · subst e; have := h2 j (by simp); omega
      · exact h2 y e
    · rw [if_neg h]
      obtain ⟨h1, h2⟩ := foldl_max_mem js i
      refine ⟨?_, fun y hy => ?_⟩
      · rcases List.mem_cons.mp h1 with e | e
        · rw [e]; simp
        · exact List.mem_cons_of_mem _ (List.mem_cons_of_mem _ e)
      · rcases List.mem_cons.mp hy with e | e
        · subst e; exact h2 y (by simp)
        · rcases List.mem_cons.mp e with e | e
          · subst e; have := h2 i (by simp); omega
          · exact h2 y (List.mem_cons_of_mem _ e)
theorem maxI_spec {ns : List Int} {m : Int} (h : maxI ns = some m) : 0 < ns.length ∧ m ∈ ns ∧ ∀ y ∈ ns, y ≤ m := by
  cases ns with
  | nil => cases h
  | cons i is => cases h; exact ⟨by simp, (foldl_max_mem is i).1, (foldl_max_mem is i).2⟩
theorem maxI_uniq {ns : List Int} {m k : Int} (h : maxI ns = some m) (h1 : k ∈ ns) (h2 : ∀ y ∈ ns, y ≤ k) : k = m := by
  obtain ⟨_, a, b⟩ := maxI_spec h
  have := b k h1
  have := h2 m a
  omega
/-- built-ins of one argument that give a new list or dict each time -/
def btNew : Bt → Bool
  | .list => true | .sorted => true | .dict => true
  | _ => false
def rBtN (b : Bt) (K : PySem.W.Frag) : List V → Hp → VK → Prop := fun vs H Q => ∃ α F S t r, OkS K α F S H ∧ AllV K α F H [t] vs ∧ btT b [t] = some r ∧ ∀ p o, H p = none → NewO K α F o r → Q (.ref p) (upd H p o)
theorem EachIs.of_isL {K : PySem.W.Frag} {α : List Addr} {F : Hp} : ∀ {l : List T} {xs : List V} {us : List Value}, IsL K α F l xs → Vals xs us → PySem.W.EachIs (fun u t => ∃ x, RelV x u ∧ Is K α F t x) us l
  | [], _, _, h, r => by cases h; cases r; exact .nil
  | t :: ts, _, _, ⟨x, ys, e, h1, h2⟩, r => by
    subst e
    cases r with
    | cons r1 r2 => exact .cons ⟨x, r1, h1⟩ (EachIs.of_isL h2 r2)
theorem EachIs.to_isL {K : PySem.W.Frag} {α : List Addr} {F : Hp} : ∀ {l : List T} {us : List Value}, PySem.W.EachIs (fun u t => ∃ x, RelV x u ∧ Is K α F t x) us l → ∃ xs, Vals xs us ∧ IsL K α F l xs
  | _, _, .nil => ⟨[], .nil, rfl⟩
  | _, _, .cons ⟨x, r1, h1⟩ t => by
    obtain ⟨xs, r2, h2⟩ := EachIs.to_isL t
    exact ⟨x :: xs, .cons r1 r2, x, xs, rfl, h1, h2⟩
theorem encs_of : ∀ {l : List T} {ds : List PyData}, T.toDs l = some ds → l.map encT = ds
  | [], _, h => by simp only [T.toDs] at h; cases h; rfl
  | t :: ts, ds, h => by
    simp only [T.toDs] at h
    split at h
    · rename_i d es h1 h2
      cases h
      rw [List.map_cons, encs_of h2]
      unfold encT
      rw [h1]; rfl
    · cases h
theorem each_reads {K : PySem.W.Frag} : ∀ {l : List T} {ds : List PyData} {us : List Value} {as : List Addr} {h : Heap}, T.toDs l = some ds → ReadsAll h us ds as → PySem.W.EachIs (fun v b => ∃ as, Reads h v (encT b) as) us l := by
  intro l ds us as h e r
  rw [← encs_of e] at r
  exact PySem.W.readsAll_each encT r
theorem srt_alike {ds : List PyData} (h : srtB ds = true) : PySem.W.AllAlike ds ∧ PySem.W.Sortable ds ∧ ∀ d ∈ ds, d.depth ≤ 100 := by
  simp only [srtB, Bool.and_eq_true] at h
  obtain ⟨⟨h1, h2⟩, h3⟩ := h
  refine ⟨fun d hd e he => List.all_eq_true.mp (List.all_eq_true.mp h1 d hd) e he, ?_, fun d hd => of_decide_eq_true (List.all_eq_true.mp h3 d hd)⟩
  rcases Bool.or_eq_true_iff.mp h2 with h2 | h2
  · refine .inl fun d hd => ?_
    have := List.all_eq_true.mp h2 d hd
    split at this
    · exact ⟨_, _, rfl⟩
    · cases this
  · refine .inr fun d hd => ?_
    have := List.all_eq_true.mp h2 d hd
    split at this
    · cases this
    · cases this
    · rename_i h1 h2
      exact ⟨fun e => h1 e, fun xs e => h2 xs e⟩
theorem mergeT_is {K : PySem.W.Frag} {α : List Addr} {F : Hp} : ∀ {more : List (Key × T)} {acc : List (Key × T)} {m : List (Key × V)} {a : List (Key × V)}, IsKV K α F more m → IsKV K α F acc a → IsKV K α F (mergeT acc more) (mergeK a m)
  | [], _, _, _, h, g => by cases h; exact g
  | (k, t) :: more, acc, _, a, ⟨x, ys, e, h1, h2⟩, g => by
    subst e
    show IsKV K α F (mergeT (putT acc k t) more) (mergeK (putK a k x) ys)
    exact mergeT_is h2 (g.put h1)
theorem pairs_is {K : PySem.W.Frag} {α : List Addr} {F H : Hp} (sm : Same F H) : ∀ {l : List T} {kvs : List (Key × T)} {xs : List V}, pairsT l = some kvs → IsL K α F l xs → ∃ (ps : List Addr) (ks : List (Key × V)), xs = ps.map V.ref ∧ Paired (fun p kv => SqT K H p [kV kv.1, kv.2]) ps ks ∧ IsKV K α F kvs ks
  | [], _, _, e, h => by cases e; cases h; exact ⟨[], [], rfl, .nil, rfl⟩
  | t :: r, kvs, _, e, ⟨x, ys, ex, h1, h2⟩ => by
    subst ex
    unfold pairsT at e
    split at e
    · rename_i heq; cases heq
    · rename_i k v r' heq
      cases heq
      split at e
      · rename_i kk rr hk hr
        cases e
        obtain ⟨ps, ks, e1, p1, i1⟩ := pairs_is sm hr h2
        obtain ⟨a, zs, rfl, g1, z1, zs1, rfl, gk, z2, zs2, rfl, gv, e3⟩ := h1
        cases e3
        have ez : z1 = kV kk := by
          cases k with
          | int i => cases hk; exact gk
          | str i => cases hk; exact gk
          | _ => simp [keyT] at hk
        subst ez
        exact ⟨a :: ps, (kk, z2) :: ks, by rw [e1]; rfl, .cons (sqt_same sm g1) p1, z2, ks, rfl, gv, i1⟩
      · cases e
    · cases e
theorem btn_any (hc : X.calm = true) (hu : X.A.units + 200 < cLine) (b : Bt) (hb : btNew b = true) : CallR X b.fv (rBtN b X.K) := by
  intro pins s σ H vs us Q I r h
  obtain ⟨α, F, S, t, w, ok, hv, e, q⟩ := h
  obtain ⟨x, rfl, hx⟩ := hv.one
  cases b with
  | list =>
    simp only [btT, Option.map_eq_some_iff] at e
    obtain ⟨l, e, rfl⟩ := e
    unfold seqT at e
    split at e
    · cases e
      obtain ⟨a, xs, rfl, h1, h2⟩ := hx.tup ok
      exact call_list_of pins s σ H _ us Q I r ⟨a, xs, rfl, .inr h1, fun p hp => q p _ hp ⟨xs, rfl, h2⟩⟩
    · cases e
      obtain ⟨a, xs, rfl, h1, h2⟩ := hx.lst ok
      exact call_list_of pins s σ H _ us Q I r ⟨a, xs, rfl, .inl (.of h1), fun p hp => q p _ hp ⟨xs, rfl, h2⟩⟩
    · cases e
  | sorted =>
    cases t with
    | lst l =>
      simp only [btT, Option.map_eq_some_iff] at e
      obtain ⟨m, e, rfl⟩ := e
      unfold sortT at e
      split at e
      · rename_i ds hd
        split at e
        · rename_i hs
          cases e
          obtain ⟨a, xs, rfl, h1, h2⟩ := hx.lst ok
          obtain ⟨u, rfl, ru⟩ := vals1 r
          cases ru
          obtain ⟨its, rv, pl, hz⟩ := I.list (.inl (.inl h1))
          obtain ⟨as, rd⟩ := Dp.readsAll I _ _ _ (h2.dp ok.sub hd) rv
          obtain ⟨s1, s2, s3⟩ := srt_alike hs.1
          have hL : l.length ≤ sizeLine := Nat.le_of_lt (lim_line hs.2)
          refine PySem.W.sorted_data (R := fun u t => ∃ x, RelV x u ∧ Is X.K α F t x) (enc := encT) pl.isList (EachIs.of_isL h2 rv) (each_reads (K := X.K) hd rd) (by rw [encs_of hd]; exact s1) (by rw [encs_of hd]; exact s2) hL (fun b hb => by
            have := s3 (encT b) (by rw [← encs_of hd]; exact List.mem_map.mpr ⟨b, hb, rfl⟩)
            omega) fun out hlo eo => ?_
          obtain ⟨ys, rvo, io⟩ := EachIs.to_isL eo
          obtain ⟨ep, he'⟩ := PyProof.Rows.sortedAll_at s.heap its out.toArray
          have hn : H (s.heap.objs.size + 1) = none := I.hok.fresh (Nat.le_succ _)
          exact ⟨.ref _, upd H (s.heap.objs.size + 1) (.lst ys), I.laid (t' := s.toks) (fun _ _ => PyProof.Rows.sortedAll_old) (Nat.le_succ _) ⟨by rw [rvo.length, hlo]; exact hL, out, ep, rvo, he'⟩, rfl, q _ _ hn ⟨ys, rfl, io⟩⟩
        · cases e
      · cases e
    | tup l =>
      simp only [btT, Option.map_eq_some_iff] at e
      obtain ⟨m, e, rfl⟩ := e
      unfold sortT at e
      split at e
      · rename_i ds hd
        split at e
        · rename_i hs
          cases e
          obtain ⟨a, xs, rfl, h1, h2⟩ := hx.tup ok
          obtain ⟨u, rfl, ru⟩ := vals1 r
          cases ru
          obtain ⟨its, rv, tup, _⟩ := I.tuple h1
          obtain ⟨as, rd⟩ := Dp.readsAll I _ _ _ (h2.dp ok.sub hd) rv
          obtain ⟨s1, s2, s3⟩ := srt_alike hs.1
          have small : l.length ≤ sizeLine := Nat.le_of_lt (lim_line hs.2)
          have shallow : ∀ b ∈ l, (encT b).depth ≤ 100 := fun b hb => s3 (encT b) (by rw [← encs_of hd]; exact List.mem_map.mpr ⟨b, hb, rfl⟩)
          refine sorted_tupD (R := fun u t => ∃ x, RelV x u ∧ Is X.K α F t x) (enc := encT) tup (EachIs.of_isL h2 rv) (each_reads (K := X.K) hd rd) (by rw [encs_of hd]; exact s1) (by rw [encs_of hd]; exact s2) small (fun b hb => by have := shallow b hb; omega) ?_
          intro g p out c h' k1 hp k2 hlo eo at_
          obtain ⟨ys, rvo, io⟩ := EachIs.to_isL eo
          have fin : ys.length ≤ sizeLine := by rw [rvo.length, hlo, List.length_mergeSort]; exact small
          have Ig : Inv X pins σ H { s with heap := g } := I.kept (t' := s.toks) k1
          exact ⟨.ref p, upd H p (.lst ys), Ig.laid (t' := s.toks) k2 hp ⟨fin, out, c, rvo, at_⟩, rfl, q _ _ (Ig.hok.fresh hp) ⟨ys, rfl, io⟩⟩
        · cases e
      · cases e
    | _ => simp [btT] at e
  | dict =>
    cases t with
    | lst l =>
      simp only [btT, Option.map_eq_some_iff] at e
      obtain ⟨kvs, e, rfl⟩ := e
      obtain ⟨a, xs, rfl, h1, h2⟩ := hx.lst ok
      obtain ⟨ps, ks, rfl, p1, i1⟩ := pairs_is ok.sub e h2
      exact call_dictP hc pins s σ H _ us Q I r ⟨a, ps, ks, rfl, .of h1, p1, fun p hp => q p _ hp ⟨_, rfl, mergeT_is i1 rfl⟩⟩
    | dct l =>
      simp only [btT] at e
      cases e
      obtain ⟨a, ks, rfl, h1, h2⟩ := hx.dct ok
      exact call_dictD pins s σ H _ us Q I r ⟨a, ks, rfl, .inl h1, fun p hp => q p _ hp ⟨_, rfl, h2⟩⟩
    | _ => simp [btT] at e
  | _ => cases hb
theorem btN_btA (hc : X.calm = true) (hu : X.A.units + 200 < cLine) {b : Bt} (hb : btNew b = true) {pins : List (Addr × Obj)} {s : Shared} {σ : L2.St} {H : Hp} {vs : List V} {us : List Value} {Q : VK} (I : Inv X pins σ H s) (r : Vals vs us) {α : List Addr} {F : Hp} {S : Store} {t w : T} (ok : OkS X.K α F S H) (hv : AllV X.K α F H [t] vs) (e : btT b [t] = some w) (q : After X.K α F S H w Q) :
    wpAny (model X.prog X.w) X.A (call b.fv us) (EP X pins σ Q) X.xe s :=
  btn_any hc hu b hb pins s σ H vs us Q I r ⟨α, F, S, t, w, ok, hv, e, fun p o hp hn => q.new ok hn hp⟩
theorem toD_inj : (∀ {a b : T} {d : PyData}, a.toD = some d → b.toD = some d → a = b) ∧ ∀ {l m : List T} {ds : List PyData}, T.toDs l = some ds → T.toDs m = some ds → l = m := by
  have key : ∀ (n : Nat), (∀ (a b : T) (d : PyData), sizeOf a ≤ n → a.toD = some d → b.toD = some d → a = b) ∧ ∀ (l m : List T) (ds : List PyData), sizeOf l ≤ n → T.toDs l = some ds → T.toDs m = some ds → l = m := by
    intro n
    induction n with
    | zero =>
      refine ⟨fun a b d h => ?_, fun l m ds h => ?_⟩
      · cases a <;> simp at h
      · cases l <;> simp at h
    | succ n ih =>
      refine ⟨fun a b d h ha hb => ?_, fun l m ds h hl hm => ?_⟩
      · cases a with
        | tup l =>
          simp only [T.toD, Option.map_eq_some_iff] at ha
          obtain ⟨xs, h1, rfl⟩ := ha
          cases b <;> simp [T.toD] at hb
          rw [ih.2 _ _ _ (by simp at h; omega) h1 hb]
        | lst l =>
          simp only [T.toD, Option.map_eq_some_iff] at ha
          obtain ⟨xs, h1, rfl⟩ := ha
          cases b <;> simp [T.toD] at hb
          rw [ih.2 _ _ _ (by simp at h; omega) h1 hb]
        | _ => simp [T.toD] at ha <;> subst ha <;> cases b <;> simp [T.toD] at hb <;> first | rfl | (subst hb; rfl) | (rw [hb])
      · cases l with
        | nil =>
          simp [T.toDs] at hl
          subst hl
          cases m with
          | nil => rfl
          | cons b m =>
            simp only [T.toDs] at hm
            split at hm <;> cases hm
        | cons a l =>
          simp only [T.toDs] at hl
          split at hl
          · rename_i d es h1 h2
            cases hl
            cases m with
            | nil => simp [T.toDs] at hm
            | cons b m =>
              simp only [T.toDs] at hm
              split at hm
              · rename_i d' es' g1 g2
                simp only [Option.some.injEq, List.cons.injEq] at hm
                obtain ⟨rfl, rfl⟩ := hm
                rw [ih.1 _ _ _ (by simp at h; omega) h1 g1, ih.2 _ _ _ (by simp at h; omega) h2 g2]
              · cases hm
          · cases hl
  exact ⟨fun {a b d} ha hb => (key (sizeOf a)).1 a b d (Nat.le_refl _) ha hb, fun {l m ds} ha hb => (key (sizeOf l)).2 l m ds (Nat.le_refl _) ha hb⟩
theorem toDs_get : ∀ {l : List T} {ds : List PyData} {i : Nat} {t : T}, T.toDs l = some ds → l[i]? = some t → ∃ d, ds[i]? = some d ∧ t.toD = some d
  | [], _, _, _, _, h => by simp at h
  | a :: l, ds, i, t, e, h => by
    simp only [T.toDs] at e
    split at e
    · rename_i d es h1 h2
      cases e
      cases i with
      | zero => cases h; exact ⟨d, rfl, h1⟩
      | succ i => exact toDs_get (i := i) h2 (by simpa using h)
    · cases e
theorem enc_toD {t : T} {d : PyData} (h : t.toD = some d) : encT t = d := by simp [encT, h]
theorem minF_mem : ∀ (ts : List T) (t : T), minF t ts ∈ t :: ts
  | [], t => by simp [minF]
  | y :: ts, t => by
    have := minF_mem ts (if W.dataLt (encT y) (encT t) = true then y else t)
    have e : minF t (y :: ts) = minF (if W.dataLt (encT y) (encT t) = true then y else t) ts := rfl
    rw [e]
    split at this
    · rename_i h; rw [if_pos h]; exact List.mem_cons_of_mem _ this
    · rename_i h; rw [if_neg h]
      rcases List.mem_cons.mp this with h' | h'
      · rw [h']; simp
      · exact List.mem_cons_of_mem _ (List.mem_cons_of_mem _ h')
theorem minF_enc : ∀ (ts : List T) (t : T), encT (minF t ts) = W.minD (encT t) (ts.map encT)
  | [], t => rfl
  | y :: ts, t => by
    have e : minF t (y :: ts) = minF (if W.dataLt (encT y) (encT t) = true then y else t) ts := rfl
    have e2 : W.minD (encT t) ((y :: ts).map encT) = W.minD (if W.dataLt (encT y) (encT t) = true then encT y else encT t) (ts.map encT) := rfl
    rw [e, e2, minF_enc ts]
    split <;> rfl
theorem alike_of {ds : List PyData} (h : alikeB ds = true) : W.AlikeAll ds ∧ PyData.depthAll ds ≤ 100 := by
  simp only [alikeB, Bool.and_eq_true, decide_eq_true_eq] at h
  obtain ⟨⟨h1, h2⟩, h3⟩ := h
  refine ⟨⟨fun x hx y hy => List.all_eq_true.mp (List.all_eq_true.mp h1 x hx) y hy, fun x hx e => ?_⟩, h2⟩
  subst e
  have := List.all_eq_true.mp h3 _ hx
  simp at this
theorem vals_back {xs : List V} {us : List Value} {i : Nat} {u : Value} (h : Vals xs us) (hu : us[i]? = some u) : ∃ x, xs[i]? = some x ∧ RelV x u := by
  have hi : i < xs.length := by
    have := (List.getElem?_eq_some_iff.mp hu).1
    rw [h.length]; exact this
  obtain ⟨u', e, r⟩ := h.get (List.getElem?_eq_getElem hi)
  rw [hu] at e; cases e
  exact ⟨_, List.getElem?_eq_getElem hi, r⟩
theorem ints_toDs : ∀ {l : List T} {ns : List Int}, intsT l = some ns → T.toDs l = some (ns.map PyData.int)
  | [], ns, h => by cases h; rfl
  | t :: l, ns, h => by
    cases t with
    | int i =>
      simp only [intsT, Option.map_eq_some_iff] at h
      obtain ⟨ms, h, rfl⟩ := h
      simp [T.toDs, T.toD, ints_toDs h]
    | _ => simp [intsT] at h
theorem maxI_foldl (n : Int) : ∀ ms : List Int, ms.foldl (fun a b => if b > a then b else a) n = ms.foldl max n := by
  intro ms
  induction ms generalizing n with
  | nil => rfl
  | cons m ms ih =>
    simp only [List.foldl_cons]
    rw [ih]
    congr 1
    show (if m > n then m else n) = max n m
    by_cases h : m > n
    · rw [if_pos h]; omega
    · rw [if_neg h]; omega
section
variable {X : Cx}
theorem max_tupI (hc : X.calm = true) (hu : X.A.units + 200 < cLine) {pins : List (Addr × Obj)} {s : Shared} {σ : L2.St} {H : Hp} {us : List Value} {Q : VK} (I : Inv X pins σ H s) {a : Addr} (r : Vals [.ref a] us) {α : List Addr} {F : Hp} {S : Store} {l : List T} {m : Int} {ns : List Int} {xs : List V} (ok : OkS X.K α F S H) (h1 : SqT X.K H a xs) (h2 : IsL X.K α F l xs) (en : intsT l = some ns) (e : maxI ns = some m) (q : Q (.int m) H) :
    wpAny (model X.prog X.w) X.A (call (.builtin "max") us) (EP X pins σ Q) X.xe s := by
  cases ns with
  | nil => cases e
  | cons n ms =>
    have hd := ints_toDs en
    obtain ⟨u, rfl, ru⟩ := vals1 r
    cases ru
    obtain ⟨its, rv, pl, hz⟩ := I.tuple h1
    obtain ⟨as, rd⟩ := Dp.readsAll I _ _ _ (h2.dp ok.sub hd) rv
    have al : W.AlikeAll ((n :: ms).map PyData.int) := ⟨fun x hx y hy => by
      obtain ⟨i, _, rfl⟩ := List.mem_map.mp hx
      obtain ⟨j, _, rfl⟩ := List.mem_map.mp hy
      rfl, fun x hx => by
      obtain ⟨i, _, rfl⟩ := List.mem_map.mp hx
      exact fun z => by cases z⟩
    refine W.max_tuple_data (I.ok.hd hc) pl rd al (by rw [show PyData.depthAll (PyData.int n :: ms.map PyData.int) = 0 from W.depth_ints (n :: ms)]; omega) fun i v h' tk bs hi rdv keep => ?_
    rw [W.maxD_ints] at rdv
    cases rdv
    simp only [maxI, Option.some.injEq] at e
    rw [maxI_foldl] at e
    subst e
    exact ⟨V.int _, H, I.kept keep, ⟨_, rfl⟩, q⟩
theorem min_data (hc : X.calm = true) (hu : X.A.units + 200 < cLine) {pins : List (Addr × Obj)} {s : Shared} {σ : L2.St} {H : Hp} {us : List Value} {Q : VK} (I : Inv X pins σ H s) {a : Addr} (r : Vals [.ref a] us) {α : List Addr} {F : Hp} {S : Store} {l : List T} {w : T} (ok : OkS X.K α F S H) {xs : List V} (h1 : H a = some (.lst xs)) (h2 : IsL X.K α F l xs) (e : minT l = some w) (q : After X.K α F S H w Q) :
    wpAny (model X.prog X.w) X.A (call (.builtin "min") us) (EP X pins σ Q) X.xe s := by
  cases l with
  | nil => simp [minT] at e
  | cons t ts =>
    simp only [minT] at e
    split at e
    · rename_i ds hd
      split at e
      · rename_i hb
        cases e
        obtain ⟨al, dpt⟩ := alike_of hb
        obtain ⟨u, rfl, ru⟩ := vals1 r
        cases ru
        obtain ⟨its, rv, pl, hz⟩ := I.list (.inl (.inl h1))
        obtain ⟨as, rd⟩ := Dp.readsAll I _ _ _ (h2.dp ok.sub hd) rv
        have hds : ds = encT t :: ts.map encT := (encs_of hd).symm
        subst hds
        refine W.min_list_data (I.ok.hd hc) pl.isList rd al (by omega) fun i v h' tk bs hi rdv keep => ?_
        obtain ⟨x, hx, rx⟩ := vals_back rv (by simpa using hi)
        obtain ⟨t', ht', ix⟩ := h2.get' hx
        obtain ⟨d, hd1, hd2⟩ := toDs_get hd ht'
        obtain ⟨as2, rd2⟩ := Dp.reads I _ _ _ (ix.dp ok.sub hd2) rx
        have ed := (PyProof.Rows.reads_det (fun b o h _ => keep b o h) rd2 rdv).1
        obtain ⟨j, hj⟩ := List.getElem?_of_mem (minF_mem ts t)
        obtain ⟨d2, _, hd3⟩ := toDs_get hd hj
        have e3 : d2 = d := by
          rw [← enc_toD hd3, minF_enc, ← ed]
        subst e3
        have et := toD_inj.1 hd2 hd3
        subst et
        exact ⟨x, H, I.kept keep, rx, q.now ok ix⟩
      · cases e
    · cases e
end
theorem bt_any (hc : X.calm = true) (hu : X.A.units + 200 < cLine) (b : Bt) : CallR X b.fv (rBt b X.K) := by
  intro pins s σ H vs us Q I r h
  obtain ⟨α, F, S, ts, w, ok, hv, e, q⟩ := h
  unfold btT at e
  split at e
  · -- len
    simp only [Option.map_eq_some_iff] at e
    obtain ⟨n, e, rfl⟩ := e
    obtain ⟨x, rfl, hx⟩ := hv.one
    have q' : Q (.int (n : Int)) H := q.now ok rfl
    unfold lenT at e
    split at e
    · cases e
      obtain ⟨a, xs, rfl, h1, h2⟩ := hx.tup ok
      exact call_len pins s σ H _ us Q I r ⟨_, _, rfl, .inr ⟨xs, h1, h2.length⟩, q'⟩
    · cases e
      obtain ⟨a, xs, rfl, h1, h2⟩ := hx.lst ok
      exact call_len pins s σ H _ us Q I r ⟨_, _, rfl, .inl ⟨xs, .of h1, h2.length⟩, q'⟩
    · split at e
      · rename_i hl; cases e; rw [hx.str] at r
        exact call_len pins s σ H _ us Q I r ⟨_, _, rfl, ⟨Nat.le_of_lt (lim_line hl), rfl⟩, q'⟩
      · cases e
    · cases e
      obtain ⟨a, kvs, rfl, h1, h2⟩ := hx.dct ok
      obtain ⟨u, rfl, ru⟩ := vals1 r
      cases ru
      refine d_len I (.inl h1) fun t s' I' => ⟨.int _, H, I', ⟨t, rfl⟩, ?_⟩
      rw [← h2.length]; exact q'
    · cases e
      rcases hx with hx | ⟨a, xs, m, e1, _⟩ | ⟨a, xs, m, e1, _⟩
      · exact hx.elim
      · cases e1
      · cases e1
    · rename_i ns
      cases e
      obtain ⟨a, rfl, h1⟩ := hx.scr ok
      exact call_len pins s σ H _ us Q I r ⟨_, _, rfl, .inl ⟨_, h1, by simp⟩, q'⟩
    · cases e
  · simp only [Option.map_eq_some_iff] at e
    obtain ⟨bs, e, rfl⟩ := e
    obtain ⟨x, rfl, hx⟩ := hv.one
    obtain ⟨a, xs, rfl, h1, h2⟩ := hx.lst ok
    have := h2.bls e; subst this
    exact cr_all hc pins s σ H _ us Q I r ⟨a, bs, rfl, .of h1, q.now ok rfl⟩
  · simp only [Option.map_eq_some_iff] at e
    obtain ⟨bs, e, rfl⟩ := e
    obtain ⟨x, rfl, hx⟩ := hv.one
    obtain ⟨a, xs, rfl, h1, h2⟩ := hx.lst ok
    have := h2.bls e; subst this
    exact cr_any hc pins s σ H _ us Q I r ⟨a, bs, rfl, .of h1, q.now ok rfl⟩
  · split at e
    · rename_i ns en
      simp only [Option.map_eq_some_iff] at e
      obtain ⟨m, e, rfl⟩ := e
      obtain ⟨x, rfl, hx⟩ := hv.one
      obtain ⟨a, xs, rfl, h1, h2⟩ := hx.lst ok
      have := h2.ints en; subst this
      exact cr_max hc pins s σ H _ us Q I r ⟨a, ns, rfl, .of h1, (maxI_spec e).1, fun k k1 k2 => by rw [maxI_uniq e k1 k2]; exact q.now ok rfl⟩
    · cases e
  · cases e
    obtain ⟨x, y, rfl, hx, hy⟩ := hv.two
    rw [hx.int, hy.int] at r
    exact call_max2 hc pins s σ H _ us Q I r ⟨_, _, rfl, q.now ok rfl⟩
  · cases e
    obtain ⟨x, y, rfl, hx, hy⟩ := hv.two
    rw [hx.int, hy.int] at r
    exact call_min2 hc pins s σ H _ us Q I r ⟨_, _, rfl, q.now ok rfl⟩
  · exact btN_btA (b := .list) hc hu rfl I r ok hv e q
  · simp only [Option.map_eq_some_iff] at e
    obtain ⟨l, e, rfl⟩ := e
    obtain ⟨x, rfl, hx⟩ := hv.one
    unfold seqT at e
    split at e
    · cases e
      obtain ⟨a, xs, e2, h1, h2⟩ := hx.tup ok
      subst e2
      exact call_tuple_of pins s σ H _ us Q I r ⟨a, xs, rfl, .inr ⟨h1, q.now ok hx.tupF⟩⟩
    · cases e
      obtain ⟨a, xs, rfl, h1, h2⟩ := hx.lst ok
      exact call_tuple_of pins s σ H _ us Q I r ⟨a, xs, rfl, .inl ⟨.of h1, fun p hp => q.tup ok h2 hp⟩⟩
    · cases e
  · cases e
    obtain ⟨x, rfl, hx⟩ := hv.one
    rw [hx.int] at r
    exact call_abs pins s σ H _ us Q I r ⟨_, rfl, q.now ok rfl⟩
  · cases e
    obtain ⟨x, rfl, hx⟩ := hv.one
    rw [hx.bl] at r
    exact call_int1 pins s σ H _ us Q I r (.inr ⟨_, rfl, q.now ok rfl⟩)
  · cases e
    obtain ⟨x, rfl, hx⟩ := hv.one
    rw [hx.int] at r
    exact call_int1 pins s σ H _ us Q I r (.inl ⟨_, rfl, q.now ok rfl⟩)
  · exact btN_btA (b := .sorted) hc hu rfl I r ok hv e q
  · exact btN_btA (b := .sorted) hc hu rfl I r ok hv e q
  · exact btN_btA (b := .dict) hc hu rfl I r ok hv e q
  · exact btN_btA (b := .dict) hc hu rfl I r ok hv e q
  · obtain ⟨x, rfl, hx⟩ := hv.one
    obtain ⟨a, xs, rfl, h1, h2⟩ := hx.lst ok
    exact min_data hc hu I r ok h1 h2 e q
  · split at e
    · rename_i ns en
      simp only [Option.map_eq_some_iff] at e
      obtain ⟨m, e, rfl⟩ := e
      obtain ⟨x, rfl, hx⟩ := hv.one
      obtain ⟨a, xs, rfl, h1, h2⟩ := hx.tup ok
      exact max_tupI hc hu I r ok h1 h2 en e (q.now ok rfl)
    · cases e
  · cases e
end
end RD

/-! enumerate(v), v anything whose iterator begins with one object. (Takes the place of the beginning of RDg.) -/
namespace RD
open PySem PySem.Spec PyProof.Rows L2
section
variable {P : Program} {w : World} {A : Around} {E : Value → Shared → Prop} {s : Shared} {v : Value}
/-- an enumerate as it is laid -/
abbrev enumObj (it : Value) : Obj := { cls := .type "enumerate", data := .fields #[.none, .bool false, it, rawInt 0, .none, .none] }
theorem enum_new {R : Value → Shared → Prop} (q : wpAny (model P w) A (pyIter v) (fun it s' => R (.ref s'.heap.objs.size) { s' with heap := s'.heap.push (enumObj it) }) E s) :
    wpAny (model P w) A (Builtin.«enumerate.__new__» ⟨[.type "enumerate", v], []⟩) (fun f s' => ∃ x, f = .done (.ret x) ∧ R x s') E s := by
  unfold Builtin.«enumerate.__new__»
  refine wpAny_bind (wpAny_of_eq (a := (Value.type "enumerate", [v])) (by kernel_rfl) ?_)
  dsimp only
  rw [if_pos (show (Value.type "enumerate" == Value.type "enumerate") = true by decide)]
  refine wpAny_bind ?_
  unfold Builtin.SmallTypes.calledThroughType
  refine wpAny_bind (wpAny_stack_any fun st => wpAny_pure ?_)
  refine iteInduction (motive := fun m => wpAny (model P w) A m _ E s) (fun _ => ?_) fun _ => ?_
  all_goals
    refine wpAny_bind (wpAny_of_eq (a := (v, none)) (by kernel_rfl) ?_)
    refine wpAny_bind (wpAny_mono q (fun it s' h => ?_) fun _ _ h => h)
    refine wpAny_bind ?_
    show wpAny _ _ (newObj (.type "enumerate") (.fields #[.none, .bool false, it, rawInt 0, .none, .none])) _ _ s'
    exact wpAny_newObj_type (wpAny_pure ⟨_, rfl, h⟩)
/-- enumerate(v): the iterator's object, and the enumerate over it -/
theorem enum_call {o : Obj} {H : Heap → Prop} {Q : Value → Shared → Prop} (B : Begins v o H) (h1 : H s.heap)
    (q : ∀ h', IsEnum h' (s.heap.objs.size + 1) s.heap.objs.size 0 .none → h'.get? s.heap.objs.size = some o → (∀ b ob, s.heap.get? b = some ob → h'.get? b = some ob) → Q (.ref (s.heap.objs.size + 1)) { s with heap := h' }) :
    wpAny (model P w) A (call (.type "enumerate") [v]) Q E s := by
  have new : Meets (Builtin.«enumerate.__new__» ⟨[.type "enumerate", v], []⟩) fun _ R s => H s.heap ∧ R (.ok (.ret (.ref (s.heap.push o).objs.size))) { s with heap := (s.heap.push o).push (enumObj (.ref s.heap.objs.size)) } :=
    .of_wp fun P w A R s h => enum_new (R := fun v s' => R (.ok (.ret v)) s') (B.iter P w _ _ s _ h.1 h.2)
  refine callType_new F.called_enumerate (by decide) (F.typeCall_enumerate_1 _) (F.newCall_enumerate_1 _) (fun obj => F.args_object_init_2 obj _) F.entry_enumerate_new new ⟨h1, ?_⟩
  have up : ∀ b ob, s.heap.get? b = some ob → ((s.heap.push o).push (enumObj (.ref s.heap.objs.size))).get? b = some ob := fun b ob e => Heap.get?_push_of_some _ (Heap.get?_push_of_some _ e)
  have one : ((s.heap.push o).push (enumObj (.ref s.heap.objs.size))).get? s.heap.objs.size = some o := Heap.get?_push_of_some _ (Heap.get?_push_size _ B.free)
  have two : ((s.heap.push o).push (enumObj (.ref s.heap.objs.size))).get? (s.heap.objs.size + 1) = some (enumObj (.ref s.heap.objs.size)) := by
    rw [← Heap.size_push s.heap o]; exact Heap.get?_push_size _ rfl
  have size : (s.heap.push o).objs.size = s.heap.objs.size + 1 := Heap.size_push s.heap o
  exact ⟨⟨_, by rw [size]; exact two, rfl⟩, by rw [size]; exact q _ two one up⟩
end
end RD

namespace RD
open PySem PySem.Spec PyProof.Rows L2

/-! ### a list or a tuple, by a Bool -/
def SqB (K : PySem.W.Frag) (H : Hp) : Bool → Addr → List V → Prop
  | true, a, xs => SqL K H a xs
  | false, a, xs => SqT K H a xs
def ItB (h : Heap) : Bool → Addr → Addr → Nat → Prop
  | true, it, a, i => h.IsListIter it a i
  | false, it, a, i => h.IsTupleIter it a i
def DatB (h : Heap) : Bool → Addr → Array Value → Prop
  | true, a, its => h.IsList a its
  | false, a, its => h.IsTuple a its
def obB : Bool → Addr → Obj
  | true, a => { cls := .type "list_iterator", data := .fields #[.ref a, .int 0 0] }
  | false, a => { cls := .type "tuple_iterator", data := .fields #[.ref a, .int 0 0] }
theorem drawsB {prog : Program} {w : World} {A : Around} (hh : A.handled = none) (k : Bool) (it a : Addr) (hne : a ≠ it) (items : Array Value) :
    Draws prog w A it [it, a] items.size (fun i v => items[i]? = some v) (fun i h => ItB h k it a i ∧ DatB h k a items) := by
  cases k with
  | true => exact Draws.list hh it a hne items
  | false => exact Draws.tuple hh it a hne items
theorem beginsB (k : Bool) (a : Addr) (items : Array Value) : Begins (.ref a) (obB k a) fun h => DatB h k a items := by
  cases k with
  | true => exact begins_list a items
  | false => exact begins_tuple a items
theorem itB_start {h : Heap} {k : Bool} {it a : Addr} (e : h.get? it = some (obB k a)) : ItB h k it a 0 := by
  cases k with
  | true => exact ⟨_, e, rfl, rfl⟩
  | false => exact ⟨_, e, rfl, rfl⟩
theorem ItB.at {h h' : Heap} {k : Bool} {it a : Addr} {i : Nat} (x : ItB h k it a i) (hk : ∀ o, h.get? it = some o → h'.get? it = some o) : ItB h' k it a i := by
  cases k with
  | true => exact Heap.IsListIter.at x hk
  | false => exact Heap.IsTupleIter.at x hk
theorem ItB.obj {h : Heap} {k : Bool} {it a : Addr} {i : Nat} (x : ItB h k it a i) : ∃ o, h.get? it = some o ∧ ∀ v, o.data ≠ .cell v := by
  cases k with
  | true => obtain ⟨o, e, _, d⟩ := x; exact ⟨o, e, fun v z => by rw [d] at z; cases z⟩
  | false => obtain ⟨o, e, _, d⟩ := x; exact ⟨o, e, fun v z => by rw [d] at z; cases z⟩
section
variable {X : Cx} {pins : List (Addr × Obj)} {σ : L2.St} {H : Hp} {s : Shared}
theorem inv_sqB (I : Inv X pins σ H s) {k : Bool} {a : Addr} {xs : List V} (h : SqB X.K H k a xs) : ∃ its : List Value, Vals xs its ∧ DatB s.heap k a its.toArray ∧ a < s.heap.objs.size := by
  cases k with
  | true => obtain ⟨its, r, p, _⟩ := I.list h; exact ⟨its, r, p.isList, p.lt⟩
  | false => obtain ⟨its, r, p, _⟩ := I.tuple h; exact ⟨its, r, p, p.lt⟩
theorem inv_sqB_inj (I : Inv X pins σ H s) {k : Bool} {a : Addr} {xs ys : List V} (h : SqB X.K H k a xs) (g : SqB X.K H k a ys) : xs = ys := by
  cases k with
  | true => exact I.list_inj h g
  | false => exact I.tuple_inj h g
end

/-! ### iterators that hand out new tuples -/
/-- at turn i a new tuple of the row; n rows -/
def ItR (row rowU : Nat → Hp → List V → Prop) (stop : Nat → Hp → Prop) : It :=
  ⟨fun i H => ∃ r, row i H r, fun i H v H' => ∃ T r, v = .ref T ∧ H T = none ∧ H' = upd H T (.tup r) ∧ rowU i H r, stop⟩
/-- a turn by GoesN -/
theorem turn_rows {P : Program} {w : World} {K : PySem.W.Frag} {elts : List Expr} {kk : Nat} {tpos : Pos} {row rowU : Nat → Hp → List V → Prop} {stop : Nat → Hp → Prop} {fp : List Addr} {z : Addr} {tn : Nat → Heap → Prop} (hz : z ∈ fp)
    (obj : ∀ i h, tn i h → ∀ b ∈ fp, ∃ o, h.get? b = some o ∧ ∀ v, o.data ≠ .cell v)
    (keep : ∀ i h h', tn i h → (∀ b ∈ fp, ∀ o, h.get? b = some o → h'.get? b = some o) → tn i h')
    (item : ∀ (X : Cx), X.prog = P → X.w = w → X.K = K → X.calm = true → ∀ (i : Nat) (pins : List (Addr × Obj)) (s : Shared) (σ : L2.St) (H : Hp) (r : List V), Inv X pins σ H s → tn i s.heap → row i H r →
      ∃ n Y St fx wr, GoesN P w X.A (.Tuple elts kk tpos) z fx wr n Y St ∧ i < n ∧ St i s.heap ∧ (∀ b ∈ wr, b ∈ fp) ∧ ∀ v h', Y i s.heap v h' → St (i + 1) h' → tn (i + 1) h' ∧ ∃ T us, v = Value.ref T ∧ s.heap.objs.size ≤ T ∧ IsTup h' T (List.toArray us) ∧ Vals r us ∧ r.length ≤ sizeLine)
    (done : ∀ (X : Cx), X.prog = P → X.w = w → X.K = K → X.calm = true → ∀ (i : Nat) (pins : List (Addr × Obj)) (s : Shared) (σ : L2.St) (H : Hp), Inv X pins σ H s → tn i s.heap → stop i H →
      ∃ Y St fx wr, GoesN P w X.A (.Tuple elts kk tpos) z fx wr i Y St ∧ St i s.heap ∧ (∀ b ∈ wr, b ∈ fp))
    (self : ∀ (A : Around) (i : Nat) (s : Shared) (Q : Value → Shared → Prop) (E : Value → Shared → Prop), tn i s.heap → Q (.ref z) s → wpAny (model P w) A (pyIter (.ref z)) Q E s)
    (uni : ∀ (X : Cx), X.K = K → ∀ (i : Nat) (pins : List (Addr × Obj)) (s : Shared) (σ : L2.St) (H : Hp) (r : List V), Inv X pins σ H s → row i H r → rowU i H r) :
    Turn P w K (.Tuple elts kk tpos) (ItR row rowU stop) fp z tn where
  mem := hz
  obj := obj
  keep := keep
  item := by
    intro X hP hw hK hc i pins s σ H E I hf st hg
    obtain ⟨r, hr⟩ := hg
    have hrU := uni X hK i pins s σ H r I hr
    obtain ⟨n, Y, St, fx, wr, W, hi, st0, hwr, hy⟩ := item X hP hw hK hc i pins s σ H r I st hr
    subst hP hw hK
    refine W.goes i s _ E hi st0 fun v h' tk hY st' hk htk => ?_
    obtain ⟨tn', T, us, rfl, hT, hT2, rv, hl⟩ := hy v h' hY st'
    have hf' : ∀ b ∈ wr, FpOk X pins H b := fun b hb => hf b (hwr b hb)
    have new : ObjOk X.prog X.w (upd H T (.tup r)) h' T (.tup r) := ⟨hl, us, rv, hT2⟩
    have I1 : Inv X pins σ (upd H T (.tup r)) { s with heap := h', toks := tk } := I.turnedNew (t' := tk) (ch := wr) hk hf' hT new
    have hn : H T = none := I.hok.fresh hT
    refine ⟨.ref T, _, I1, rfl, ⟨T, r, rfl, hn, rfl, hrU⟩, tn', fun b hb => ?_⟩
    have hlt : b < s.heap.objs.size := by
      obtain ⟨o, e, _⟩ := obj i s.heap st b hb
      exact Heap.lt_size e
    rw [upd_ne (Nat.ne_of_lt (Nat.lt_of_lt_of_le hlt hT))]
    exact (hf b hb).1
  done := by
    intro X hP hw hK hc i pins s σ H E I hf st hg
    obtain ⟨Y, St, fx, wr, W, st0, hwr⟩ := done X hP hw hK hc i pins s σ H I st hg
    subst hP hw hK
    refine W.stops s _ E st0 fun h' tk hk htk => ?_
    exact I.turnedL (t' := tk) (ch := wr) hk fun b hb => hf b (hwr b hb)
  self := self

/-- enumerate: its rows -/
def rowE (K : PySem.W.Frag) (k : Bool) (a : Addr) : Nat → Hp → List V → Prop := fun i H r => ∃ xs x, SqB K H k a xs ∧ xs[i]? = some x ∧ r = [.int (i : Int), x]
def rowEU (K : PySem.W.Frag) (k : Bool) (a : Addr) : Nat → Hp → List V → Prop := fun i H r => ∃ x, (∀ xs, SqB K H k a xs → xs[i]? = some x) ∧ r = [.int (i : Int), x]
def stopE (K : PySem.W.Frag) (k : Bool) (a : Addr) : Nat → Hp → Prop := fun i H => ∃ xs, SqB K H k a xs ∧ xs.length = i
theorem turn_enumB {P : Program} {w : World} {K : PySem.W.Frag} {elts : List Expr} {kk : Nat} {tpos : Pos} (k : Bool) (a e it : Addr) (hei : e ≠ it) (hea : e ≠ a) (hai : a ≠ it) :
    Turn P w K (.Tuple elts kk tpos) (ItR (rowE K k a) (rowEU K k a) (stopE K k a)) [e, it] e (fun i h => (∃ old, IsEnum h e it (i : Int) old) ∧ ItB h k it a i) := by
  refine turn_rows (by simp) (fun i h st b hb => ?_) (fun i h h' st kp => ?_) (fun X hP hw hK hc i pins s σ H r I st hr => ?_) (fun X hP hw hK hc i pins s σ H I st hr => ?_) (fun A i s Q E st h => ?_) (fun X hK i pins s σ H r I hr => ?_)
  · obtain ⟨⟨old, he⟩, hi⟩ := st
    have e' : b = e ∨ b = it := by simpa using hb
    rcases e' with q | q
    · rw [q]; exact ⟨_, he, fun v z => nomatch z⟩
    · rw [q]; exact hi.obj
  · obtain ⟨⟨old, he⟩, hi⟩ := st
    exact ⟨⟨old, kp e (by simp) _ he⟩, hi.at fun o q => kp it (by simp) o q⟩
  · subst hP hw hK
    obtain ⟨⟨old, he⟩, hi⟩ := st
    obtain ⟨xs, x, hq, hx, rfl⟩ := hr
    obtain ⟨its, rv, dat, _⟩ := inv_sqB I hq
    obtain ⟨u, hu, ru⟩ := rv.get hx
    have hh : X.A.in1.handled = none := I.ok.hd hc
    refine ⟨_, _, _, _, _, GoesN.enumFrom 0 (drawsB hh k it a hai its.toArray) e hei (by simp [hei, hea]) (by simp), ?_, ⟨⟨old, by simpa using he⟩, hi, dat⟩, ?_, fun v h' hY hS => ?_⟩
    · have := (List.getElem?_eq_some_iff.mp hx).1
      have := rv.length
      simp; omega
    · intro b hb; exact hb
    · obtain ⟨T, t, y, rfl, hn, hy, hT⟩ := hY
      obtain ⟨⟨old', he'⟩, hi', _⟩ := hS
      have ey : y = u := by
        have : its.toArray[i]? = some u := by simpa using hu
        rw [this] at hy; exact (Option.some.inj hy).symm
      subst ey
      refine ⟨⟨⟨old', by simpa using he'⟩, hi'⟩, T, [.int (0 + (i : Int)) t, y], rfl, hn, hT, .cons ⟨t, by simp⟩ (.cons ru .nil), by show 2 ≤ sizeLine; decide⟩
  · subst hP hw hK
    obtain ⟨⟨old, he⟩, hi⟩ := st
    obtain ⟨xs, hq, hl⟩ := hr
    obtain ⟨its, rv, dat, _⟩ := inv_sqB I hq
    have hh : X.A.in1.handled = none := I.ok.hd hc
    have W := GoesN.enumFrom (elts := elts) (x1 := kk) (pos := tpos) 0 (drawsB (prog := X.prog) (w := X.w) (A := X.A.in1) hh k it a hai its.toArray) e hei (by simp [hei, hea]) (by simp)
    have en : its.toArray.size = i := by have := rv.length; simp; omega
    rw [en] at W
    exact ⟨_, _, _, _, W, ⟨⟨old, by simpa using he⟩, hi, dat⟩, fun b hb => hb⟩
  · obtain ⟨⟨old, he⟩, _⟩ := st
    exact wpAny_pyIter_enum he h
  · subst hK
    obtain ⟨xs, x, hq, hx, rfl⟩ := hr
    exact ⟨x, fun ys hy => by rw [inv_sqB_inj I hy hq]; exact hx, rfl⟩

/-- zip of two -/
def row2 (K : PySem.W.Frag) (k1 k2 : Bool) (a b : Addr) : Nat → Hp → List V → Prop := fun i H r => ∃ xs ys x y, SqB K H k1 a xs ∧ SqB K H k2 b ys ∧ xs[i]? = some x ∧ ys[i]? = some y ∧ r = [x, y]
def row2U (K : PySem.W.Frag) (k1 k2 : Bool) (a b : Addr) : Nat → Hp → List V → Prop := fun i H r => ∃ x y, (∀ xs, SqB K H k1 a xs → xs[i]? = some x) ∧ (∀ ys, SqB K H k2 b ys → ys[i]? = some y) ∧ r = [x, y]
def stop2 (K : PySem.W.Frag) (k1 k2 : Bool) (a b : Addr) : Nat → Hp → Prop := fun i H => ∃ xs ys, SqB K H k1 a xs ∧ SqB K H k2 b ys ∧ min xs.length ys.length = i
theorem turn_zip2B {P : Program} {w : World} {K : PySem.W.Frag} {elts : List Expr} {kk : Nat} {tpos : Pos} (k1 k2 : Bool) (a b N : Addr) (ha : a < N) (hb : b < N) :
    Turn P w K (.Tuple elts kk tpos) (ItR (row2 K k1 k2 a b) (row2U K k1 k2 a b) (stop2 K k1 k2 a b)) [N + 4, N + 2, N + 3, N, N + 1] (N + 4) (fun i h => IsZip h (N + 4) (N + 2) (N + 3) .none ∧ IsTupOf2 h (N + 2) (.ref N) (.ref (N + 1)) ∧ (∃ a1 a2, IsTupOf2 h (N + 3) a1 a2) ∧ ItB h k1 N a i ∧ ItB h k2 (N + 1) b i) := by
  have S2 : ZipSep2 (N + 4) (N + 2) (N + 3) N (N + 1) [N, a] [N + 1, b] := zip_sep2 (N := N) (fp1 := [a]) (fp2 := [b]) (by simpa using ha) (by simpa using hb)
  have n1 : a ≠ N := Nat.ne_of_lt ha
  have n2 : b ≠ N + 1 := Nat.ne_of_lt (Nat.lt_succ_of_lt hb)
  refine turn_rows (by simp) (fun i h st c hc => ?_) (fun i h h' st kp => ?_) (fun X hP hw hK hc i pins s σ H r I st hr => ?_) (fun X hP hw hK hc i pins s σ H I st hr => ?_) (fun A i s Q E st h => ?_) (fun X hK i pins s σ H r I hr => ?_)
  · obtain ⟨hz, hTI, ⟨x, y, hTO⟩, h1, h2⟩ := st
    have e' : c = N + 4 ∨ c = N + 2 ∨ c = N + 3 ∨ c = N ∨ c = N + 1 := by simpa using hc
    rcases e' with q | q | q | q | q
    · rw [q]; exact ⟨_, hz, fun v q => nomatch q⟩
    · rw [q]; exact ⟨_, hTI, fun v q => nomatch q⟩
    · rw [q]; exact ⟨_, hTO, fun v q => nomatch q⟩
    · rw [q]; exact h1.obj
    · rw [q]; exact h2.obj
  · obtain ⟨hz, hTI, ⟨x, y, hTO⟩, h1, h2⟩ := st
    exact ⟨kp _ (by simp) _ hz, kp _ (by simp) _ hTI, ⟨x, y, kp _ (by simp) _ hTO⟩, h1.at fun o q => kp _ (by simp) o q, h2.at fun o q => kp _ (by simp) o q⟩
  · subst hP hw hK
    obtain ⟨hz, hTI, hTO, h1, h2⟩ := st
    obtain ⟨xs, ys, x, y, hqx, hqy, hx, hy, rfl⟩ := hr
    obtain ⟨its, rv, dat, _⟩ := inv_sqB I hqx
    obtain ⟨its2, rv2, dat2, _⟩ := inv_sqB I hqy
    obtain ⟨u, hu, ru⟩ := rv.get hx
    obtain ⟨u2, hu2, ru2⟩ := rv2.get hy
    have hh : X.A.in1.handled = none := I.ok.hd hc
    refine ⟨_, _, _, _, _, GoesN.zip2 S2 (drawsB hh k1 N a n1 its.toArray) (drawsB hh k2 (N + 1) b n2 its2.toArray), ?_, ⟨hz, hTI, hTO, ⟨h1, dat⟩, h2, dat2⟩, ?_, fun v h' hY hS => ?_⟩
    · have := (List.getElem?_eq_some_iff.mp hx).1
      have := (List.getElem?_eq_some_iff.mp hy).1
      have := rv.length
      have := rv2.length
      simp; omega
    · intro c hb; simp at hb ⊢; rcases hb with q | q | q | q <;> simp [q]
    · obtain ⟨T, y1, y2, rfl, hn, hy1, hy2, hT⟩ := hY
      obtain ⟨hz', hTI', hTO', ⟨h1', _⟩, h2', _⟩ := hS
      have e1 : y1 = u := by
        have : its.toArray[i]? = some u := by simpa using hu
        rw [this] at hy1; exact (Option.some.inj hy1).symm
      have e2 : y2 = u2 := by
        have : its2.toArray[i]? = some u2 := by simpa using hu2
        rw [this] at hy2; exact (Option.some.inj hy2).symm
      subst e1 e2
      exact ⟨⟨hz', hTI', hTO', h1', h2'⟩, T, [y1, y2], rfl, hn, hT, .cons ru (.cons ru2 .nil), by show 2 ≤ sizeLine; decide⟩
  · subst hP hw hK
    obtain ⟨hz, hTI, hTO, h1, h2⟩ := st
    obtain ⟨xs, ys, hqx, hqy, hl⟩ := hr
    obtain ⟨its, rv, dat, _⟩ := inv_sqB I hqx
    obtain ⟨its2, rv2, dat2, _⟩ := inv_sqB I hqy
    have hh : X.A.in1.handled = none := I.ok.hd hc
    have W := GoesN.zip2 (elts := elts) (x1 := kk) (pos := tpos) S2 (drawsB (prog := X.prog) (w := X.w) (A := X.A.in1) hh k1 N a n1 its.toArray) (drawsB (prog := X.prog) (w := X.w) (A := X.A.in1) hh k2 (N + 1) b n2 its2.toArray)
    have en : min its.toArray.size its2.toArray.size = i := by have := rv.length; have := rv2.length; simp; omega
    rw [en] at W
    exact ⟨_, _, _, _, W, ⟨hz, hTI, hTO, ⟨h1, dat⟩, h2, dat2⟩, fun c hb => by simp at hb ⊢; rcases hb with q | q | q | q <;> simp [q]⟩
  · exact wpAny_pyIter_zip st.1 h
  · subst hK
    obtain ⟨xs, ys, x, y, hqx, hqy, hx, hy, rfl⟩ := hr
    exact ⟨x, y, fun zs hz => by rw [inv_sqB_inj I hz hqx]; exact hx, fun zs hz => by rw [inv_sqB_inj I hz hqy]; exact hy, rfl⟩
/-- zip of three -/
def row3 (K : PySem.W.Frag) (k1 k2 k3 : Bool) (a b c : Addr) : Nat → Hp → List V → Prop := fun i H r => ∃ xs ys zs x y z, SqB K H k1 a xs ∧ SqB K H k2 b ys ∧ SqB K H k3 c zs ∧ xs[i]? = some x ∧ ys[i]? = some y ∧ zs[i]? = some z ∧ r = [x, y, z]
def row3U (K : PySem.W.Frag) (k1 k2 k3 : Bool) (a b c : Addr) : Nat → Hp → List V → Prop := fun i H r => ∃ x y z, (∀ xs, SqB K H k1 a xs → xs[i]? = some x) ∧ (∀ ys, SqB K H k2 b ys → ys[i]? = some y) ∧ (∀ zs, SqB K H k3 c zs → zs[i]? = some z) ∧ r = [x, y, z]
def stop3 (K : PySem.W.Frag) (k1 k2 k3 : Bool) (a b c : Addr) : Nat → Hp → Prop := fun i H => ∃ xs ys zs, SqB K H k1 a xs ∧ SqB K H k2 b ys ∧ SqB K H k3 c zs ∧ min (min xs.length ys.length) zs.length = i
theorem turn_zip3B {P : Program} {w : World} {K : PySem.W.Frag} {elts : List Expr} {kk : Nat} {tpos : Pos} (k1 k2 k3 : Bool) (a b c N : Addr) (ha : a < N) (hb : b < N) (hcN : c < N) :
    Turn P w K (.Tuple elts kk tpos) (ItR (row3 K k1 k2 k3 a b c) (row3U K k1 k2 k3 a b c) (stop3 K k1 k2 k3 a b c)) [N + 5, N + 3, N + 4, N, N + 1, N + 2] (N + 5) (fun i h => IsZip h (N + 5) (N + 3) (N + 4) .none ∧ IsTupOf3 h (N + 3) (.ref N) (.ref (N + 1)) (.ref (N + 2)) ∧ (∃ a1 a2 a3, IsTupOf3 h (N + 4) a1 a2 a3) ∧ ItB h k1 N a i ∧ ItB h k2 (N + 1) b i ∧ ItB h k3 (N + 2) c i) := by
  have S3 : ZipSep3 (N + 5) (N + 3) (N + 4) N (N + 1) (N + 2) [N, a] [N + 1, b] [N + 2, c] := zip_sep3 (N := N) (fp1 := [a]) (fp2 := [b]) (fp3 := [c]) (by simpa using ha) (by simpa using hb) (by simpa using hcN)
  have n1 : a ≠ N := Nat.ne_of_lt ha
  have n2 : b ≠ N + 1 := Nat.ne_of_lt (Nat.lt_succ_of_lt hb)
  have n3 : c ≠ N + 2 := Nat.ne_of_lt (Nat.lt_succ_of_lt (Nat.lt_succ_of_lt hcN))
  refine turn_rows (by simp) (fun i h st d hd => ?_) (fun i h h' st kp => ?_) (fun X hP hw hK hc i pins s σ H r I st hr => ?_) (fun X hP hw hK hc i pins s σ H I st hr => ?_) (fun A i s Q E st h => ?_) (fun X hK i pins s σ H r I hr => ?_)
  · obtain ⟨hz, hTI, ⟨x, y, u, hTO⟩, h1, h2, h3⟩ := st
    have e' : d = N + 5 ∨ d = N + 3 ∨ d = N + 4 ∨ d = N ∨ d = N + 1 ∨ d = N + 2 := by simpa using hd
    rcases e' with q | q | q | q | q | q
    · rw [q]; exact ⟨_, hz, fun v q => nomatch q⟩
    · rw [q]; exact ⟨_, hTI, fun v q => nomatch q⟩
    · rw [q]; exact ⟨_, hTO, fun v q => nomatch q⟩
    · rw [q]; exact h1.obj
    · rw [q]; exact h2.obj
    · rw [q]; exact h3.obj
  · obtain ⟨hz, hTI, ⟨x, y, u, hTO⟩, h1, h2, h3⟩ := st
    exact ⟨kp _ (by simp) _ hz, kp _ (by simp) _ hTI, ⟨x, y, u, kp _ (by simp) _ hTO⟩, h1.at fun o q => kp _ (by simp) o q, h2.at fun o q => kp _ (by simp) o q, h3.at fun o q => kp _ (by simp) o q⟩
  · subst hP hw hK
    obtain ⟨hz, hTI, hTO, h1, h2, h3⟩ := st
    obtain ⟨xs, ys, zs, x, y, z, hqx, hqy, hqz, hx, hy, hzz, rfl⟩ := hr
    obtain ⟨its, rv, dat, _⟩ := inv_sqB I hqx
    obtain ⟨its2, rv2, dat2, _⟩ := inv_sqB I hqy
    obtain ⟨its3, rv3, dat3, _⟩ := inv_sqB I hqz
    obtain ⟨u, hu, ru⟩ := rv.get hx
    obtain ⟨u2, hu2, ru2⟩ := rv2.get hy
    obtain ⟨u3, hu3, ru3⟩ := rv3.get hzz
    have hh : X.A.in1.handled = none := I.ok.hd hc
    refine ⟨_, _, _, _, _, GoesN.zip3 S3 (drawsB hh k1 N a n1 its.toArray) (drawsB hh k2 (N + 1) b n2 its2.toArray) (drawsB hh k3 (N + 2) c n3 its3.toArray), ?_, ⟨hz, hTI, hTO, ⟨h1, dat⟩, ⟨h2, dat2⟩, h3, dat3⟩, ?_, fun v h' hY hS => ?_⟩
    · have := (List.getElem?_eq_some_iff.mp hx).1
      have := (List.getElem?_eq_some_iff.mp hy).1
      have := (List.getElem?_eq_some_iff.mp hzz).1
      have := rv.length
      have := rv2.length
      have := rv3.length
      simp; omega
    · intro d hb; simp at hb ⊢; rcases hb with q | q | q | q | q <;> simp [q]
    · obtain ⟨T, y1, y2, y3, rfl, hn, hy1, hy2, hy3, hT⟩ := hY
      obtain ⟨hz', hTI', hTO', ⟨h1', _⟩, ⟨h2', _⟩, h3', _⟩ := hS
      have e1 : y1 = u := by
        have : its.toArray[i]? = some u := by simpa using hu
        rw [this] at hy1; exact (Option.some.inj hy1).symm
      have e2 : y2 = u2 := by
        have : its2.toArray[i]? = some u2 := by simpa using hu2
        rw [this] at hy2; exact (Option.some.inj hy2).symm
      have e3 : y3 = u3 := by
        have : its3.toArray[i]? = some u3 := by simpa using hu3
        rw [this] at hy3; exact (Option.some.inj hy3).symm
      subst e1 e2 e3
      exact ⟨⟨hz', hTI', hTO', h1', h2', h3'⟩, T, [y1, y2, y3], rfl, hn, hT, .cons ru (.cons ru2 (.cons ru3 .nil)), by show 3 ≤ sizeLine; decide⟩
  · subst hP hw hK
    obtain ⟨hz, hTI, hTO, h1, h2, h3⟩ := st
    obtain ⟨xs, ys, zs, hqx, hqy, hqz, hl⟩ := hr
    obtain ⟨its, rv, dat, _⟩ := inv_sqB I hqx
    obtain ⟨its2, rv2, dat2, _⟩ := inv_sqB I hqy
    obtain ⟨its3, rv3, dat3, _⟩ := inv_sqB I hqz
    have hh : X.A.in1.handled = none := I.ok.hd hc
    have W := GoesN.zip3 (elts := elts) (x1 := kk) (pos := tpos) S3 (drawsB (prog := X.prog) (w := X.w) (A := X.A.in1) hh k1 N a n1 its.toArray) (drawsB (prog := X.prog) (w := X.w) (A := X.A.in1) hh k2 (N + 1) b n2 its2.toArray) (drawsB (prog := X.prog) (w := X.w) (A := X.A.in1) hh k3 (N + 2) c n3 its3.toArray)
    have en : min (min its.toArray.size its2.toArray.size) its3.toArray.size = i := by have := rv.length; have := rv2.length; have := rv3.length; simp; omega
    rw [en] at W
    exact ⟨_, _, _, _, W, ⟨hz, hTI, hTO, ⟨h1, dat⟩, ⟨h2, dat2⟩, h3, dat3⟩, fun d hb => by simp at hb ⊢; rcases hb with q | q | q | q | q <;> simp [q]⟩
  · exact wpAny_pyIter_zip st.1 h
  · subst hK
    obtain ⟨xs, ys, zs, x, y, z, hqx, hqy, hqz, hx, hy, hz, rfl⟩ := hr
    exact ⟨x, y, z, fun us hu => by rw [inv_sqB_inj I hu hqx]; exact hx, fun us hu => by rw [inv_sqB_inj I hu hqy]; exact hy, fun us hu => by rw [inv_sqB_inj I hu hqz]; exact hz, rfl⟩
end RD

namespace RD
open PySem PySem.Spec PyProof.Rows L2

/-! ### what stands around a piece of code -/
def spF (K : PySem.W.Frag) (n : Nat) (sem : List T → M T) : Sp := fun vs H Q _ => ∃ α F S ts t S', vs.length = n ∧ OkS K α F S H ∧ IsL K α F ts vs ∧ sem ts S = some (.ok t S') ∧
  ∀ v H' α' F', OkS K α' F' S' H' → Step α F H α' F' H' → Is K α' F' t v → Q v H'
structure FnHere (G : Glob) (X : Cx) (f : Str) : Prop where
  ex : ∃ (a : Addr) (fd : FuncData) (ps : List Str) (k : Nat), X.mg f = some (.ref a) ∧ PySem.W.keepIn X.K (.ref a) = true ∧ FnOk X.prog X.w X.K X.mg X.base CX0 k a fd ps (spF X.K ps.length (G.fn f)) ∧ Room k X.A ∧ Binds X.K fd ps [] ∧
    ∀ ts S t S', G.fn f ts S = some (.ok t S') → ts.length = ps.length
def freeNames : List Str := ["len", "all", "any", "max", "min", "list", "tuple", "sorted", "set", "abs", "int", "isinstance", "range", "enumerate", "zip", "bool", "str", "dict"]
structure CtxOk (G : Glob) (X : Cx) : Prop where
  calm : X.calm = true
  nd : X.N.Nodup
  un : X.A.units + 200 < cLine
  cst : ∀ x t, G.cst x = some t → ∃ u v, X.mg x = some u ∧ RelV v u ∧ ((∃ i, t = .int i ∧ v = .int i) ∨ ∃ z, t = .str z ∧ v = .str z)
  free : ∀ x ∈ freeNames, X.mg x = none
  fn : ∀ f, (∃ ts S t S', G.fn f ts S = some (.ok t S')) → FnHere G X f
  dp : X.A.depth < recursionLimit
  lam : ∀ P, G.tab = some P → X.env.qual = G.me ++ (".<locals>." : Str) ∧ ∃ c, X.env.code = .ref c ∧ LamX.TabB X.base X.mg c P
theorem CtxOk.blk {G : Glob} {X : Cx} (c : CtxOk G X) (s : Shared) (H : Hp) (scope : Scope) (ce : PySem.Env) (fp : List Addr) (hq : ce.qual = X.env.qual := by rfl) (hcd : ce.code = X.env.code := by rfl) : CtxOk G (X.blk s H scope ce fp) :=
  ⟨c.calm, c.nd, c.un, c.cst, c.free, fun f h => ⟨(c.fn f h).ex⟩, c.dp, fun P e => by
    obtain ⟨q, d, e1, e2⟩ := c.lam P e
    exact ⟨hq.trans q, d, hcd.trans e1, e2⟩⟩

/-! ### readings -/
def AllP (K : PySem.W.Frag) (α : List Addr) (F H : Hp) : List T → List V → Prop
  | [], xs => xs = []
  | t :: ts, xs => ∃ x ys, xs = x :: ys ∧ IsP K α F H t x ∧ AllP K α F H ts ys
theorem AllP.step {K : PySem.W.Frag} {α α1 : List Addr} {F F1 H H1 : Hp} (s : Step α F H α1 F1 H1) : ∀ {ts : List T} {xs : List V}, AllP K α F H ts xs → AllP K α1 F1 H1 ts xs
  | [], _, h => h
  | _ :: _, _, ⟨x, ys, e, h1, h2⟩ => ⟨x, ys, e, h1.step s, AllP.step s h2⟩
theorem AllP.view {K : PySem.W.Frag} {α : List Addr} {F H : Hp} {S : Store} (ok : OkS K α F S H) : ∀ {ts us : List T} {xs : List V}, AllP K α F H ts xs → viewAll S ts = some us → AllV K α F H us xs
  | [], _, _, h, e => by cases e; exact h
  | t :: ts, _, _, ⟨x, ys, ex, h1, h2⟩, e => by
    unfold viewAll at e
    split at e
    · rename_i a b ea eb
      cases e
      exact ⟨x, ys, ex, h1.view ok ea, AllP.view ok h2 eb⟩
    · cases e
def tE (K : PySem.W.Frag) (G : Glob) (e : Ex) : TE := fun σ H Q => ∃ α F S ρ t S', OkS K α F S H ∧ Loc K α F H ρ σ ∧ ev G e ρ S = some (.ok t S') ∧
  ∀ v H' α' F', OkS K α' F' S' H' → Step α F H α' F' H' → IsP K α' F' H' t v → (e.strict = true → Is K α' F' t v) → Q v H'
def tA (K : PySem.W.Frag) (G : Glob) (es : Exs) : TA := fun σ H Q => ∃ α F S ρ ts S', OkS K α F S H ∧ Loc K α F H ρ σ ∧ evs G es ρ S = some (.ok ts S') ∧
  ∀ vs H' α' F', OkS K α' F' S' H' → Step α F H α' F' H' → AllP K α' F' H' ts vs → (strictAll es = true → IsL K α' F' ts vs) → Q vs H'
def tPO (K : PySem.W.Frag) (G : Glob) (o : Oe) : TO := fun σ H Q => ∃ α F S ρ l S' p, OkS K α F S H ∧ Loc K α F H ρ σ ∧ evO G o ρ S = some (.ok l S') ∧ partT l = some p ∧
  ∀ H' α' F', OkS K α' F' S' H' → Step α F H α' F' H' → Q p H'
def tTe (K : PySem.W.Frag) (G : Glob) (e : Ex) : TT := fun σ H Q => ∃ α F S ρ k S', OkS K α F S H ∧ Loc K α F H ρ σ ∧ ev G e ρ S = some (.ok (.bl k) S') ∧
  ∀ H' α' F', OkS K α' F' S' H' → Step α F H α' F' H' → Q k H'
/-- a later state, as statements may make it: what was a value is one -/
def Later (α : List Addr) (F : Hp) (α' : List Addr) (F' : Hp) : Prop := (∃ β, α' = α ++ β) ∧ Same F F'
theorem Later.refl {α : List Addr} {F : Hp} : Later α F α F := ⟨⟨[], by simp⟩, Same.refl _⟩
theorem Later.trans {α α1 α2 : List Addr} {F F1 F2 : Hp} (a : Later α F α1 F1) (b : Later α1 F1 α2 F2) : Later α F α2 F2 := by
  obtain ⟨⟨β, rfl⟩, h1⟩ := a
  obtain ⟨⟨γ, rfl⟩, h2⟩ := b
  exact ⟨⟨β ++ γ, by simp⟩, h1.trans h2⟩
theorem Step.later {α α1 : List Addr} {F F1 H H1 : Hp} (s : Step α F H α1 F1 H1) : Later α F α1 F1 := by
  obtain ⟨β, e, _⟩ := s.pre
  exact ⟨⟨β, e⟩, s.ff⟩
theorem Later.is {K : PySem.W.Frag} {α α1 : List Addr} {F F1 : Hp} (a : Later α F α1 F1) {t : T} {v : V} (h : Is K α F t v) : Is K α1 F1 t v := by
  obtain ⟨⟨β, rfl⟩, h1⟩ := a
  exact h.mono h1
/-- what a loop walks: the items as values, in every state that R reaches -/
structure WalkT (K : PySem.W.Frag) (R : List Addr → Hp → Hp → Prop) (J : It) (items : List T) : Prop where
  len : items.length ≤ sizeLine
  goes : ∀ i α' F' H' S, OkS K α' F' S H' → R α' F' H' → i < items.length → J.go i H'
  stops : ∀ α' F' H' S, OkS K α' F' S H' → R α' F' H' → J.stop items.length H'
  yields : ∀ i α' F' H' S x H2, OkS K α' F' S H' → R α' F' H' → i < items.length → J.yld i H' x H2 → ∃ F2 t, items[i]? = some t ∧ OkS K α' F2 S H2 ∧ Step α' F' H' α' F2 H2 ∧ Is K α' F2 t x
def tI (K : PySem.W.Frag) (G : Glob) (it : Itr) : TI := fun σ H R => ∃ α F S ρ l S', OkS K α F S H ∧ Loc K α F H ρ σ ∧ evI G it ρ S = some (.ok l S') ∧
  ∀ J H' α' F', OkS K α' F' S' H' → Step α F H α' F' H' → WalkT K (Step α' F' H') J l → (it.strict = true → WalkT K (fun α2 F2 _ => Later α' F' α2 F2) J l) → R J H'
section
variable {K : PySem.W.Frag} {α : List Addr} {F H : Hp} {S : Store}
theorem sqT_inj_len {a : Addr} {l m : List T} {xs ys : List V} (h1 : IsL K α F l xs) (h2 : IsL K α F m ys) (e : xs = ys) : l.length = m.length := by rw [h1.length, h2.length, e]
theorem IsP.lstAt (ok : OkS K α F S H) {l : List T} {v : V} (h : IsP K α F H (.lst l) v) : ∃ a xs, v = .ref a ∧ H a = some (.lst xs) ∧ IsL K α F l xs := by
  rcases h with ⟨a, xs, e, h1, h2⟩ | ⟨a, xs, m, e1, e2, h1, h2, h3, h4⟩
  · exact ⟨a, xs, e, ok.sub _ _ h1, h2⟩
  · cases e1; exact ⟨a, xs, e2, h1, h4⟩
theorem IsP.tupAt (ok : OkS K α F S H) {l : List T} {v : V} (h : IsP K α F H (.tup l) v) : ∃ a xs, v = .ref a ∧ SqT K H a xs ∧ IsL K α F l xs := by
  rcases h with ⟨a, xs, e, h1, h2⟩ | ⟨a, xs, m, e1, _⟩
  · exact ⟨a, xs, e, sqt_same ok.sub h1, h2⟩
  · cases e1
theorem IsP.tupF {l : List T} {v : V} (h : IsP K α F H (.tup l) v) : Is K α F (.tup l) v := by
  rcases h with h | ⟨a, xs, m, e1, _⟩
  · exact h
  · cases e1
/-- a list or a tuple, by a Bool -/
theorem IsP.sqB (ok : OkS K α F S H) {t : T} {l : List T} {v : V} (h : IsP K α F H t v) (e : seqT t = some l) : ∃ k a xs, v = .ref a ∧ SqB K H k a xs ∧ IsL K α F l xs ∧ t = (if k = true then T.lst l else T.tup l) := by
  unfold seqT at e
  split at e
  · cases e
    obtain ⟨a, xs, e1, h1, h2⟩ := h.tupAt ok
    exact ⟨false, a, xs, e1, h1, h2, rfl⟩
  · cases e
    obtain ⟨a, xs, e1, h1, h2⟩ := h.lstAt ok
    exact ⟨true, a, xs, e1, .of h1, h2, rfl⟩
  · cases e
theorem sqB_later {R : List Addr → Hp → Hp → Prop} {α' : List Addr} {F' H' : Hp} {S' : Store} {t : T} {l : List T} {a : Addr} {k : Bool} (h : ∀ α' F' H', R α' F' H' → IsP K α' F' H' t (.ref a)) (et : t = (if k = true then T.lst l else T.tup l)) (ok' : OkS K α' F' S' H') (st : R α' F' H') :
    ∃ xs, SqB K H' k a xs ∧ IsL K α' F' l xs := by
  subst et
  cases k with
  | true =>
    obtain ⟨b, xs, e, h1, h2⟩ := IsP.lstAt ok' (h _ _ _ st)
    cases e
    exact ⟨xs, .of h1, h2⟩
  | false =>
    obtain ⟨b, xs, e, h1, h2⟩ := IsP.tupAt ok' (h _ _ _ st)
    cases e
    exact ⟨xs, h1, h2⟩
end
section
variable {K : PySem.W.Frag} {α : List Addr} {F H : Hp} {S : Store} {R : List Addr → Hp → Hp → Prop}
theorem walk_lstT {a : Addr} {l : List T} (h : ∀ α' F' H', R α' F' H' → IsP K α' F' H' (.lst l) (.ref a)) (hl : l.length ≤ sizeLine) : WalkT K R (Itl K a) l where
  len := hl
  goes := fun i α' F' H' S' ok' st hi => by
    obtain ⟨xs, h1, h2⟩ := sqB_later (k := true) h rfl ok' st
    have := h2.length
    exact ⟨xs, xs[i]'(by omega), h1, by simp⟩
  stops := fun α' F' H' S' ok' st => by
    obtain ⟨xs, h1, h2⟩ := sqB_later (k := true) h rfl ok' st
    exact ⟨xs, h1, by rw [h2.length]; exact Nat.le_refl _⟩
  yields := fun i α' F' H' S' x H2 ok' st hi y => by
    obtain ⟨e, y⟩ := y
    subst e
    obtain ⟨xs, h1, h2⟩ := sqB_later (k := true) h rfl ok' st
    obtain ⟨t, e1, e2⟩ := h2.get' (y xs h1)
    exact ⟨F', t, e1, ok', .refl, e2⟩
theorem walk_tupT {a : Addr} {l : List T} (h : ∀ α' F' H', R α' F' H' → IsP K α' F' H' (.tup l) (.ref a)) (hl : l.length ≤ sizeLine) : WalkT K R (Itt K a) l where
  len := hl
  goes := fun i α' F' H' S' ok' st hi => by
    obtain ⟨xs, h1, h2⟩ := sqB_later (k := false) h rfl ok' st
    have := h2.length
    exact ⟨xs, xs[i]'(by omega), h1, by simp⟩
  stops := fun α' F' H' S' ok' st => by
    obtain ⟨xs, h1, h2⟩ := sqB_later (k := false) h rfl ok' st
    exact ⟨xs, h1, by rw [h2.length]; exact Nat.le_refl _⟩
  yields := fun i α' F' H' S' x H2 ok' st hi y => by
    obtain ⟨e, y⟩ := y
    subst e
    obtain ⟨xs, h1, h2⟩ := sqB_later (k := false) h rfl ok' st
    obtain ⟨t, e1, e2⟩ := h2.get' (y xs h1)
    exact ⟨F', t, e1, ok', .refl, e2⟩
theorem walk_strT {z : Str} (hl : z.length ≤ sizeLine) : WalkT K R (Its z) (z.cps.toList.map fun c => T.str ⟨#[c]⟩) where
  len := by simpa [Str.length] using hl
  goes := fun i α' F' H' S' ok' st hi => by
    show i < z.cps.size
    simpa using hi
  stops := fun α' F' H' S' ok' st => by
    show z.cps.size ≤ _
    simp
  yields := fun i α' F' H' S' x H2 ok' st hi y => by
    obtain ⟨e, c, hc, rfl⟩ := y
    subst e
    refine ⟨F', .str ⟨#[c]⟩, ?_, ok', .refl, rfl⟩
    have : z.cps.toList[i]? = some c := by simpa using hc
    rw [List.getElem?_map, this]; rfl
theorem walk_rngT {lo : Int} {n : Nat} (hl : n ≤ sizeLine) : WalkT K R (L2.Itr lo n) (rngT lo n) where
  len := by simpa [rngT] using hl
  goes := fun i α' F' H' S' ok' st hi => by
    show i < n
    simpa [rngT] using hi
  stops := fun α' F' H' S' ok' st => by
    show n ≤ _
    simp [rngT]
  yields := fun i α' F' H' S' x H2 ok' st hi y => by
    obtain ⟨e, rfl⟩ := y
    subst e
    have hi' : i < n := by simpa [rngT] using hi
    exact ⟨F', .int (lo + (i : Int)), by simp [rngT, hi'], ok', .refl, rfl⟩
/-- a new tuple is given out -/
theorem yield_tup (ok : OkS K α F S H) {l : List T} {r : List V} (h : IsL K α F l r) {p : Addr} (hp : H p = none) : OkS K α (upd F p (.tup r)) S (upd H p (.tup r)) ∧ Step α F H α (upd F p (.tup r)) (upd H p (.tup r)) ∧ Is K α (upd F p (.tup r)) (.tup l) (.ref p) := by
  refine ⟨ok.lay hp, .lay ok.sub hp, p, r, rfl, .of upd_same, ?_⟩
  have := h.mono (β := []) (Step.lay (α := α) (o := .tup r) ok.sub hp).ff
  simpa using this
theorem enumT_len (l : List T) : (enumT l).length = l.length := by simp [enumT]
theorem enumT_get {l : List T} {i : Nat} {t : T} (h : l[i]? = some t) : (enumT l)[i]? = some (.tup [.int (i : Int), t]) := by
  have hi := (List.getElem?_eq_some_iff.mp h).1
  unfold enumT
  rw [List.getElem?_zipWith, h, List.getElem?_range hi]
theorem walk_enumT {k : Bool} {a : Addr} {t : T} {l : List T} (h : ∀ α' F' H', R α' F' H' → IsP K α' F' H' t (.ref a)) (et : t = (if k = true then T.lst l else T.tup l)) (hl : l.length ≤ sizeLine) : WalkT K R (ItR (rowE K k a) (rowEU K k a) (stopE K k a)) (enumT l) where
  len := by rw [enumT_len]; exact hl
  goes := fun i α' F' H' S' ok' st hi => by
    rw [enumT_len] at hi
    obtain ⟨xs, h1, h2⟩ := sqB_later h et ok' st
    have := h2.length
    exact ⟨_, xs, xs[i]'(by omega), h1, by simp, rfl⟩
  stops := fun α' F' H' S' ok' st => by
    obtain ⟨xs, h1, h2⟩ := sqB_later h et ok' st
    exact ⟨xs, h1, by rw [enumT_len, h2.length]⟩
  yields := fun i α' F' H' S' x H2 ok' st hi y => by
    obtain ⟨T1, r, rfl, hn, rfl, x, hx, rfl⟩ := y
    rw [enumT_len] at hi
    obtain ⟨xs, h1, h2⟩ := sqB_later h et ok' st
    obtain ⟨t, e1, e2⟩ := h2.get' (hx xs h1)
    obtain ⟨o1, o2, o3⟩ := yield_tup ok' (l := [.int (i : Int), t]) (r := [.int (i : Int), x]) ⟨_, _, rfl, rfl, _, _, rfl, e2, rfl⟩ hn
    exact ⟨_, _, enumT_get e1, o1, o2, o3⟩
theorem zip2T_len : ∀ l r : List T, (zip2T l r).length = min l.length r.length
  | [], _ => by simp [zip2T]
  | _ :: _, [] => by simp [zip2T]
  | x :: xs, y :: ys => by simp [zip2T, zip2T_len xs ys]
theorem zip2T_get : ∀ {l r : List T} {i : Nat} {t u : T}, l[i]? = some t → r[i]? = some u → (zip2T l r)[i]? = some (.tup [t, u])
  | [], _, _, _, _, h, _ => by simp at h
  | _ :: _, [], _, _, _, _, h => by simp at h
  | x :: xs, y :: ys, 0, _, _, h, g => by cases h; cases g; rfl
  | x :: xs, y :: ys, i + 1, _, _, h, g => by
    have := zip2T_get (i := i) (l := xs) (r := ys) (by simpa using h) (by simpa using g)
    simpa [zip2T] using this
theorem zip3T_len : ∀ l r q : List T, (zip3T l r q).length = min (min l.length r.length) q.length
  | [], _, _ => by simp [zip3T]
  | _ :: _, [], _ => by simp [zip3T]
  | _ :: _, _ :: _, [] => by simp [zip3T]
  | x :: xs, y :: ys, z :: zs => by simp [zip3T, zip3T_len xs ys zs]
theorem zip3T_get : ∀ {l r q : List T} {i : Nat} {t u v : T}, l[i]? = some t → r[i]? = some u → q[i]? = some v → (zip3T l r q)[i]? = some (.tup [t, u, v])
  | [], _, _, _, _, _, _, h, _, _ => by simp at h
  | _ :: _, [], _, _, _, _, _, _, h, _ => by simp at h
  | _ :: _, _ :: _, [], _, _, _, _, _, _, h => by simp at h
  | x :: xs, y :: ys, z :: zs, 0, _, _, _, h, g, k => by cases h; cases g; cases k; rfl
  | x :: xs, y :: ys, z :: zs, i + 1, _, _, _, h, g, k => by
    have := zip3T_get (i := i) (l := xs) (r := ys) (q := zs) (by simpa using h) (by simpa using g) (by simpa using k)
    simpa [zip3T] using this
theorem walk_zip2T {k1 k2 : Bool} {a b : Addr} {t u : T} {l m : List T} (h : ∀ α' F' H', R α' F' H' → IsP K α' F' H' t (.ref a)) (et : t = (if k1 = true then T.lst l else T.tup l)) (g : ∀ α' F' H', R α' F' H' → IsP K α' F' H' u (.ref b)) (eu : u = (if k2 = true then T.lst m else T.tup m)) (hl : l.length ≤ sizeLine) :
    WalkT K R (ItR (row2 K k1 k2 a b) (row2U K k1 k2 a b) (stop2 K k1 k2 a b)) (zip2T l m) where
  len := by rw [zip2T_len]; omega
  goes := fun i α' F' H' S' ok' st hi => by
    rw [zip2T_len] at hi
    obtain ⟨xs, h1, h2⟩ := sqB_later h et ok' st
    obtain ⟨ys, g1, g2⟩ := sqB_later g eu ok' st
    have := h2.length
    have := g2.length
    exact ⟨_, xs, ys, xs[i]'(by omega), ys[i]'(by omega), h1, g1, by simp, by simp, rfl⟩
  stops := fun α' F' H' S' ok' st => by
    obtain ⟨xs, h1, h2⟩ := sqB_later h et ok' st
    obtain ⟨ys, g1, g2⟩ := sqB_later g eu ok' st
    exact ⟨xs, ys, h1, g1, by rw [zip2T_len, h2.length, g2.length]⟩
  yields := fun i α' F' H' S' x H2 ok' st hi y => by
    obtain ⟨T1, r, rfl, hn, rfl, x, y, hx, hy, rfl⟩ := y
    obtain ⟨xs, h1, h2⟩ := sqB_later h et ok' st
    obtain ⟨ys, g1, g2⟩ := sqB_later g eu ok' st
    obtain ⟨t, e1, e2⟩ := h2.get' (hx xs h1)
    obtain ⟨u, f1, f2⟩ := g2.get' (hy ys g1)
    obtain ⟨o1, o2, o3⟩ := yield_tup ok' (l := [t, u]) (r := [x, y]) ⟨_, _, rfl, e2, _, _, rfl, f2, rfl⟩ hn
    exact ⟨_, _, zip2T_get e1 f1, o1, o2, o3⟩
theorem walk_zip3T {k1 k2 k3 : Bool} {a b c : Addr} {t u v : T} {l m n : List T} (h : ∀ α' F' H', R α' F' H' → IsP K α' F' H' t (.ref a)) (et : t = (if k1 = true then T.lst l else T.tup l)) (g : ∀ α' F' H', R α' F' H' → IsP K α' F' H' u (.ref b)) (eu : u = (if k2 = true then T.lst m else T.tup m))
    (j : ∀ α' F' H', R α' F' H' → IsP K α' F' H' v (.ref c)) (ev : v = (if k3 = true then T.lst n else T.tup n)) (hl : l.length ≤ sizeLine) :
    WalkT K R (ItR (row3 K k1 k2 k3 a b c) (row3U K k1 k2 k3 a b c) (stop3 K k1 k2 k3 a b c)) (zip3T l m n) where
  len := by rw [zip3T_len]; omega
  goes := fun i α' F' H' S' ok' st hi => by
    rw [zip3T_len] at hi
    obtain ⟨xs, h1, h2⟩ := sqB_later h et ok' st
    obtain ⟨ys, g1, g2⟩ := sqB_later g eu ok' st
    obtain ⟨zs, j1, j2⟩ := sqB_later j ev ok' st
    have := h2.length
    have := g2.length
    have := j2.length
    exact ⟨_, xs, ys, zs, xs[i]'(by omega), ys[i]'(by omega), zs[i]'(by omega), h1, g1, j1, by simp, by simp, by simp, rfl⟩
  stops := fun α' F' H' S' ok' st => by
    obtain ⟨xs, h1, h2⟩ := sqB_later h et ok' st
    obtain ⟨ys, g1, g2⟩ := sqB_later g eu ok' st
    obtain ⟨zs, j1, j2⟩ := sqB_later j ev ok' st
    exact ⟨xs, ys, zs, h1, g1, j1, by rw [zip3T_len, h2.length, g2.length, j2.length]⟩
  yields := fun i α' F' H' S' x H2 ok' st hi y => by
    obtain ⟨T1, r, rfl, hn, rfl, x, y, z, hx, hy, hz, rfl⟩ := y
    obtain ⟨xs, h1, h2⟩ := sqB_later h et ok' st
    obtain ⟨ys, g1, g2⟩ := sqB_later g eu ok' st
    obtain ⟨zs, j1, j2⟩ := sqB_later j ev ok' st
    obtain ⟨t, e1, e2⟩ := h2.get' (hx xs h1)
    obtain ⟨u, f1, f2⟩ := g2.get' (hy ys g1)
    obtain ⟨v, d1, d2⟩ := j2.get' (hz zs j1)
    obtain ⟨o1, o2, o3⟩ := yield_tup ok' (l := [t, u, v]) (r := [x, y, z]) ⟨_, _, rfl, e2, _, _, rfl, f2, _, _, rfl, d2, rfl⟩ hn
    exact ⟨_, _, zip3T_get e1 f1 d1, o1, o2, o3⟩
end
end RD

namespace RD
open PySem PySem.Spec PyProof.Rows L2

/-! ### targets -/
def gNs : List Nat → TGs
  | [] => gNil
  | i :: is => gCons (gName i) (gNs is)
def tG (K : PySem.W.Frag) : Tg → TG
  | .name i => gName i
  | .tup is => gTup K is.length (gNs is)
def CanSet (X : Cx) (sc0 : Scope) : Prop := ∀ x, isLoc sc0 x = true → L2.Loc X.env.scope x ∧ (X.fn x = true ∨ X.env.scope.names.lookup x = some .local)
section
variable {X : Cx} {sc0 : Scope}
theorem pgs_names (hN : X.N.Nodup) (hs : CanSet X sc0) : ∀ {is : List Nat} {fs : List Expr}, chkNames X.N sc0 is fs = true → PGs X fs (gNs is) ∧ (assignEach fs X.env).length = is.length ∧ (assignEach fs X.env).findIdx? (·.1) = none
  | [], [], _ => ⟨pgs_nil, rfl, rfl⟩
  | [], _ :: _, h => by simp [chkNames] at h
  | _ :: _, [], h => by simp [chkNames] at h
  | i :: is, f :: fs, h => by
    simp only [chkNames, Bool.and_eq_true] at h
    obtain ⟨h1, h2⟩ := h
    cases f with
    | Name x p =>
      simp only [Bool.and_eq_true, decide_eq_true_eq] at h1
      obtain ⟨⟨e1, e2⟩, e3⟩ := h1
      obtain ⟨l1, l2⟩ := hs x e2
      obtain ⟨a, b, c⟩ := pgs_names hN hs h2
      refine ⟨pgs_cons (pg_name hN e1 l1 l2) a rfl, ?_, ?_⟩
      · show (assignEach fs X.env).length + 1 = is.length + 1
        rw [b]
      · show List.findIdx? (·.1) ((false, assign (.Name x p) X.env) :: assignEach fs X.env) = none
        rw [List.findIdx?_cons, c]; rfl
    | _ => simp at h1
theorem pg_tg (hc : X.calm = true) (hN : X.N.Nodup) (hs : CanSet X sc0) {tg : Tg} {f : Expr} (h : chkTg X.N sc0 tg f = true) : PG X f (tG X.K tg) := by
  cases tg with
  | name i =>
    simp only [chkTg] at h
    simp only [chkNames, Bool.and_true] at h
    cases f with
    | Name x p =>
      simp only [Bool.and_eq_true, decide_eq_true_eq] at h
      obtain ⟨⟨e1, e2⟩, e3⟩ := h
      obtain ⟨l1, l2⟩ := hs x e2
      exact pg_name hN e1 l1 l2
    | _ => simp at h
  | tup is =>
    simp only [chkTg] at h
    cases f with
    | Tuple fs k p =>
      simp only [Bool.and_eq_true] at h
      obtain ⟨a, b, c⟩ := pgs_names hN hs h.1
      exact pg_tup hc a b c
    | _ => simp at h
end
/-! ### slots forgotten -/
theorem wipe_set {i : Nat} {o : Option V} : ∀ {vs : List Nat} {σ : L2.St}, wipe (σ.set i o) vs = if i ∈ vs then wipe σ vs else (wipe σ vs).set i o
  | [], σ => by simp [wipe]
  | v :: vs, σ => by
    show (wipe (σ.set i o) vs).set v none = if i ∈ v :: vs then (wipe σ vs).set v none else ((wipe σ vs).set v none).set i o
    rw [wipe_set (vs := vs)]
    by_cases h : i = v
    · subst h
      rw [if_pos (List.mem_cons_self ..)]
      split
      · rfl
      · rw [List.set_set]
    · by_cases g : i ∈ vs
      · rw [if_pos g, if_pos (List.mem_cons_of_mem _ g)]
      · rw [if_neg g, if_neg (by simp [h, g]), List.set_comm _ _ h]
theorem wipe_wipe : ∀ {vs : List Nat} {σ : L2.St}, wipe (wipe σ vs) vs = wipe σ vs
  | [], σ => rfl
  | v :: vs, σ => by
    show (wipe ((wipe σ vs).set v none) vs).set v none = (wipe σ vs).set v none
    rw [wipe_set]
    split
    · rw [wipe_wipe]
    · rw [List.set_set, wipe_wipe]
section
variable {K : PySem.W.Frag} {α : List Addr} {F H : Hp} {S : Store}
theorem names_ok : ∀ {is : List Nat} {l : List T} {xs : List V} {ρ ρ' : Env} {σ : L2.St} {Q : L2.St → Hp → Prop}, IsL K α F l xs → Loc K α F H ρ σ → setAll ρ is l = some ρ' →
    (∀ σ', Loc K α F H ρ' σ' → (∀ vs, (∀ i ∈ is, i ∈ vs) → wipe σ' vs = wipe σ vs) → Q σ' H) → gNs is xs σ H Q
  | [], [], _, ρ, ρ', σ, Q, h, L, e, q => by
    cases h; cases e
    exact ⟨rfl, q σ L fun _ _ => rfl⟩
  | [], _ :: _, _, _, _, _, _, _, _, e, _ => by simp [setAll] at e
  | _ :: _, [], _, _, _, _, _, _, _, e, _ => by simp [setAll] at e
  | i :: is, t :: ts, _, ρ, ρ', σ, Q, ⟨x, ys, e1, h1, h2⟩, L, e, q => by
    subst e1
    refine ⟨x, ys, rfl, ?_⟩
    show gNs is ys (σ.set i (some x)) H Q
    refine names_ok h2 (L.set h1) (by simpa [setAll] using e) fun σ' L' w => q σ' L' fun vs hv => ?_
    rw [w vs fun j hj => hv j (List.mem_cons_of_mem _ hj), wipe_set, if_pos (hv i (List.mem_cons_self ..))]
theorem bind_ok (ok : OkS K α F S H) {tg : Tg} {t : T} {v : V} {ρ ρ' : Env} {σ : L2.St} {Q : L2.St → Hp → Prop} (h : Is K α F t v) (L : Loc K α F H ρ σ) (e : bindTg ρ tg t = some ρ')
    (q : ∀ σ', Loc K α F H ρ' σ' → (∀ vs, (∀ i ∈ tg.slots, i ∈ vs) → wipe σ' vs = wipe σ vs) → Q σ' H) : tG K tg v σ H Q := by
  cases tg with
  | name i =>
    have e' : some (ρ.set i (.val t)) = some ρ' := by cases t <;> exact e
    cases e'
    refine q _ (L.set h) fun vs hv => ?_
    rw [wipe_set, if_pos (hv i (List.mem_cons_self ..))]
  | tup is =>
    cases t with
    | tup l =>
      obtain ⟨a, xs, rfl, h1, h2⟩ := h
      have hl : is.length = l.length := by
        have : ∀ (is : List Nat) (l : List T) (ρ ρ' : Env), setAll ρ is l = some ρ' → is.length = l.length := by
          intro is
          induction is with
          | nil => intro l ρ ρ' e; cases l with
            | nil => rfl
            | cons _ _ => simp [setAll] at e
          | cons i is ih => intro l ρ ρ' e; cases l with
            | nil => simp [setAll] at e
            | cons t ts => simp [setAll] at e; simp [ih _ _ _ e]
        exact this is l ρ ρ' e
      exact ⟨a, xs, rfl, sqt_same ok.sub h1, by rw [← h2.length, hl], names_ok h2 L e q⟩
    | _ => simp [bindTg] at e
end

/-! ### a new list that is not frozen yet -/
section
variable {K : PySem.W.Frag} {α α1 : List Addr} {F F1 H H1 : Hp} {S : Store}
theorem OkS.poke (ok : OkS K α F S H) {D : Addr} {o : HO} (hF : F D = none) (hD : D ∉ α) (nc : ∀ q, o ≠ LamX.CodeO D q := by intro q z; unfold LamX.CodeO at z; cases z) : OkS K α F S (upd H D o) := by
  refine ⟨fun b x e => ?_, ok.len, ok.nd, fun n c a h1 h2 => ?_, fun c q e => ?_⟩
  rotate_left 2
  · by_cases hc : c = D
    · subst hc; rw [upd_same] at e; exact absurd (Option.some.inj e) (nc q)
    · rw [upd_ne hc] at e; exact ok.codes c q e
  · have : b ≠ D := fun z => by rw [z, hF] at e; cases e
    rw [upd_ne this]; exact ok.sub _ _ e
  · obtain ⟨q1, q2⟩ := ok.cell n c a h1 h2
    have ha : a ≠ D := fun z => hD (by rw [← z]; exact List.mem_of_getElem? h2)
    refine ⟨q1, ?_⟩
    cases c with
    | lst l => obtain ⟨xs, z, y⟩ := q2; exact ⟨xs, by rw [upd_ne ha]; exact z, y⟩
    | dct l => obtain ⟨xs, z, y⟩ := q2; exact ⟨xs, by rw [upd_ne ha]; exact z, y⟩
    | ins _ _ => exact q2
    | tbl _ _ => exact ⟨q2.1, q2.2.mono (Same.refl _) fun o z => by rw [upd_ne ha]; exact z⟩
theorem Step.poke (st : Step α F H α1 F1 H1) {D : Addr} {o : HO} (hD : H D = none) : Step α F H α1 F1 (upd H1 D o) := by
  have ne : ∀ a, H a ≠ none → a ≠ D := fun a h z => h (by rw [z]; exact hD)
  exact ⟨st.pre, st.ff, st.fn, fun a x h1 h2 => by rw [upd_ne (ne a (by rw [h1]; exact fun z => by cases z))]; exact st.hh a x h1 h2, fun a h => by rw [upd_ne (ne a h)]; exact st.hx a h⟩
theorem OkS.frz (ok : OkS K α F S H) {D : Addr} {o : HO} (h : H D = some o) (hF : F D = none) (hD : D ∉ α) : OkS K α (upd F D o) S H ∧ Same F (upd F D o) := by
  have sF : Same F (upd F D o) := fun b x e => by rw [upd_ne (ne_of_none e hF)]; exact e
  refine ⟨⟨fun b x e => ?_, ok.len, ok.nd, fun n c a h1 h2 => ?_, fun c q e z => ?_⟩, sF⟩
  rotate_left 2
  · by_cases hc : c = D
    · rw [hc, upd_same] at z; cases z
    · rw [upd_ne hc] at z; exact ok.codes c q e z
  · by_cases z : b = D
    · subst z; rw [upd_same] at e; rw [h]; exact e
    · rw [upd_ne z] at e; exact ok.sub _ _ e
  · obtain ⟨q1, q2⟩ := ok.cell n c a h1 h2
    have ha : a ≠ D := fun z => hD (by rw [← z]; exact List.mem_of_getElem? h2)
    have mo : ∀ {l xs}, IsL K α F l xs → IsL K α (upd F D o) l xs := fun h => by have := h.mono (β := []) sF; simpa using this
    have mk : ∀ {l xs}, IsKV K α F l xs → IsKV K α (upd F D o) l xs := fun h => by have := h.mono (β := []) sF; simpa using this
    refine ⟨by rw [upd_ne ha]; exact q1, ?_⟩
    cases c with
    | lst l => obtain ⟨xs, z, y⟩ := q2; exact ⟨xs, z, mo y⟩
    | dct l => obtain ⟨xs, z, y⟩ := q2; exact ⟨xs, z, mk y⟩
    | ins _ _ => exact q2
    | tbl _ _ => exact ⟨q2.1, q2.2.mono sF fun o z => z⟩
theorem Step.frz (st : Step α F H α1 F1 H1) {D : Addr} {o : HO} (hD : H D = none) (hF : F1 D = none) : Step α F H α1 (upd F1 D o) H1 := by
  have ne : ∀ a, H a ≠ none → a ≠ D := fun a h z => h (by rw [z]; exact hD)
  refine ⟨st.pre, fun b x e => ?_, fun a h1 h2 => by rw [upd_ne (ne a h2)]; exact st.fn a h1 h2, st.hh, st.hx⟩
  have e1 := st.ff _ _ e
  rw [upd_ne (ne_of_none e1 hF)]; exact e1
theorem Is.same {F' : Hp} (e : Same F F') {t : T} {v : V} (h : Is K α F t v) : Is K α F' t v := by have := h.mono (β := []) e; simpa using this
theorem IsL.same {F' : Hp} (e : Same F F') {t : List T} {v : List V} (h : IsL K α F t v) : IsL K α F' t v := by have := h.mono (β := []) e; simpa using this
theorem IsKV.same {F' : Hp} (e : Same F F') {t : List (Key × T)} {v : List (Key × V)} (h : IsKV K α F t v) : IsKV K α F' t v := by have := h.mono (β := []) e; simpa using this
theorem OkS.not_cell (ok : OkS K α F S H) {D : Addr} (h : H D = none) : D ∉ α := fun m => by
  obtain ⟨n, hn⟩ := List.mem_iff_getElem?.mp m
  have hl : n < S.length := by rw [← ok.len]; exact (List.getElem?_eq_some_iff.mp hn).1
  obtain ⟨_, q⟩ := ok.cell n S[n] D (by simp) hn
  generalize S[n] = c at q
  cases c with
  | lst l => obtain ⟨xs, z, y⟩ := q; rw [h] at z; cases z
  | dct l => obtain ⟨xs, z, y⟩ := q; rw [h] at z; cases z
  | ins _ _ => exact q
  | tbl _ _ => obtain ⟨_, ps, z, _⟩ := q; rw [h] at z; cases z
end
def tN (K : PySem.W.Frag) (G : Glob) (e : Ex) : TE := fun σ H Q => ∃ α F S ρ t S', OkS K α F S H ∧ Loc K α F H ρ σ ∧ ev G e ρ S = some (.ok t S') ∧
  ∀ p o H' α' F', OkS K α' F' S' H' → Step α F H α' F' H' → H' p = some o → NewO K α' F' o t → F' p = none → p ∉ α' → H p = none → Q (.ref p) H'
/-- a new list or dict is a value -/
theorem pe_new {X : Cx} {G : Glob} {e : Ex} {f : Expr} (h : PE X f (tN X.K G e)) : PE X f (tE X.K G e) := by
  refine ⟨fun pins s σ H Q I hq => ?_⟩
  obtain ⟨α, F, S, ρ, t, S', ok, L, ee, q⟩ := hq
  refine h.run pins s σ H Q I ⟨α, F, S, ρ, t, S', ok, L, ee, fun p o H' α' F' ok' st hp hn hF hpa h0 => ?_⟩
  obtain ⟨ok2, sm⟩ := ok'.frz hp hF hpa
  have is2 : Is X.K α' (upd F' p o) t (.ref p) := hn.is sm
  exact q (.ref p) H' α' _ ok2 (st.frz h0 hF) (.inl is2) fun _ => is2
/-- a new list or dict is a cell -/
theorem cel_read {K : PySem.W.Frag} {G : Glob} {e : Ex} {σ : L2.St} {H : Hp} {Q : VK} (hq : tE K G (.cel e) σ H Q) : tN K G e σ H Q := by
  obtain ⟨α, F, S, ρ, r, S', ok, L, ee, q⟩ := hq
  simp only [ev] at ee
  obtain ⟨t, S1, e1, ee⟩ := bnd_inv ee
  refine ⟨α, F, S, ρ, t, S1, ok, L, e1, fun p o H' α' F' ok' st hp hn hF hpa h0 => ?_⟩
  have key : ∀ c : Cell, CellIs K α' F' H' p c → S' = S1 ++ [c] → r = .ref S1.length → Q (.ref p) H' := fun c hc eS er => by
    subst eS er
    obtain ⟨ok2, st2⟩ := ok'.cellNew hF hpa hc
    have is2 : Is K (α' ++ [p]) F' (.ref S1.length) (.ref p) := ⟨p, rfl, by rw [← ok'.len]; simp⟩
    exact q (.ref p) H' _ F' ok2 (st2 st h0) (.inl is2) fun _ => is2
  unfold newC at ee
  cases t with
  | lst l =>
    cases ee
    obtain ⟨xs, rfl, hx⟩ := hn
    exact key (.lst l) ⟨xs, hp, hx⟩ rfl rfl
  | dct l =>
    cases ee
    obtain ⟨xs, rfl, hx⟩ := hn
    exact key (.dct l) ⟨xs, hp, hx⟩ rfl rfl
  | _ => cases ee
theorem pe_cel {X : Cx} {G : Glob} {e : Ex} {f : Expr} (h : PE X f (tN X.K G e)) : PE X f (tE X.K G (.cel e)) :=
  ⟨fun pins s σ H Q I hq => h.run pins s σ H Q I (cel_read hq)⟩

/-! ### comprehensions -/
def tTs (K : PySem.W.Frag) (G : Glob) (c : Oe) : TT := fun σ H Q => ∃ α F S ρ k S' b, OkS K α F S H ∧ Loc K α F H ρ σ ∧ evO G c ρ S = some (.ok k S') ∧ condT k = some b ∧
  ∀ H' α' F', OkS K α' F' S' H' → Step α F H α' F' H' → Q b H'
theorem canSet_blk {X : Cx} {s : Shared} {H : Hp} {scope : Scope} {C : Addr} {cl : List (Str × Addr)} {fp : List Addr} : CanSet (X.blk s H scope (compEnvC scope cl C X.env) fp) scope := by
  intro x hx
  unfold isLoc at hx
  have key : ∀ k, k ≠ NameKind.free → scope.names.lookup x = some k → (relS scope X.env.scope).names.lookup x = some k := fun k hk e => lookup_relS_keep hk e
  cases q : scope.names.lookup x with
  | none => rw [q] at hx; simp at hx
  | some k =>
    rw [q] at hx
    cases k with
    | «local» => exact ⟨.inl (key _ (by decide) q), .inr (key _ (by decide) q)⟩
    | cell => exact ⟨.inr (key _ (by decide) q), .inl (by show (scope.names.lookup x == some .cell) = true; rw [q]; rfl)⟩
    | free => simp at hx
    | globalExplicit => simp at hx
    | globalImplicit => simp at hx
theorem own_slots (N : List Str) (is : List Nat) : (ownOf N is).map (·.2) = is := by
  unfold ownOf
  rw [List.map_map]
  exact List.map_id _
theorem lc_read {K : PySem.W.Frag} {G : Glob} {tg : Tg} {it : Itr} {co : Oe} {e : Ex} {σ : L2.St} {H : Hp} {Q : VK} (hq : tN K G (.lc tg it co e) σ H Q) : tLc (tI K G it) (tG K tg) (tTs K G co) (tE K G e) tg.slots σ H Q := by
  obtain ⟨α, F, S, ρ, t, S', ok, L, ee, q⟩ := hq
  simp only [ev] at ee
  obtain ⟨items, S1, e1, ee⟩ := bnd_inv ee
  obtain ⟨l, S2, e2, ee⟩ := bnd_inv ee
  obtain ⟨er, eS⟩ := ret_inv ee
  subst er
  subst eS
  refine ⟨α, F, S, ρ, items, S1, ok, L, e1, fun J H1 α1 F1 ok1 st1 W _ D hD => ?_⟩
  have hDa : D ∉ α1 := ok1.not_cell hD
  have hDF : F1 D = none := ok1.sub.free hD
  refine ⟨fun i m H3 => ∃ α' F' Si acc accT rest, m = items.length - i ∧ i ≤ items.length ∧ OkS K α' F' Si H3 ∧ Step α1 F1 H1 α' F' H3 ∧ H3 D = some (.lst acc) ∧ F' D = none ∧ D ∉ α' ∧ IsL K α' F' accT acc ∧ accT.length ≤ i ∧
      mapL (lcF (evO G co) (strictly e.strict (ev G e)) tg ρ) (items.drop i) Si = some (.ok rest S') ∧ accT ++ rest = l, ⟨_, α1, F1, S1, [], [], l, rfl, Nat.zero_le _, ok1.loose hD, .loose hD, upd_same, hDF, hDa, rfl, Nat.zero_le _, by simpa using e2, by simp⟩, ?_⟩
  rintro i m H3 ⟨α', F', Si, acc, accT, rest, rfl, hil, ok3, st3, hD3, hF3, ha3, hacc, hal, em, ea⟩
  -- H3 as seen from the state ahead of D
  by_cases hlt : i < items.length
  · refine .inr ⟨W.goes i α' F' H3 Si ok3 st3 hlt, fun H' => ∃ α' F' Si acc accT rest, OkS K α' F' Si H' ∧ Step α1 F1 H1 α' F' H' ∧ H' D = some (.lst acc) ∧ F' D = none ∧ D ∉ α' ∧ IsL K α' F' accT acc ∧ accT.length ≤ i + 1 ∧
        mapL (lcF (evO G co) (strictly e.strict (ev G e)) tg ρ) (items.drop (i + 1)) Si = some (.ok rest S') ∧ accT ++ rest = l, fun H' h => ?_, fun x H4 hy => ?_⟩
    · obtain ⟨α', F', Si, acc, accT, rest, h⟩ := h
      exact ⟨items.length - (i + 1), by omega, α', F', Si, acc, accT, rest, rfl, hlt, h⟩
    · obtain ⟨F4, t4, et, ok4, st4, is4⟩ := W.yields i α' F' H3 Si x H4 ok3 st3 hlt hy
      have dr : items.drop i = t4 :: items.drop (i + 1) := by
        obtain ⟨_, hx⟩ := List.getElem?_eq_some_iff.mp et
        rw [← hx]
        exact List.drop_eq_getElem_cons hlt
      rw [dr] at em
      simp only [mapL] at em
      obtain ⟨ys, S5, e5, em⟩ := bnd_inv em
      obtain ⟨zs, S6, e6, em⟩ := bnd_inv em
      obtain ⟨er, eS⟩ := ret_inv em
      subst er eS
      unfold lcF at e5
      cases hbind : bindTg (wipeE ρ tg.slots) tg t4 with
      | none => rw [hbind] at e5; exact (fail_inv e5).elim
      | some ρ' =>
        rw [hbind] at e5
        obtain ⟨k, S7, e7, e5⟩ := bnd_inv e5
        have D4 : H4 D = some (.lst acc) := st4.hh D _ hD3 ha3
        have F4D : F4 D = none := st4.fn D hF3 (by rw [hD3]; exact fun z => by cases z)
        have L4 : Loc K α' F4 H4 (wipeE ρ tg.slots) (wipe σ tg.slots) := ((L.step st1).step (st3.trans st4)).wipe _
        refine bind_ok ok4 is4 L4 hbind fun σ' L' hw => ⟨by rw [hw _ fun _ h => h, wipe_wipe], ?_⟩
        cases hk : condT k with
        | none => rw [hk] at e5; exact (fail_inv e5).elim
        | some b =>
          rw [hk] at e5
          refine ⟨α', F4, Si, ρ', k, S7, b, ok4, L', e7, hk, fun H8 α8 F8 ok8 st8 => ?_⟩
          have D8 : H8 D = some (.lst acc) := st8.hh D _ D4 ha3
          have F8D : F8 D = none := st8.fn D F4D (by rw [D4]; exact fun z => by cases z)
          have a8 : D ∉ α8 := st8.notin (by rw [D4]; exact fun z => by cases z) ha3
          cases b with
          | true =>
            simp only [if_true]
            obtain ⟨y, S9, e9, e5⟩ := bnd_inv e5
            obtain ⟨er, eS⟩ := ret_inv e5
            subst er eS
            unfold strictly at e9
            by_cases hstr : e.strict = true
            · rw [if_pos hstr] at e9
              refine ⟨α8, F8, S7, ρ', y, _, ok8, L'.step st8, e9, fun v H9 α9 F9 ok9 st9 _ is9 => ?_⟩
              have D9 : H9 D = some (.lst acc) := st9.hh D _ D8 a8
              have F9D : F9 D = none := st9.fn D F8D (by rw [D8]; exact fun z => by cases z)
              have a9 : D ∉ α9 := st9.notin (by rw [D8]; exact fun z => by cases z) a8
              have hl : acc.length < sizeLine := by
                have := W.len
                have := hacc.length
                omega
              refine ⟨acc, D9, hl, α9, F9, _, acc ++ [v], accT ++ [y], zs, ok9.poke F9D a9, ((((st3.trans st4).trans st8).trans st9)).poke hD, upd_same, F9D, a9, ?_, by simp; omega, e6, by rw [← ea]; simp⟩
              exact ((st9.isL (st8.isL (st4.isL hacc)))).snoc (is9 hstr)
            · rw [if_neg hstr] at e9; exact (fail_inv e9).elim
          | false =>
            simp only [Bool.false_eq_true, if_false]
            obtain ⟨er, eS⟩ := ret_inv e5
            subst er eS
            exact ⟨α8, F8, _, acc, accT, zs, ok8, (st3.trans st4).trans st8, D8, F8D, a8, st8.isL (st4.isL hacc), by omega, e6, by rw [← ea]; simp⟩
  · have hi : i = items.length := by omega
    subst hi
    refine .inl ⟨W.stops α' F' H3 Si ok3 st3, ?_⟩
    rw [List.drop_length] at em
    obtain ⟨er, eS⟩ := ret_inv em
    subst er eS
    rw [List.append_nil] at ea
    subst ea
    exact q D _ H3 α' F' ok3 (st1.trans st3) hD3 ⟨acc, rfl, hacc⟩ hF3 ha3 (by
      cases z : H D with
      | none => rfl
      | some o => exact absurd hD (st1.hx D (by rw [z]; exact fun y => by cases y)))
theorem pe_lcN {X : Cx} {G : Glob} (c : CtxOk G X) {tg : Tg} {it : Itr} {co : Oe} {e : Ex} {g t i : Expr} {ifs : List Expr} {scope : Scope} {pos : Pos} (hb : blkC X.N X.env.scope scope (ownOf X.N tg.slots) = true) (htg : chkTg X.N scope tg t = true)
    (hi : PI X t i (tI X.K G it)) (hfi : goodF i = true) (ht : ∀ (s : Shared) (H : Hp) (C : Addr) (cl : List (Str × Addr)) (fp : List Addr), PTs (X.blk s H scope (compEnvC scope cl C X.env) fp) ifs (tTs X.K G co))
    (he : ∀ (s : Shared) (H : Hp) (C : Addr) (cl : List (Str × Addr)) (fp : List Addr), PE (X.blk s H scope (compEnvC scope cl C X.env) fp) g (tE X.K G e)) :
    PE X (.ListComp g [⟨t, i, ifs, 0⟩] scope pos) (tN X.K G (.lc tg it co e)) := by
  have base := pe_lc (pos := pos) (g := tG X.K tg) c.calm c.nd hi (blkOk_by hb) (fun s H C cl fp => pg_tg (X := X.blk s H scope (compEnvC scope cl C X.env) fp) c.calm c.nd canSet_blk htg) ht he (folded_of hfi)
  rw [own_slots] at base
  exact ⟨fun pins s σ H Q I hq => base.run pins s σ H Q I (lc_read hq)⟩
end RD

namespace RD
open PySem PySem.Spec PyProof.Rows L2

theorem putT_len (l : List (Key × T)) (k : Key) (v : T) : (putT l k v).length ≤ l.length + 1 := by
  unfold putT
  split
  · simp
  · simp
theorem pe_dcN {X : Cx} {G : Glob} (c : CtxOk G X) {tg : Tg} {it : Itr} {ek ev' : Ex} {g h t i : Expr} {scope : Scope} {pos : Pos} (hb : blkC X.N X.env.scope scope (ownOf X.N tg.slots) = true) (htg : chkTg X.N scope tg t = true)
    (hi : PI X t i (tI X.K G it)) (hfi : goodF i = true) (hk : ∀ (s : Shared) (H : Hp) (C : Addr) (cl : List (Str × Addr)) (fp : List Addr), PE (X.blk s H scope (compEnvC scope cl C X.env) fp) g (tE X.K G ek))
    (he : ∀ (s : Shared) (H : Hp) (C : Addr) (cl : List (Str × Addr)) (fp : List Addr), PE (X.blk s H scope (compEnvC scope cl C X.env) fp) h (tE X.K G ev')) :
    PE X (.DictComp g h [⟨t, i, [], 0⟩] scope pos) (tN X.K G (.dc tg it ek ev')) := by
  have base := pe_dc (pos := pos) (g := tG X.K tg) (ifs := []) (tt := tYes) c.calm c.nd hi (blkOk_by hb) (fun s H C cl fp => pg_tg (X := X.blk s H scope (compEnvC scope cl C X.env) fp) c.calm c.nd canSet_blk htg) (fun s H C cl fp => pts_nil) hk he (folded_of hfi)
  rw [own_slots] at base
  refine ⟨fun pins s σ H Q I hq => base.run pins s σ H Q I ?_⟩
  obtain ⟨α, F, S, ρ, tt, S', ok, L, ee, q⟩ := hq
  simp only [ev] at ee
  obtain ⟨items, S1, e1, ee⟩ := bnd_inv ee
  obtain ⟨l, S2, e2, ee⟩ := bnd_inv ee
  obtain ⟨er, eS⟩ := ret_inv ee
  subst er
  subst eS
  refine ⟨α, F, S, ρ, items, S1, ok, L, e1, fun J H1 α1 F1 ok1 st1 W _ D hD => ?_⟩
  have hDa : D ∉ α1 := ok1.not_cell hD
  have hDF : F1 D = none := ok1.sub.free hD
  refine ⟨fun i m H3 => ∃ α' F' Si acc accT, m = items.length - i ∧ i ≤ items.length ∧ OkS X.K α' F' Si H3 ∧ Step α1 F1 H1 α' F' H3 ∧ H3 D = some (.dK acc) ∧ F' D = none ∧ D ∉ α' ∧ IsKV X.K α' F' accT acc ∧ accT.length ≤ i ∧
      foldD (dcF (ev G ek) (strictly ev'.strict (ev G ev')) tg ρ) (items.drop i) accT Si = some (.ok l S'), ⟨_, α1, F1, S1, [], [], rfl, Nat.zero_le _, ok1.loose hD, .loose hD, upd_same, hDF, hDa, rfl, Nat.zero_le _, by simpa using e2⟩, ?_⟩
  rintro i m H3 ⟨α', F', Si, acc, accT, rfl, hil, ok3, st3, hD3, hF3, ha3, hacc, hal, em⟩
  by_cases hlt : i < items.length
  · refine .inr ⟨W.goes i α' F' H3 Si ok3 st3 hlt, fun H' => ∃ α' F' Si acc accT, OkS X.K α' F' Si H' ∧ Step α1 F1 H1 α' F' H' ∧ H' D = some (.dK acc) ∧ F' D = none ∧ D ∉ α' ∧ IsKV X.K α' F' accT acc ∧ accT.length ≤ i + 1 ∧
        foldD (dcF (ev G ek) (strictly ev'.strict (ev G ev')) tg ρ) (items.drop (i + 1)) accT Si = some (.ok l S'), fun H' h => ?_, fun x H4 hy => ?_⟩
    · obtain ⟨α', F', Si, acc, accT, h⟩ := h
      exact ⟨items.length - (i + 1), by omega, α', F', Si, acc, accT, rfl, hlt, h⟩
    · obtain ⟨F4, t4, et, ok4, st4, is4⟩ := W.yields i α' F' H3 Si x H4 ok3 st3 hlt hy
      have dr : items.drop i = t4 :: items.drop (i + 1) := by
        obtain ⟨_, hx⟩ := List.getElem?_eq_some_iff.mp et
        rw [← hx]
        exact List.drop_eq_getElem_cons hlt
      rw [dr] at em
      simp only [foldD] at em
      obtain ⟨kv, S5, e5, em⟩ := bnd_inv em
      unfold dcF at e5
      cases hbind : bindTg (wipeE ρ tg.slots) tg t4 with
      | none => rw [hbind] at e5; exact (fail_inv e5).elim
      | some ρ' =>
        rw [hbind] at e5
        obtain ⟨a, S7, e7, e5⟩ := bnd_inv e5
        obtain ⟨b, S8, e8, e5⟩ := bnd_inv e5
        have D4 : H4 D = some (.dK acc) := st4.hh D _ hD3 ha3
        have F4D : F4 D = none := st4.fn D hF3 (by rw [hD3]; exact fun z => by cases z)
        have L4 : Loc X.K α' F4 H4 (wipeE ρ tg.slots) (wipe σ tg.slots) := ((L.step st1).step (st3.trans st4)).wipe _
        refine bind_ok ok4 is4 L4 hbind fun σ' L' hw => ⟨by rw [hw _ fun _ h => h, wipe_wipe], ?_⟩
        show tE X.K G ek σ' H4 _
        refine ⟨α', F4, Si, ρ', a, S7, ok4, L', e7, fun y H8 α8 F8 ok8 st8 ip8 _ => ?_⟩
        have D8 : H8 D = some (.dK acc) := st8.hh D _ D4 ha3
        have F8D : F8 D = none := st8.fn D F4D (by rw [D4]; exact fun z => by cases z)
        have a8 : D ∉ α8 := st8.notin (by rw [D4]; exact fun z => by cases z) ha3
        unfold strictly at e8
        by_cases hstr : ev'.strict = true
        · rw [if_pos hstr] at e8
          refine ⟨α8, F8, S7, ρ', b, S8, ok8, L'.step st8, e8, fun v H9 α9 F9 ok9 st9 _ is9 => ?_⟩
          have D9 : H9 D = some (.dK acc) := st9.hh D _ D8 a8
          have F9D : F9 D = none := st9.fn D F8D (by rw [D8]; exact fun z => by cases z)
          have a9 : D ∉ α9 := st9.notin (by rw [D8]; exact fun z => by cases z) a8
          cases hk : keyT a with
          | none => rw [hk] at e5; exact (fail_inv e5).elim
          | some k =>
            rw [hk] at e5
            obtain ⟨er, eS⟩ := ret_inv e5
            subst er eS
            have ek : y = kV k := by
              cases a with
              | int i => cases hk; rw [ip8.int]; rfl
              | str i => cases hk; rw [ip8.str]; rfl
              | _ => simp [keyT] at hk
            have hl : acc.length < sizeLine := by
              have := W.len
              have := hacc.length
              omega
            refine ⟨acc, k, ek, D9, hl, α9, F9, _, putK acc k v, putT accT k b, ok9.poke F9D a9, ((((st3.trans st4).trans st8).trans st9)).poke hD, upd_same, F9D, a9, ?_, by have := putT_len accT k b; omega, em⟩
            exact ((st9.isKV (st8.isKV (st4.isKV hacc)))).put (is9 hstr)
        · rw [if_neg hstr] at e8; exact (fail_inv e8).elim
  · have hi : i = items.length := by omega
    subst hi
    refine .inl ⟨W.stops α' F' H3 Si ok3 st3, ?_⟩
    rw [List.drop_length] at em
    obtain ⟨er, eS⟩ := ret_inv em
    subst er eS
    have hD0 : H D = none := by
      cases z : H D with
      | none => rfl
      | some o => exact absurd hD (st1.hx D (by rw [z]; exact fun y => by cases y))
    exact q D _ H3 α' F' ok3 (st1.trans st3) hD3 ⟨acc, rfl, hacc⟩ hF3 ha3 hD0

/-- a reading of anything that gives a value -/
def tM (K : PySem.W.Frag) (m : Env → M T) : TE := fun σ H Q => ∃ α F S ρ t S', OkS K α F S H ∧ Loc K α F H ρ σ ∧ m ρ S = some (.ok t S') ∧
  ∀ v H' α' F', OkS K α' F' S' H' → Step α F H α' F' H' → Is K α' F' t v → Q v H'
def tMt (K : PySem.W.Frag) (m : Env → M T) : TT := fun σ H Q => ∃ α F S ρ k S', OkS K α F S H ∧ Loc K α F H ρ σ ∧ m ρ S = some (.ok (.bl k) S') ∧
  ∀ H' α' F', OkS K α' F' S' H' → Step α F H α' F' H' → Q k H'
theorem pt_ifExp {X : Cx} {c a b : Expr} {tc ta tb : TT} {pos : Pos} (hc : PT X c tc) (ha : PT X a ta) (hb : PT X b tb) : PT X (.IfExp c a b pos) (fun σ H Q => tc σ H fun k H1 => if k = true then ta σ H1 Q else tb σ H1 Q) := by
  refine ⟨fun pins s σ H Q I h => ?_⟩
  show wpAny _ _ (do if ← isTrue c X.env (eval c X.env) then isTrue a X.env (eval a X.env) else isTrue b X.env (eval b X.env)) _ _ s
  refine wpAny_bind (thn (hc.run pins s σ H _ I h) fun k s1 ⟨H1, I1, q1⟩ => ?_)
  cases k with
  | true => exact ha.run pins s1 σ H1 Q I1 q1
  | false => exact hb.run pins s1 σ H1 Q I1 q1
end RD

namespace RD
open PySem PySem.Spec PyProof.Rows L2

/-! ### readings of comparisons -/
section
variable {K : PySem.W.Frag} {G : Glob} {σ : L2.St} {H : Hp} {Q : VK}
theorem tTe_tE {e : Ex} {Q : Bool → Hp → Prop} (h : tTe K G e σ H Q) : tE K G e σ H fun x H' => ∃ k, x = .bl k ∧ Q k H' := by
  obtain ⟨α, F, S, ρ, k, S', ok, L, e, q⟩ := h
  exact ⟨α, F, S, ρ, _, S', ok, L, e, fun v H' α' F' ok' st ip _ => ⟨k, ip.bl, q H' α' F' ok' st⟩⟩
theorem cmp_read {o : Cop} {a b : Ex} (h : tE K G (.cmp o a b) σ H Q) : tOp (rCmp o K) (tE K G a) (tE K G b) σ H Q := by
  obtain ⟨α, F, S, ρ, t, S', ok, L, e, q⟩ := h
  simp only [ev] at e
  obtain ⟨x, S1, e1, e⟩ := bnd_inv e
  obtain ⟨y, S2, e2, e⟩ := bnd_inv e
  obtain ⟨e', rfl⟩ := look_inv e
  refine ⟨α, F, S, ρ, x, S1, ok, L, e1, fun v1 H1 α1 F1 ok1 st1 ip1 _ => ⟨α1, F1, S1, ρ, y, _, ok1, L.step st1, e2, fun v2 H2 α2 F2 ok2 st2 ip2 _ => ?_⟩⟩
  split at e'
  · rename_i x' y' ex ey
    simp only [Option.map_eq_some_iff] at e'
    obtain ⟨k, e2, rfl⟩ := e'
    exact ⟨α2, F2, _, x', y', k, ok2, (ip1.step st2).view ok2 ex, ip2.view ok2 ey, e2, q _ H2 α2 F2 ok2 (st1.trans st2) (.inl rfl) fun _ => rfl⟩
  · cases e'
theorem isN_dec {x : T} {v : V} {α' : List Addr} {F' H' : Hp} (ip : IsP K α' F' H' x v) : decide (v = V.non) = isNon x := by
  cases x with
  | non => rcases ip with h | ⟨a, xs, m, e1, _⟩
           · rw [show v = V.non from h]; rfl
           · cases e1
  | bl b => rw [ip.bl]; rfl
  | int b => rw [ip.int]; rfl
  | str b => rw [ip.str]; rfl
  | tup l => rcases ip with ⟨a, xs, h, _⟩ | ⟨a, xs, m, _, h, _⟩ <;> rw [h] <;> rfl
  | lst l => rcases ip with ⟨a, xs, h, _⟩ | ⟨a, xs, m, _, h, _⟩ <;> rw [h] <;> rfl
  | dct l => rcases ip with ⟨a, xs, h, _⟩ | ⟨a, xs, m, _, h, _⟩ <;> rw [h] <;> rfl
  | set l => rcases ip with h | ⟨a, xs, m, _, h, _⟩
             · exact h.elim
             · rw [h]; rfl
  | scr l => rcases ip with ⟨a, h, _⟩ | ⟨a, xs, m, _, h, _⟩ <;> rw [h] <;> rfl
  | ref l => rcases ip with ⟨a, h, _⟩ | ⟨a, xs, m, _, h, _⟩ <;> rw [h] <;> rfl
theorem isN_read {a : Ex} (h : tE K G (.isN false a) σ H Q) : tIsN (tE K G a) σ H Q := by
  obtain ⟨α, F, S, ρ, t, S', ok, L, e, q⟩ := h
  simp only [ev] at e
  obtain ⟨x, S1, e1, e⟩ := bnd_inv e
  obtain ⟨rfl, rfl⟩ := ret_inv e
  refine ⟨α, F, S, ρ, x, _, ok, L, e1, fun v H' α' F' ok' st ip _ => ?_⟩
  show Q (V.bl (decide (v = V.non))) H'
  rw [isN_dec ip]
  exact q _ H' α' F' ok' st (.inl rfl) fun _ => rfl
theorem notN_read {a : Ex} (h : tE K G (.isN true a) σ H Q) : tNotN (tE K G a) σ H Q := by
  obtain ⟨α, F, S, ρ, t, S', ok, L, e, q⟩ := h
  simp only [ev] at e
  obtain ⟨x, S1, e1, e⟩ := bnd_inv e
  obtain ⟨rfl, rfl⟩ := ret_inv e
  refine ⟨α, F, S, ρ, x, _, ok, L, e1, fun v H' α' F' ok' st ip _ => ?_⟩
  show Q (V.bl (!decide (v = V.non))) H'
  rw [isN_dec ip]
  exact q _ H' α' F' ok' st (.inl rfl) fun _ => rfl
theorem chain_read {o o2 : Cop} {a b d : Ex} (s1 : a.strict = true) (s2 : b.strict = true) (s3 : d.strict = true) (h : tE K G (.chain o o2 a b d) σ H Q) : tChain (rCmp o K) (rCmp o2 K) (tE K G a) (tE K G b) (tE K G d) σ H Q := by
  obtain ⟨α, F, S, ρ, t, S', ok, L, e, q⟩ := h
  simp only [ev] at e
  obtain ⟨x, S1, e1, ea⟩ := bnd_inv e
  obtain ⟨y, S2, e2, eb⟩ := bnd_inv ea
  obtain ⟨k, S3, e3, ec⟩ := bnd_inv eb
  obtain ⟨e3', z3⟩ := opt_inv e3
  subst z3
  refine ⟨α, F, S, ρ, x, S1, ok, L, e1, fun v1 H1 α1 F1 ok1 st1 _ is1 => ⟨α1, F1, S1, ρ, y, _, ok1, L.step st1, e2, fun v2 H2 α2 F2 ok2 st2 _ is2 => ?_⟩⟩
  refine ⟨α2, F2, _, x, y, k, ok2, .inl (st2.is (is1 s1)), .inl (is2 s2), e3', k, rfl, ?_⟩
  cases k with
  | false =>
    obtain ⟨rfl, rfl⟩ := ret_inv ec
    exact q _ H2 α2 F2 ok2 (st1.trans st2) (.inl rfl) fun _ => rfl
  | true =>
    obtain ⟨z, S4, e4, e6⟩ := bnd_inv ec
    obtain ⟨k', S5, e5, e7⟩ := bnd_inv e6
    obtain ⟨e5', e8⟩ := opt_inv e5
    subst e8
    obtain ⟨rfl, rfl⟩ := ret_inv e7
    exact ⟨α2, F2, _, ρ, z, _, ok2, (L.step st1).step st2, e4, fun v3 H3 α3 F3 ok3 st3 _ is3 => ⟨α3, F3, _, y, z, k', ok3, .inl (st3.is (is2 s2)), .inl (is3 s3), e5', q _ H3 α3 F3 ok3 ((st1.trans st2).trans st3) (.inl rfl) fun _ => rfl⟩⟩
end
/-! ### what a test is -/
def Ex.special : Ex → Bool
  | .not _ => true
  | .bop _ _ => true
  | .ite _ _ _ => true
  | .cmp _ _ _ => true
  | .chain _ _ _ _ _ => true
  | .isN _ _ => true
  | _ => false
theorem plain_true {N : List Str} {sc : Scope} {e : Ex} {f : Expr} (h : chkE N sc e f = true) (hs : e.special = false) (env : PySem.Env) : ∀ whole, isTrue f env whole = (do let v ← whole; standAt f.pos; holding [v] (truthy v)) := by
  intro whole
  cases f with
  | BoolOp op fs p => cases e with
      | cel e => cases e <;> simp [chkE, newE] at h
      | ext x e =>
        simp only [chkE] at h
        split at h
        · rename_i z; have := subX_call z; simp [callB] at this
        · cases h
      | _ => simp [chkE, Ex.special] at h hs
  | IfExp a b c p => cases e with
      | cel e => cases e <;> simp [chkE, newE] at h
      | ext x e =>
        simp only [chkE] at h
        split at h
        · rename_i z; have := subX_call z; simp [callB] at this
        · cases h
      | _ => simp [chkE, Ex.special] at h hs
  | Compare l ops rs p => cases e with
      | cel e => cases e <;> simp [chkE, newE] at h
      | ext x e =>
        simp only [chkE] at h
        split at h
        · rename_i z; have := subX_call z; simp [callB] at this
        · cases h
      | _ => simp [chkE, Ex.special] at h hs
  | UnaryOp op g p =>
    cases op with
    | Not => cases e with
      | cel e => cases e <;> simp [chkE, newE] at h
      | ext x e =>
        simp only [chkE] at h
        split at h
        · rename_i z; have := subX_call z; simp [callB] at this
        · cases h
      | _ => simp [chkE, Ex.special] at h hs
    | _ => rfl
  | _ => rfl

/-! ### what is walked -/
section
variable {X : Cx} {G : Glob} {tg : Expr}
theorem pi_one' {pins : List (Addr × Obj)} {σ : L2.St} {H : Hp} {s : Shared} {R : It → Hp → Prop} {J : It} {tn : Nat → Heap → Prop} (I : Inv X pins σ H s) (o : Obj) (T : Turn X.prog X.w X.K tg J [s.heap.objs.size] s.heap.objs.size tn) (h0 : tn 0 (s.heap.push o)) (q : R J H) :
    PIE X pins σ tg R (.ref s.heap.objs.size) { s with heap := s.heap.push o } := by
  refine ⟨s.heap.objs.size, [s.heap.objs.size], tn, J, H, rfl, I.kept (t' := s.toks) fun b o e => Heap.get?_push_of_some _ e, T, h0, fun b hb => ?_, q⟩
  have e : b = s.heap.objs.size := by simpa using hb
  subst e
  exact I.fpOk (Nat.le_refl _) (I.hok.fresh (Nat.le_refl _))
theorem pi_seqT {e : Ex} {f : Expr} (he : PE X f (tE X.K G e)) : PI X tg f (tI X.K G (.seq e)) := by
  refine ⟨fun pins s σ H R I h => ?_⟩
  obtain ⟨α, F, S, ρ, l, S', ok, L, ee, q⟩ := h
  simp only [evI] at ee
  obtain ⟨t, S1, e1, ee⟩ := bnd_inv ee
  obtain ⟨e2, z⟩ := opt_inv ee
  subst z
  refine thn (he.run pins s σ H (fun v H1 => ∃ α1 F1, OkS X.K α1 F1 S' H1 ∧ Step α F H α1 F1 H1 ∧ IsP X.K α1 F1 H1 t v ∧ (e.strict = true → Is X.K α1 F1 t v)) I ⟨α, F, S, ρ, t, S', ok, L, e1, fun v H1 α1 F1 ok1 st1 ip1 is1 => ⟨α1, F1, ok1, st1, ip1, is1⟩⟩) fun v s1 ⟨x, H1, I1, r1, α1, F1, ok1, st1, ip1, is1⟩ => ?_
  cases t with
  | tup l =>
    cases e2
    obtain ⟨a, xs, rfl, h1, h2⟩ := ip1.tupAt ok1
    cases r1
    obtain ⟨its, rv, p, hz⟩ := I1.tuple h1
    exact wpAny_pyIter_tuple (show s1.heap.IsTuple a its.toArray from p) (pi_one' I1 _ (turn_tuple a _) ⟨_, Heap.get?_push_size _ rfl, rfl, rfl⟩ (q _ H1 α1 F1 ok1 st1 (walk_tupT (fun _ _ _ st => ip1.step st) (by rw [h2.length]; exact hz)) fun hs => walk_tupT (fun _ _ _ la => .inl (la.is (is1 hs))) (by rw [h2.length]; exact hz)))
  | lst l =>
    cases e2
    obtain ⟨a, xs, rfl, h1, h2⟩ := ip1.lstAt ok1
    cases r1
    obtain ⟨its, rv, p, hz⟩ := I1.list (.of h1)
    exact wpAny_pyIter_list p.isList (pi_one' I1 _ (turn_list a _) ⟨_, Heap.get?_push_size _ rfl, rfl, rfl⟩ (q _ H1 α1 F1 ok1 st1 (walk_lstT (fun _ _ _ st => ip1.step st) (by rw [h2.length]; exact hz)) fun hs => walk_lstT (fun _ _ _ la => .inl (la.is (is1 hs))) (by rw [h2.length]; exact hz)))
  | str z =>
    by_cases hl : z.length ≤ lim
    · simp only [itemsT, if_pos hl, Option.some.injEq] at e2
      subst e2
      rw [ip1.str] at r1
      obtain ⟨t, rfl⟩ := r1
      have w := q _ H1 α1 F1 ok1 st1 (walk_strT (Nat.le_of_lt (lim_line hl))) fun _ => walk_strT (Nat.le_of_lt (lim_line hl))
      cases ha : z.cps.all (· < 128)
      · exact wpAny_pyIter_wide ha (pi_one' I1 _ (turn_str _ z t "str_iterator" (.inr rfl)) ⟨_, Heap.get?_push_size _ rfl, rfl, rfl⟩ w)
      · exact wpAny_pyIter_ascii ha (pi_one' I1 _ (turn_str _ z t "str_ascii_iterator" (.inl rfl)) ⟨_, Heap.get?_push_size _ rfl, rfl, rfl⟩ w)
    · simp [itemsT, if_neg hl] at e2
  | _ => cases e2
theorem pi_rng1T (c : CtxOk G X) {a : Ex} {f : Expr} {p pos : Pos} (hg : Gl X "range") (ha : PE X f (tE X.K G a)) (gf : goodF f = true) : PI X tg (.Call (.Name "range" p) [f] [] pos) (tI X.K G (.rng1 a)) := by
  refine ⟨fun pins s σ H R I h => ?_⟩
  obtain ⟨α, F, S, ρ, l, S', ok, L, ee, q⟩ := h
  simp only [evI] at ee
  obtain ⟨t, S1, e1, ee⟩ := bnd_inv ee
  cases t with
  | int j =>
    by_cases hj : okR j ∧ j ≤ lim
    · have ee : (if okR j ∧ j ≤ lim then RD.ret (rngT 0 j.toNat) else fail) S1 = some (.ok l S') := ee
      rw [if_pos hj] at ee
      obtain ⟨rfl, rfl⟩ := ret_inv ee
      refine (pi_range1 hg (c.free _ (by decide +kernel)) (pa_cons ha pa_nil (star_of gf)) (star_of gf)).run pins s σ H R I ⟨α, F, S, ρ, _, _, ok, L, e1, fun v H1 α1 F1 ok1 st1 ip1 _ => ⟨j, by rw [ip1.int], hj.1.1, hj.1.2, q _ H1 α1 F1 ok1 st1 (walk_rngT (Nat.le_of_lt (lim_line (n := j.toNat) (by omega)))) fun _ => walk_rngT (Nat.le_of_lt (lim_line (n := j.toNat) (by omega)))⟩⟩
    · have ee : (if okR j ∧ j ≤ lim then RD.ret (rngT 0 j.toNat) else fail) S1 = some (.ok l S') := ee
      rw [if_neg hj] at ee; exact (fail_inv ee).elim
  | _ => exact (fail_inv ee).elim
theorem pi_rng2T (c : CtxOk G X) {a b : Ex} {f g : Expr} {p pos : Pos} (hg : Gl X "range") (ha : PE X f (tE X.K G a)) (gf : goodF f = true) (hb : PE X g (tE X.K G b)) (gg : goodF g = true) : PI X tg (.Call (.Name "range" p) [f, g] [] pos) (tI X.K G (.rng2 a b)) := by
  refine ⟨fun pins s σ H R I h => ?_⟩
  obtain ⟨α, F, S, ρ, l, S', ok, L, ee, q⟩ := h
  simp only [evI] at ee
  obtain ⟨t, S1, e1, ee⟩ := bnd_inv ee
  obtain ⟨u, S2, e2, ee⟩ := bnd_inv ee
  cases t with
  | int i =>
    cases u with
    | int j =>
      by_cases hj : okR i ∧ okR j ∧ j - i ≤ lim
      · have ee : (if okR i ∧ okR j ∧ j - i ≤ lim then RD.ret (rngT i (j - i).toNat) else fail) S2 = some (.ok l S') := ee
        rw [if_pos hj] at ee
        obtain ⟨rfl, rfl⟩ := ret_inv ee
        have h1 : starEach [f, g] X.env = [(false, eval f X.env), (false, eval g X.env)] := by rw [star_of gf, star_of gg]; rfl
        have h2 : starEach [g] X.env = [(false, eval g X.env)] := by rw [star_of gg]; rfl
        refine (pi_range2 hg (c.free _ (by decide +kernel)) (pa_cons ha (pa_cons hb pa_nil (star_of gg)) (star_of gf)) h1 h2).run pins s σ H R I ⟨α, F, S, ρ, _, _, ok, L, e1, fun v H1 α1 F1 ok1 st1 ip1 _ => ⟨α1, F1, S1, ρ, _, _, ok1, L.step st1, e2, fun v2 H2 α2 F2 ok2 st2 ip2 _ =>
          ⟨i, j, by rw [ip1.int, ip2.int], ⟨hj.1.1, hj.1.2, hj.2.1.1, hj.2.1.2⟩, q _ H2 α2 F2 ok2 (st1.trans st2) (walk_rngT (Nat.le_of_lt (lim_line (n := (j - i).toNat) (by omega)))) fun _ => walk_rngT (Nat.le_of_lt (lim_line (n := (j - i).toNat) (by omega)))⟩⟩⟩
      · have ee : (if okR i ∧ okR j ∧ j - i ≤ lim then RD.ret (rngT i (j - i).toNat) else fail) S2 = some (.ok l S') := ee
        rw [if_neg hj] at ee; exact (fail_inv ee).elim
    | _ => exact (fail_inv ee).elim
  | _ => exact (fail_inv ee).elim
theorem sq_size {pins : List (Addr × Obj)} {σ : L2.St} {H : Hp} {s : Shared} (I : Inv X pins σ H s) {k : Bool} {a : Addr} {xs : List V} (h : SqB X.K H k a xs) : xs.length ≤ sizeLine := by
  cases k with
  | true => obtain ⟨_, _, _, z⟩ := I.list h; exact z
  | false => obtain ⟨_, _, _, z⟩ := I.tuple h; exact z
theorem pi_enumT (c : CtxOk G X) {a : Ex} {f : Expr} {p pos tpos : Pos} {elts : List Expr} {kk : Nat} (hg : Gl X "enumerate") (ha : PE X f (tE X.K G a)) (gf : goodF f = true) : PI X (.Tuple elts kk tpos) (.Call (.Name "enumerate" p) [f] [] pos) (tI X.K G (.enum a)) := by
  refine ⟨fun pins s σ H R I h => ?_⟩
  obtain ⟨α, F, S, ρ, l, S', ok, L, ee, q⟩ := h
  simp only [evI] at ee
  obtain ⟨t, S1, e1, ee⟩ := bnd_inv ee
  obtain ⟨e2, z⟩ := opt_inv ee
  subst z
  simp only [Option.map_eq_some_iff] at e2
  obtain ⟨m, e2, rfl⟩ := e2
  have hs : starEach [f] X.env = [(false, eval f X.env)] := by rw [star_of gf]; rfl
  refine Call_ (ld_blt I hg (c.free _ (by decide +kernel)) boot_enumerate (PyProof.Rows.callWith_type1 (thn ((pa_cons ha pa_nil (star_of gf)).run pos pins s σ H (fun vs H1 => ∃ v α1 F1, vs = [v] ∧ OkS X.K α1 F1 S' H1 ∧ Step α F H α1 F1 H1 ∧ IsP X.K α1 F1 H1 t v ∧ (a.strict = true → Is X.K α1 F1 t v)) I
    ⟨α, F, S, ρ, t, S', ok, L, e1, fun v H1 α1 F1 ok1 st1 ip1 is1 => ⟨v, α1, F1, rfl, ok1, st1, ip1, is1⟩⟩) fun us s1 ⟨vs, H1, I1, r1, v, α1, F1, ev, ok1, st1, ip1, is1⟩ => ?_) hs rfl))
  subst ev
  obtain ⟨u, rfl, ru⟩ := vals1 r1
  obtain ⟨k, x, xs, rfl, h1, h2, et⟩ := ip1.sqB ok1 e2
  cases ru
  obtain ⟨its, rv, dat, hx⟩ := inv_sqB I1 h1
  refine enum_call (beginsB k x its.toArray) dat fun h' he hit hk => wpAny_pyIter_enum he ?_
  have I2 : Inv X pins σ H1 { s1 with heap := h' } := I1.kept (t' := s1.toks) hk
  refine ⟨s1.heap.objs.size + 1, [s1.heap.objs.size + 1, s1.heap.objs.size], _, _, H1, rfl, I2, turn_enumB k x (s1.heap.objs.size + 1) s1.heap.objs.size (Nat.succ_ne_self _) (Nat.ne_of_gt (Nat.lt_succ_of_lt hx)) (Nat.ne_of_lt hx), ⟨⟨.none, by simpa using he⟩, itB_start hit⟩, fun b hb => ?_, q _ H1 α1 F1 ok1 st1 (walk_enumT (fun _ _ _ st => ip1.step st) et (by rw [h2.length]; exact sq_size I1 h1)) fun hs => walk_enumT (fun _ _ _ la => .inl (la.is (is1 hs))) et (by rw [h2.length]; exact sq_size I1 h1)⟩
  have e' : b = s1.heap.objs.size + 1 ∨ b = s1.heap.objs.size := by simpa using hb
  have hle : s1.heap.objs.size ≤ b := by
    rcases e' with z | z
    · rw [z]; exact Nat.le_add_right _ _
    · rw [z]; exact Nat.le_refl _
  exact I1.fpOk hle (I1.hok.fresh hle)
theorem pi_zip2T (c : CtxOk G X) {a b : Ex} {f g : Expr} {p pos tpos : Pos} {elts : List Expr} {kk : Nat} (hg : Gl X "zip") (ha : PE X f (tE X.K G a)) (gf : goodF f = true) (hb : PE X g (tE X.K G b)) (gg : goodF g = true) :
    PI X (.Tuple elts kk tpos) (.Call (.Name "zip" p) [f, g] [] pos) (tI X.K G (.zip2 a b)) := by
  refine ⟨fun pins s σ H R I h => ?_⟩
  obtain ⟨α, F, S, ρ, l, S', ok, L, ee, q⟩ := h
  simp only [evI] at ee
  obtain ⟨t, S1, e1, ee⟩ := bnd_inv ee
  obtain ⟨t2, S2, e2, ee⟩ := bnd_inv ee
  cases ex : seqT t with
  | none => rw [ex] at ee; exact (fail_inv ee).elim
  | some m =>
  cases ey : seqT t2 with
  | none => rw [ex, ey] at ee; exact (fail_inv ee).elim
  | some n =>
  rw [ex, ey] at ee
  obtain ⟨rfl, rfl⟩ := ret_inv ee
  refine Call_ (ld_blt I hg (c.free _ (by decide +kernel)) PyProof.Rows.boot_zip (PyProof.Rows.callWith_type1 (thn ((pa_cons ha (pa_cons hb pa_nil (star_of gg)) (star_of gf)).run pos pins s σ H (fun vs H1 => ∃ v w α1 F1, vs = [v, w] ∧ OkS X.K α1 F1 S' H1 ∧ Step α F H α1 F1 H1 ∧ IsP X.K α1 F1 H1 t v ∧ IsP X.K α1 F1 H1 t2 w ∧ (a.strict = true → Is X.K α1 F1 t v) ∧ (b.strict = true → Is X.K α1 F1 t2 w)) I
    ⟨α, F, S, ρ, t, S1, ok, L, e1, fun v H1 α1 F1 ok1 st1 ip1 is1 => ⟨α1, F1, S1, ρ, t2, S', ok1, L.step st1, e2, fun w H2 α2 F2 ok2 st2 ip2 is2 => ⟨v, w, α2, F2, rfl, ok2, st1.trans st2, ip1.step st2, ip2, fun hs => st2.is (is1 hs), is2⟩⟩⟩) fun us s1 ⟨vs, H1, I1, r1, v, w, α1, F1, ev, ok1, st1, ip1, ip2, is1, is2⟩ => ?_) (star_of gf) (star_any (by intro f hf; simp at hf; subst hf; exact gg))))
  subst ev
  obtain ⟨u, u2, rfl, ru, ru2⟩ := vals2 r1
  obtain ⟨k1, x, xs, rfl, h1, h2, et⟩ := ip1.sqB ok1 ex
  obtain ⟨k2, y, ys, rfl, g1, g2, et2⟩ := ip2.sqB ok1 ey
  cases ru
  cases ru2
  obtain ⟨its, rv, dat, hx⟩ := inv_sqB I1 h1
  obtain ⟨its2, rv2, dat2, hy⟩ := inv_sqB I1 g1
  refine zip_begins2 (beginsB k1 x its.toArray) (beginsB k2 y its2.toArray) dat dat2 fun h' hz hTI hTO hi1 hi2 hsz hk => wpAny_pyIter_zip hz ?_
  have I2 : Inv X pins σ H1 { s1 with heap := h' } := I1.kept (t' := s1.toks) hk
  refine ⟨s1.heap.objs.size + 4, _, _, _, H1, rfl, I2, turn_zip2B k1 k2 x y s1.heap.objs.size hx hy, ⟨hz, hTI, ⟨_, _, hTO⟩, itB_start hi1, itB_start hi2⟩, fun b hb => ?_, q _ H1 α1 F1 ok1 st1 (walk_zip2T (fun _ _ _ st => ip1.step st) et (fun _ _ _ st => ip2.step st) et2 (by rw [h2.length]; exact sq_size I1 h1)) fun hs => ?_⟩
  rotate_left
  · simp only [Itr.strict, Bool.and_eq_true] at hs
    exact walk_zip2T (fun _ _ _ la => .inl (la.is (is1 hs.1))) et (fun _ _ _ la => .inl (la.is (is2 hs.2))) et2 (by rw [h2.length]; exact sq_size I1 h1)
  have hle : s1.heap.objs.size ≤ b := by
    simp at hb
    rcases hb with z | z | z | z | z <;> rw [z] <;> first | exact Nat.le_add_right _ _ | exact Nat.le_refl _
  exact I1.fpOk hle (I1.hok.fresh hle)
theorem vals3 {x y z : V} {us : List Value} (r : Vals [x, y, z] us) : ∃ u v w, us = [u, v, w] ∧ RelV x u ∧ RelV y v ∧ RelV z w := by
  cases r with
  | cons r1 r =>
    cases r with
    | cons r2 r =>
      cases r with
      | cons r3 r => cases r; exact ⟨_, _, _, rfl, r1, r2, r3⟩
theorem pi_zip3T (c : CtxOk G X) {a b d : Ex} {f g i : Expr} {p pos tpos : Pos} {elts : List Expr} {kk : Nat} (hg : Gl X "zip") (ha : PE X f (tE X.K G a)) (gf : goodF f = true) (hb : PE X g (tE X.K G b)) (gg : goodF g = true) (hd : PE X i (tE X.K G d)) (gi : goodF i = true) :
    PI X (.Tuple elts kk tpos) (.Call (.Name "zip" p) [f, g, i] [] pos) (tI X.K G (.zip3 a b d)) := by
  refine ⟨fun pins s σ H R I h => ?_⟩
  obtain ⟨α, F, S, ρ, l, S', ok, L, ee, q⟩ := h
  simp only [evI] at ee
  obtain ⟨t, S1, e1, ee⟩ := bnd_inv ee
  obtain ⟨t2, S2, e2, ee⟩ := bnd_inv ee
  obtain ⟨t3, S3, e3, ee⟩ := bnd_inv ee
  cases ex : seqT t with
  | none => rw [ex] at ee; exact (fail_inv ee).elim
  | some m =>
  cases ey : seqT t2 with
  | none => rw [ex, ey] at ee; exact (fail_inv ee).elim
  | some n =>
  cases ez : seqT t3 with
  | none => rw [ex, ey, ez] at ee; exact (fail_inv ee).elim
  | some o =>
  rw [ex, ey, ez] at ee
  obtain ⟨rfl, rfl⟩ := ret_inv ee
  refine Call_ (ld_blt I hg (c.free _ (by decide +kernel)) PyProof.Rows.boot_zip (PyProof.Rows.callWith_type1 (thn ((pa_cons ha (pa_cons hb (pa_cons hd pa_nil (star_of gi)) (star_of gg)) (star_of gf)).run pos pins s σ H (fun vs H1 => ∃ v w z α1 F1, vs = [v, w, z] ∧ OkS X.K α1 F1 S' H1 ∧ Step α F H α1 F1 H1 ∧ IsP X.K α1 F1 H1 t v ∧ IsP X.K α1 F1 H1 t2 w ∧ IsP X.K α1 F1 H1 t3 z ∧ (a.strict = true → Is X.K α1 F1 t v) ∧ (b.strict = true → Is X.K α1 F1 t2 w) ∧ (d.strict = true → Is X.K α1 F1 t3 z)) I
    ⟨α, F, S, ρ, t, S1, ok, L, e1, fun v H1 α1 F1 ok1 st1 ip1 is1 => ⟨α1, F1, S1, ρ, t2, S2, ok1, L.step st1, e2, fun w H2 α2 F2 ok2 st2 ip2 is2 => ⟨α2, F2, S2, ρ, t3, S', ok2, (L.step st1).step st2, e3, fun z H3 α3 F3 ok3 st3 ip3 is3 => ⟨v, w, z, α3, F3, rfl, ok3, (st1.trans st2).trans st3, (ip1.step st2).step st3, ip2.step st3, ip3, fun hs => st3.is (st2.is (is1 hs)), fun hs => st3.is (is2 hs), is3⟩⟩⟩⟩)
      fun us s1 ⟨vs, H1, I1, r1, v, w, z, α1, F1, ev, ok1, st1, ip1, ip2, ip3, is1, is2, is3⟩ => ?_) (star_of gf) (star_any (by intro f hf; simp at hf; rcases hf with hf | hf <;> subst hf <;> assumption))))
  subst ev
  obtain ⟨u, u2, u3, rfl, ru, ru2, ru3⟩ := vals3 r1
  obtain ⟨k1, x, xs, rfl, h1, h2, et⟩ := ip1.sqB ok1 ex
  obtain ⟨k2, y, ys, rfl, g1, g2, et2⟩ := ip2.sqB ok1 ey
  obtain ⟨k3, z, zs, rfl, j1, j2, et3⟩ := ip3.sqB ok1 ez
  cases ru
  cases ru2
  cases ru3
  obtain ⟨its, rv, dat, hx⟩ := inv_sqB I1 h1
  obtain ⟨its2, rv2, dat2, hy⟩ := inv_sqB I1 g1
  obtain ⟨its3, rv3, dat3, hz'⟩ := inv_sqB I1 j1
  refine zip_begins3 (beginsB k1 x its.toArray) (beginsB k2 y its2.toArray) (beginsB k3 z its3.toArray) dat dat2 dat3 fun h' hz hTI hTO hi1 hi2 hi3 hsz hk => wpAny_pyIter_zip hz ?_
  have I2 : Inv X pins σ H1 { s1 with heap := h' } := I1.kept (t' := s1.toks) hk
  refine ⟨s1.heap.objs.size + 5, _, _, _, H1, rfl, I2, turn_zip3B k1 k2 k3 x y z s1.heap.objs.size hx hy hz', ⟨hz, hTI, ⟨_, _, _, hTO⟩, itB_start hi1, itB_start hi2, itB_start hi3⟩, fun b hb => ?_, q _ H1 α1 F1 ok1 st1 (walk_zip3T (fun _ _ _ st => ip1.step st) et (fun _ _ _ st => ip2.step st) et2 (fun _ _ _ st => ip3.step st) et3 (by rw [h2.length]; exact sq_size I1 h1)) fun hs => ?_⟩
  rotate_left
  · simp only [Itr.strict, Bool.and_eq_true] at hs
    exact walk_zip3T (fun _ _ _ la => .inl (la.is (is1 hs.1.1))) et (fun _ _ _ la => .inl (la.is (is2 hs.1.2))) et2 (fun _ _ _ la => .inl (la.is (is3 hs.2))) et3 (by rw [h2.length]; exact sq_size I1 h1)
  have hle : s1.heap.objs.size ≤ b := by
    simp at hb
    rcases hb with z | z | z | z | z | z <;> rw [z] <;> first | exact Nat.le_add_right _ _ | exact Nat.le_refl _
  exact I1.fpOk hle (I1.hok.fresh hle)
end
end RD

/-! dict(zip(a, b)), a and b lists or tuples: zip over whatever is drawn, while its last pair is still held. -/
namespace RD
open PySem PySem.Spec PyProof.Rows L2
section
variable {P : Program} {w : World} {A : Around} {E : Value → Shared → Prop} {s : Shared} {z TI TO T i1 i2 : Addr} {fp1 fp2 : List Addr} {n1 n2 i : Nat} {P1 P2 : Nat → Value → Prop} {St1 St2 : Nat → Heap → Prop} {f : Bool} {oT : Obj}
/-- what of a heap a zip may turn -/
def ZipKeeps (z i1 i2 : Addr) (h h' : Heap) : Prop := ∀ c o, c ≠ z → c ≠ i1 → c ≠ i2 → h.get? c = some o → h'.get? c = some o
/-- one more row, the last one being held; or the end -/
theorem next_held {Q : Value → Shared → Prop} (S : ZipSep2 z TI TO i1 i2 fp1 fp2) (D1 : Draws P w A i1 fp1 n1 P1 St1) (D2 : Draws P w A i2 fp2 n2 P2 St2) (hz : IsZipHeld s.heap z TI TO T f) (hT : s.heap.get? T = some oT) (hTI : IsTupOf2 s.heap TI (.ref i1) (.ref i2))
    (st1 : St1 i s.heap) (st2 : St2 i s.heap) (m1 : i ≤ n1) (m2 : i ≤ n2)
    (q : i < n1 → i < n2 → ∀ x1 x2 h' tk, P1 i x1 → P2 i x2 → IsZipHeld h' z TI TO T true → St1 (i + 1) h' → St2 (i + 1) h' → IsTupOf2 h' s.heap.objs.size x1 x2 → ZipKeeps z i1 i2 s.heap h' → Q (.ref s.heap.objs.size) { s with heap := h', toks := tk })
    (e : i = n1 ∨ i = n2 → ∀ h' tk x, ZipKeeps z i1 i2 s.heap h' → (∃ o, h'.get? x = some o ∧ o.cls = .type "StopIteration") → E (.ref x) { s with heap := h', toks := tk }) :
    wpAny (model P w) A (Builtin.«zip.__next__» ⟨[.ref z], []⟩) (fun fin s' => ∃ v, fin = .done (.ret v) ∧ Q v s') E s := by
  unfold Builtin.«zip.__next__»
  refine wpAny_bind (m := slotArgs _ _ _) (wpAny_pure (wpAny_bind (wpAny_field hz rfl (x := .bool false) rfl (wpAny_bind (wpAny_field hz rfl (x := .ref TI) rfl (wpAny_bind (wpAny_seqItems hTI rfl ?_)))))))
  dsimp only
  rw [if_neg (show ¬ (#[Value.ref i1, Value.ref i2].isEmpty = true) from Bool.false_ne_true)]
  refine wpAny_bind (wpAny_tupleHeld_zip hz hT fun ha za ka => ?_)
  rw [if_neg Bool.false_ne_true, ← Array.forIn_toList]
  simp only [List.forIn_cons, List.forIn_nil]
  have a1 : St1 i ha := D1.over st1 ka S.zf1
  have a2 : St2 i ha := D2.over st2 ka S.zf2
  refine wpAny_bind (wpAny_bind (wpAny_bind (wpAny_holding ?_)))
  show wpAny _ _ (Builtin.SmallTypes.nextOf (.ref i1) >>= _) _ _ _
  by_cases l1 : i < n1
  · refine wpAny_bind (D1.item i { s with heap := ha } _ _ l1 a1 fun x1 hb tb p1 b1 kb => wpAny_pure (wpAny_pure (wpAny_bind (wpAny_bind (wpAny_holding ?_)))))
    have b2 : St2 i hb := D2.over a2 kb S.sep1_2
    show wpAny _ _ (Builtin.SmallTypes.nextOf (.ref i2) >>= _) _ _ _
    by_cases l2 : i < n2
    · refine wpAny_bind (D2.item i { s with heap := hb, toks := tb } _ _ l2 b2 fun x2 hc tc p2 c2 kc => wpAny_pure (wpAny_pure (wpAny_pure ?_)))
      show wpAny _ _ (newTuple [x1, x2] >>= _) _ _ _
      refine wpAny_bind (wpAny_newTuple (wpAny_pure ⟨_, rfl, ?_⟩))
      have size : hc.objs.size = s.heap.objs.size := by rw [kc.1, kb.1, ka.1]
      have new := Heap.get?_push_size hc (o := { cls := .type "tuple", data := .seq #[x1, x2] }) rfl
      have up : ∀ b ob, hc.get? b = some ob → (hc.push { cls := .type "tuple", data := .seq #[x1, x2] }).get? b = some ob := fun b ob g => Heap.get?_push_of_some _ g
      rw [size] at new
      show Q (.ref hc.objs.size) _
      rw [size]
      refine q l1 l2 x1 x2 _ tc p1 p2 (up _ _ (kc.extBut _ _ S.zi2 (kb.extBut _ _ S.zi1 za))) (D1.frame _ _ _ (D1.over b1 kc S.sep2_1) fun b _ ob g => up b ob g) (D2.frame _ _ _ c2 fun b _ ob g => up b ob g) new fun b ob nz n1 n2 g => ?_
      exact up _ _ (kc.extBut _ _ n2 (kb.extBut _ _ n1 (ka.extBut _ _ nz g)))
    · obtain rfl : i = n2 := by omega
      refine wpAny_bind (D2.done { s with heap := hb, toks := tb } _ _ b2 fun hc x kc stop => ?_)
      exact e (.inr rfl) hc tb x (fun b ob nz n1 n2 g => kc _ _ n2 (kb.extBut _ _ n1 (ka.extBut _ _ nz g))) stop
  · obtain rfl : i = n1 := by omega
    refine wpAny_bind (D1.done { s with heap := ha } _ _ a1 fun hb x kb stop => ?_)
    exact e (.inl rfl) hb s.toks x (fun b ob nz n1 n2 g => kb _ _ n1 (ka.extBut _ _ nz g)) stop
/-- the same, by 'next' -/
theorem pull_held {Q : Option Value → Shared → Prop} (S : ZipSep2 z TI TO i1 i2 fp1 fp2) (D1 : Draws P w A.in1 i1 fp1 n1 P1 St1) (D2 : Draws P w A.in1 i2 fp2 n2 P2 St2) (hz : IsZipHeld s.heap z TI TO T f) (hT : s.heap.get? T = some oT) (hTI : IsTupOf2 s.heap TI (.ref i1) (.ref i2))
    (st1 : St1 i s.heap) (st2 : St2 i s.heap) (m1 : i ≤ n1) (m2 : i ≤ n2)
    (q : i < n1 → i < n2 → ∀ x1 x2 h' tk, P1 i x1 → P2 i x2 → IsZipHeld h' z TI TO T true → St1 (i + 1) h' → St2 (i + 1) h' → IsTupOf2 h' s.heap.objs.size x1 x2 → ZipKeeps z i1 i2 s.heap h' → Q (some (.ref s.heap.objs.size)) { s with heap := h', toks := tk })
    (e : i = n1 ∨ i = n2 → ∀ h' tk, ZipKeeps z i1 i2 s.heap h' → Q none { s with heap := h', toks := tk }) : wpAny (model P w) A (pyNext (.ref z)) Q E s := by
  have is : s.TypeIs (.ref z) "zip" := ⟨_, hz, rfl⟩
  have next := next_held (A := A.in1) (E := fun v s' => ∃ x o h' tk, v = .ref x ∧ s' = { s with heap := h', toks := tk } ∧ h'.get? x = some o ∧ o.cls = .type "StopIteration" ∧ Q none s') (Q := fun v s' => Q (some v) s') S D1 D2 hz hT hTI st1 st2 m1 m2 q
    fun en h' tk x k ⟨o, ho, hc⟩ => ⟨x, o, h', tk, rfl, rfl, ho, hc, e en h' tk k⟩
  unfold pyNext
  refine wpAny_bind (wpAny_attempt (wpAny_callSpecial?_slot (name := "__next__") is F.slot_zip_next (wpAny_call_entry F.slot_zip_next is F.entry_zip_next (wpAny_mono next (fun fin s' h => ?_) fun v s' h => ?_) (F.args_zip_next_1 _))))
  · obtain ⟨v, e, h⟩ := h
    exact ⟨v, e, wpAny_pure h⟩
  · obtain ⟨x, o, h', tk, rfl, rfl, ho, hc, h⟩ := h
    exact wpAny_bind (wpAny_isInstance (T := "StopIteration") (b := true) ⟨o, ho, hc⟩ isSubtype_stop (wpAny_pure h))
/-- where a zip of two stands while a dict at d is filled from it -/
def ZipAt (z TI TO i1 i2 d : Addr) (fp1 fp2 : List Addr) (St1 St2 : Nat → Heap → Prop) (i : Nat) (h : Heap) : Prop :=
  IsTupOf2 h TI (.ref i1) (.ref i2) ∧ St1 i h ∧ St2 i h ∧ ((IsZip h z TI TO .none ∧ ∃ a b, IsTupOf2 h TO a b) ∨ ∃ T f oT, IsZipHeld h z TI TO T f ∧ h.get? T = some oT ∧ T ≠ z ∧ T ≠ i1 ∧ T ≠ i2 ∧ T ≠ d)
theorem zip_src {d : Addr} (S : ZipSep2 z TI TO i1 i2 fp1 fp2) (D1 : Draws P w A.in1 i1 fp1 n1 P1 St1) (D2 : Draws P w A.in1 i2 fp2 n2 P2 St2) (off : d ∉ z :: TI :: TO :: (fp1 ++ fp2)) :
    PairSrc P w A z d [z, TO, i1, i2] (min n1 n2) (fun i k v => P1 i k ∧ P2 i v) (ZipAt z TI TO i1 i2 d fp1 fp2 St1 St2) := by
  simp only [List.mem_cons, List.mem_append, not_or] at off
  obtain ⟨dz, dTI, dTO, d1, d2⟩ := off
  have di1 : d ≠ i1 := fun e => d1 (e ▸ S.mem1)
  have di2 : d ≠ i2 := fun e => d2 (e ▸ S.mem2)
  exact {
    off := by simp [dz, dTO, di1, di2]
    frame := fun i h h' st k => by
      obtain ⟨ti, a, b, zz⟩ := st
      refine ⟨k _ _ (Ne.symm dTI) ti, D1.frame _ _ _ a fun x hx o e => k _ _ (fun z => d1 (z ▸ hx)) e, D2.frame _ _ _ b fun x hx o e => k _ _ (fun z => d2 (z ▸ hx)) e, ?_⟩
      rcases zz with ⟨hz, x, y, to⟩ | ⟨T, f, oT, hz, hT, r1, r2, r3, r4⟩
      · exact .inl ⟨k _ _ (Ne.symm dz) hz, x, y, k _ _ (Ne.symm dTO) to⟩
      · exact .inr ⟨T, f, oT, k _ _ (Ne.symm dz) hz, k _ _ r4 hT, r1, r2, r3, r4⟩
    item := fun i s Q E lt st hd q => by
      obtain ⟨ti, a, b, zz⟩ := st
      have l1 : i < n1 := by omega
      have l2 : i < n2 := by omega
      have young : ∀ c, (∃ o, s.heap.get? c = some o) → s.heap.objs.size ≠ c := fun c ⟨o, e⟩ => Nat.ne_of_gt (Heap.lt_size e)
      rcases zz with ⟨hz, x, y, to⟩ | ⟨T, f, oT, hz, hT, r1, r2, r3, r4⟩
      · refine wpAny_pyNext_zipD2_item S D1 D2 hz ti to a b l1 l2 fun x1 x2 h' tk p1 p2 hz' to' a' b' new _ keep => ?_
        refine q s.heap.objs.size x1 x2 h' tk ⟨p1, p2⟩ (.inl ⟨_, new, rfl, _, rfl⟩) ⟨keep _ _ S.TIz S.TITO S.TIi1 S.TIi2 ti, a', b', .inr ⟨s.heap.objs.size, false, _, hz', new, young _ ⟨_, hz⟩, young _ (D1.live _ _ a), young _ (D2.live _ _ b), Nat.ne_of_gt hd⟩⟩ fun c o hc e => ?_
        simp only [List.mem_cons, List.not_mem_nil, or_false, not_or] at hc
        exact keep c o hc.1 hc.2.1 hc.2.2.1 hc.2.2.2 e
      · refine pull_held S D1 D2 hz hT ti a b (Nat.le_of_lt l1) (Nat.le_of_lt l2) (fun _ _ x1 x2 h' tk p1 p2 hz' a' b' new keep => ?_) fun en => by omega
        refine q s.heap.objs.size x1 x2 h' tk ⟨p1, p2⟩ (.inl ⟨_, new, rfl, _, rfl⟩) ⟨keep _ _ S.TIz S.TIi1 S.TIi2 ti, a', b', .inr ⟨T, true, oT, hz', keep _ _ r1 r2 r3 hT, r1, r2, r3, r4⟩⟩ fun c o hc e => ?_
        simp only [List.mem_cons, List.not_mem_nil, or_false, not_or] at hc
        exact keep c o hc.1 hc.2.2.1 hc.2.2.2 e
    done := fun s Q E st q => by
      obtain ⟨ti, a, b, zz⟩ := st
      have en : min n1 n2 = n1 ∨ min n1 n2 = n2 := by omega
      rcases zz with ⟨hz, x, y, to⟩ | ⟨T, f, oT, hz, hT, r1, r2, r3, r4⟩
      · refine wpAny_pyNext_zipD2_end S D1 D2 hz ti to a b (by omega) (by omega) en fun h' tk keep => q h' tk fun c o hc e => ?_
        simp only [List.mem_cons, List.not_mem_nil, or_false, not_or] at hc
        exact keep c o hc.1 hc.2.1 hc.2.2.1 hc.2.2.2 e
      · refine pull_held S D1 D2 hz hT ti a b (by omega) (by omega) (fun l1 l2 => by omega) fun _ h' tk keep => q h' tk fun c o hc e => ?_
        simp only [List.mem_cons, List.not_mem_nil, or_false, not_or] at hc
        exact keep c o hc.1 hc.2.2.1 hc.2.2.2 e }
theorem zip_arg (calm : A.handled = none) (S : ZipSep2 z TI TO i1 i2 fp1 fp2) (D1 : ∀ A : Around, A.handled = none → Draws P w A i1 fp1 n1 P1 St1) (D2 : ∀ A : Around, A.handled = none → Draws P w A i2 fp2 n2 P2 St2) (t1 : ∀ h, St1 0 h → ∀ b ∈ fp1, ∃ o, h.get? b = some o) (t2 : ∀ h, St2 0 h → ∀ b ∈ fp2, ∃ o, h.get? b = some o) :
    PairArg P w "zip" z (z :: TI :: TO :: (fp1 ++ fp2)) [z, TO, i1, i2] (min n1 n2) (fun i k v => P1 i k ∧ P2 i v) fun h => IsZip h z TI TO .none ∧ IsTupOf2 h TI (.ref i1) (.ref i2) ∧ (∃ a b, IsTupOf2 h TO a b) ∧ St1 0 h ∧ St2 0 h where
  type := fun s ok => ⟨_, ok.1, rfl⟩
  notDict := by decide
  keep := fun h h' ok k => by
    obtain ⟨hz, ti, ⟨x, y, to⟩, a, b⟩ := ok
    have dr := D1 A calm
    have dr2 := D2 A calm
    exact ⟨k _ _ hz, k _ _ ti, ⟨x, y, k _ _ to⟩, dr.frame _ _ _ a fun b _ o e => k b o e, dr2.frame _ _ _ b fun b _ o e => k b o e⟩
  there := fun h ok b hb => by
    obtain ⟨hz, ti, ⟨x, y, to⟩, a, b'⟩ := ok
    simp only [List.mem_cons, List.mem_append] at hb
    rcases hb with rfl | rfl | rfl | hb | hb
    · exact ⟨_, hz⟩
    · exact ⟨_, ti⟩
    · exact ⟨_, to⟩
    · exact t1 h a b hb
    · exact t2 h b' b hb
  sub := fun b hb => by
    simp only [List.mem_cons, List.not_mem_nil, or_false, List.mem_append] at hb ⊢
    rcases hb with rfl | rfl | rfl | rfl
    · exact .inl rfl
    · exact .inr (.inr (.inl rfl))
    · exact .inr (.inr (.inr (.inl S.mem1)))
    · exact .inr (.inr (.inr (.inr S.mem2)))
  noKeys := fun A s Q E hh ok q => getAttrOr_miss_zip ok.1 rfl rfl rfl zip_no_keys (by decide +kernel) hh q
  iter := fun A s d Q E hh ok hd off q => by
    obtain ⟨hz, ti, to, a, b⟩ := ok
    exact wpAny_pyIter_zip hz (q z [z, TO, i1, i2] _ s.heap s.toks (zip_src S (D1 A.in1 hh) (D2 A.in1 hh) off) ⟨ti, a, b, .inl ⟨hz, to⟩⟩ (fun _ _ e => e) fun b hb => .inl hb)
end
end RD

/-! dict(zip(a, b)) as a rule. -/
namespace RD
open PySem PySem.Spec PyProof.Rows L2
theorem is_key {K : PySem.W.Frag} {α : List Addr} {F : Hp} {t : T} {k : Key} {v : V} (h : Is K α F t v) (e : keyT t = some k) : v = kV k := by
  cases t <;> simp [keyT] at e
  · subst e; exact h
  · subst e; exact h
theorem keysT_cons {t : T} {ts : List T} {ks : List Key} (h : keysT (t :: ts) = some ks) : ∃ k rs, keyT t = some k ∧ keysT ts = some rs ∧ ks = k :: rs := by
  unfold keysT at h
  split at h
  · rename_i k rs h1 h2
    cases h
    exact ⟨k, rs, h1, h2, rfl⟩
  · cases h
theorem isL_keys {K : PySem.W.Frag} {α : List Addr} {F : Hp} : ∀ {l : List T} {xs : List V} {ks : List Key}, IsL K α F l xs → keysT l = some ks → xs = ks.map kV
  | [], xs, ks, h, e => by cases e; exact h
  | t :: ts, xs, ks, ⟨x, ys, ex, h1, h2⟩, e => by
    obtain ⟨k, rs, e1, e2, rfl⟩ := keysT_cons e
    rw [ex, is_key h1 e1, isL_keys h2 e2]; rfl
theorem DatB.at {h h' : Heap} {k : Bool} {a : Addr} {its : Array Value} (x : DatB h k a its) (hk : ∀ o, h.get? a = some o → h'.get? a = some o) : DatB h' k a its := by
  cases k with
  | true => exact Heap.IsList.at x hk
  | false => exact Heap.IsTuple.at x hk
theorem DatB.obj {h : Heap} {k : Bool} {a : Addr} {its : Array Value} (x : DatB h k a its) : ∃ o, h.get? a = some o := by
  cases k with
  | true => obtain ⟨o, e, _⟩ := x; exact ⟨o, e⟩
  | false => obtain ⟨o, e, _⟩ := x; exact ⟨o, e⟩
/-- keys and values side by side -/
theorem kv_zip : ∀ (ks : List Key) {ys : List V} {us : List Value}, Vals ys us → KV (ks.zip ys) (ks.zip us)
  | [], _, _, _ => .nil
  | _ :: _, _, _, .nil => by simp only [List.zip_nil_right]; exact .nil
  | k :: ks, _, _, .cons r t => .cons ⟨rfl, r⟩ (kv_zip ks t)
theorem is_zip {K : PySem.W.Frag} {α : List Addr} {F : Hp} : ∀ (ks : List Key) {l : List T} {ys : List V}, IsL K α F l ys → IsKV K α F (ks.zip l) (ks.zip ys)
  | [], _, _, _ => rfl
  | _ :: _, [], _, h => by cases h; rfl
  | k :: ks, t :: l, _, ⟨y, ys, e, h1, h2⟩ => by subst e; exact ⟨y, ks.zip ys, rfl, h1, is_zip ks h2⟩
section
variable {X : Cx} {G : Glob} {pins : List (Addr × Obj)} {σ : L2.St} {H : Hp} {s : Shared} {Q : VK}
/-- dict(zip(..)) of two lists or tuples at hand -/
theorem dict_zip {k1 k2 : Bool} {x y : Addr} {ks : List Key} {ys : List V} (calm : X.calm = true) (I : Inv X pins σ H s) (h1 : SqB X.K H k1 x (ks.map kV)) (h2 : SqB X.K H k2 y ys)
    (q : ∀ D, H D = none → Q (.ref D) (upd H D (.dK (mergeK [] (ks.zip ys))))) :
    wpAny (model X.prog X.w) X.A (call (.type "zip") [.ref x, .ref y]) (fun v s1 => wpAny (model X.prog X.w) X.A (call (.type "dict") [v]) (EP X pins σ Q) X.xe s1) X.xe s := by
  obtain ⟨its, r1, at1, lt1⟩ := inv_sqB I h1
  obtain ⟨its2, r2, at2, lt2⟩ := inv_sqB I h2
  have n1 := r1.length
  have n2 := r2.length
  rw [List.length_map] at n1
  have small := sq_size I h1
  rw [List.length_map] at small
  refine zip_begins2 (beginsB k1 x its.toArray) (beginsB k2 y its2.toArray) at1 at2 fun h' hz ti to o1 o2 size up => ?_
  generalize hN : s.heap.objs.size = N at hz ti to o1 o2 size lt1 lt2 ⊢
  have S : ZipSep2 (N + 4) (N + 2) (N + 3) N (N + 1) [N, x] [N + 1, y] := zip_sep2 (N := N) (fp1 := [x]) (fp2 := [y]) (by simpa using lt1) (by simpa using lt2)
  have calmA : X.A.handled = none := I.ok.hd calm
  have arg := zip_arg (P := X.prog) (w := X.w) (z := N + 4) (TI := N + 2) (TO := N + 3) (i1 := N) (i2 := N + 1) calmA S (fun A hh => drawsB hh k1 N x (Nat.ne_of_lt lt1) its.toArray) (fun A hh => drawsB hh k2 (N + 1) y (Nat.ne_of_lt (Nat.lt_succ_of_lt lt2)) its2.toArray)
    (fun h st b hb => by
      simp only [List.mem_cons, List.not_mem_nil, or_false] at hb
      rcases hb with rfl | rfl
      · obtain ⟨o, e, _⟩ := st.1.obj; exact ⟨o, e⟩
      · exact st.2.obj)
    (fun h st b hb => by
      simp only [List.mem_cons, List.not_mem_nil, or_false] at hb
      rcases hb with rfl | rfl
      · obtain ⟨o, e, _⟩ := st.1.obj; exact ⟨o, e⟩
      · exact st.2.obj)
  refine PySem.call_dict_pairs (knd := mixKind X.prog X.w) (kvs := ks.zip its2) arg calmA ⟨hz, ti, ⟨_, _, to⟩, ⟨itB_start o1, at1.at fun o e => up _ o e⟩, itB_start o2, at2.at fun o e => up _ o e⟩ ⟨?_, fun i key v rel => ?_⟩ ?_ fun h'' tk hd keep => ?_
  · simp [n1]
  · obtain ⟨e1, e2⟩ := rel
    have lt : i < ks.length := by
      have := (Array.getElem?_eq_some_iff.mp e1).1
      simp at this; omega
    have e2' : its2[i]? = some v := by simpa using e2
    refine ⟨keyAt ks i, ?_, kV_is (at_key r1 e1)⟩
    rw [List.getElem?_zip_eq_some]
    exact ⟨by simp [keyAt, lt], e2'⟩
  · simp; omega
  · have old : ∀ b o, s.heap.get? b = some o → h''.get? b = some o := fun b o e => keep b o (fun hm => by
      have lt : b < N := hN ▸ Heap.lt_size e
      simp only [List.mem_cons, List.not_mem_nil, or_false] at hm
      have ge : N ≤ b := by
        rcases hm with h | h | h | h <;> rw [h] <;> first | exact Nat.le_add_right _ _ | exact Nat.le_refl _
      exact absurd lt (Nat.not_lt.mpr ge)) (up b o e)
    have le : s.heap.objs.size ≤ h'.objs.size := by omega
    have hm : (h'.objs.size == sysModules) = false := beq_eq_false_iff_ne.mpr (Nat.ne_of_gt (Nat.lt_of_lt_of_le I.big le))
    have rel := kv_zip ks r2
    have len : (mergeK [] (ks.zip ys)).length ≤ sizeLine := by
      refine Nat.le_trans (length_mergeK _ []) ?_
      simp only [List.length_nil, Nat.zero_add, List.length_zip]
      omega
    exact ⟨.ref h'.objs.size, _, I.laid (t' := tk) old le (show ObjOk X.prog X.w _ _ _ (.dK (mergeK [] (ks.zip ys))) from ⟨len, hm, merged [] (ks.zip its2), KV.merge rel .nil, hd⟩), rfl, q _ (I.hok.fresh le)⟩
theorem pe_dzipN (c : CtxOk G X) {a b : Ex} {f g : Expr} {p p2 q pos : Pos} (hd : Gl X "dict") (hz : Gl X "zip") (ha : PE X f (tE X.K G a)) (gf : goodF f = true) (hb : PE X g (tE X.K G b)) (gg : goodF g = true) :
    PE X (.Call (.Name "dict" p) [.Call (.Name "zip" p2) [f, g] [] q] [] pos) (tE X.K G (.ext .dzip (.tup (.cons a (.cons b .nil))))) where
  run := fun pins s σ H Q I h => by
    obtain ⟨α, F, S, ρ, r, S', ok, L, ee, after⟩ := h
    simp only [ev] at ee
    obtain ⟨u, S3, ee, e0⟩ := bnd_inv ee
    obtain ⟨e0, rfl⟩ := look_inv e0
    by_cases strict : strictAll (.cons a (.cons b .nil)) = true
    · rw [if_pos strict] at ee
      obtain ⟨ts, S2, ee, ret⟩ := bnd_inv ee
      obtain ⟨rfl, rfl⟩ := ret_inv ret
      simp only [evs] at ee
      obtain ⟨t1, S1, e1, ee⟩ := bnd_inv ee
      obtain ⟨ts, S3, ee, ret⟩ := bnd_inv ee
      obtain ⟨rfl, rfl⟩ := ret_inv ret
      obtain ⟨t2, S2, e2, ee⟩ := bnd_inv ee
      obtain ⟨ts, S3, ee, ret⟩ := bnd_inv ee
      obtain ⟨rfl, rfl⟩ := ret_inv ret
      obtain ⟨rfl, rfl⟩ := ret_inv ee
      simp only [view, extT, opOk, if_true, xopT] at e0
      cases s1 : seqT t1 with
      | none => rw [s1] at e0; cases e0
      | some l =>
      cases s2 : seqT t2 with
      | none => rw [s1, s2] at e0; cases e0
      | some m =>
      rw [s1, s2] at e0
      cases hk : keysT l with
      | none => simp [hk] at e0
      | some ks =>
      simp only [hk, Option.map_some, Option.some.injEq] at e0
      subst e0
      refine Call_ (ld_blt I hd (c.free _ (by decide +kernel)) PyProof.Rows.boot_dict (callWith_type1 (args_cons (Call_ (ld_blt I hz (c.free _ (by decide +kernel)) PyProof.Rows.boot_zip (callWith_type1 ?_ (star_of gf) (star_any fun f hf => by
        simp only [List.mem_cons, List.not_mem_nil, or_false] at hf
        rw [hf]; exact gg)))) rfl) rfl rfl))
      refine thn ((pa_cons ha (pa_cons hb pa_nil (star_of gg)) (star_of gf)).run q pins s σ H (fun vs H2 => ∃ v w α2 F2, vs = [v, w] ∧ OkS X.K α2 F2 S' H2 ∧ Step α F H α2 F2 H2 ∧ IsP X.K α2 F2 H2 t1 v ∧ IsP X.K α2 F2 H2 t2 w) I
        ⟨α, F, S, ρ, t1, S1, ok, L, e1, fun v H1 α1 F1 ok1 st1 ip1 _ => ⟨α1, F1, S1, ρ, t2, S', ok1, L.step st1, e2, fun w H2 α2 F2 ok2 st2 ip2 _ => ⟨v, w, α2, F2, rfl, ok2, st1.trans st2, ip1.step st2, ip2⟩⟩⟩) ?_
      rintro us s4 ⟨vs, H2, I2, rel, v, w, α2, F2, rfl, ok2, st2, ip1, ip2⟩
      obtain ⟨u1, u2, rfl, ru1, ru2⟩ := vals2 rel
      obtain ⟨k1, x, xs, rfl, h1, g1, _⟩ := ip1.sqB ok2 s1
      obtain ⟨k2, y, ys, rfl, h2, g2, _⟩ := ip2.sqB ok2 s2
      cases ru1
      cases ru2
      obtain rfl := isL_keys g1 hk
      refine wpAny_mono (dict_zip c.calm I2 h1 h2 fun D hD => ?_) (fun v s5 h => args_nil h) fun _ _ h => h
      have aft : After X.K α2 F2 S' H2 (.dct (mergeT [] (ks.zip m))) Q := fun v H' F' ok' st' is' => after v H' α2 F' ok' (st2.trans st') (.inl is') fun _ => is'
      exact aft.new ok2 ⟨_, rfl, mergeT_is (is_zip ks g2) rfl⟩ hD
    · rw [if_neg strict] at ee
      exact (fail_inv ee).elim
end
end RD

/-! sorted(xs, key=lambda x: (len(x), x)) as a rule of the language. -/
namespace RD
open PySem PySem.Spec PyProof.Rows L2 LamX
theorem gl_of {X : Cx} {x : Str} (h : isGl X.env.scope x = true) : Gl X x := by
  unfold isGl at h
  split at h
  · assumption
  · cases h
theorem ext_read {K : PySem.W.Frag} {G : Glob} {x : Xop} {a : Ex} {σ : L2.St} {H : Hp} {Q : VK} (h : tE K G (.ext x a) σ H Q) : tE K G a σ H fun v H1 => ∃ α F S t r, OkS K α F S H1 ∧ IsV K α F H1 t v ∧ opOk G S x = true ∧ xopT x t = some r ∧ After K α F S H1 r Q := by
  obtain ⟨α, F, S, ρ, t, S', ok, L, e, q⟩ := h
  simp only [ev] at e
  obtain ⟨v, S1, e1, e⟩ := bnd_inv e
  obtain ⟨e2, rfl⟩ := look_inv e
  refine ⟨α, F, S, ρ, v, _, ok, L, e1, fun w H1 α1 F1 ok1 st1 ip1 _ => ?_⟩
  split at e2
  · rename_i u eu
    unfold extT at e2
    split at e2
    rotate_left
    · cases e2
    rename_i guard
    exact ⟨α1, F1, _, u, t, ok1, ip1.view ok1 eu, guard, e2, fun v H' F' ok' st' is' => q v H' α1 F' ok' (st1.trans st') (.inl is') fun _ => is'⟩
  · cases e2
theorem IsL.strsL {K : PySem.W.Frag} {α : List Addr} {F : Hp} : ∀ {l : List T} {xs : List V} {ns : List Str}, IsL K α F l xs → strsT l = some ns → xs = ns.map V.str
  | [], _, _, h, e => by cases h; cases e; rfl
  | t :: ts, _, ns, ⟨x, ys, e1, h1, h2⟩, e => by
    subst e1
    cases t with
    | str i =>
      simp only [strsT, Option.map_eq_some_iff] at e
      obtain ⟨ms, e2, rfl⟩ := e
      rw [show x = V.str i from h1, IsL.strsL h2 e2]; rfl
    | _ => simp [strsT] at e
theorem isL_strs {K : PySem.W.Frag} {α : List Addr} {F : Hp} : ∀ ns : List Str, IsL K α F (ns.map T.str) (ns.map V.str)
  | [] => rfl
  | n :: ns => ⟨_, _, rfl, rfl, isL_strs ns⟩
theorem rows_paired {K : PySem.W.Frag} {α : List Addr} {F : Hp} : ∀ {l : List T} {bs : List (List Str)} {xs : List V}, rowsS l = some bs → IsL K α F l xs → Paired (fun y b => ∃ t, y = V.ref t ∧ SqT K F t (b.map V.str)) xs bs
  | [], _, _, e, h => by cases e; cases h; exact .nil
  | t :: l, bs, xs, e, ⟨x, ys, ex, h1, h2⟩ => by
    subst ex
    cases t with
    | tup r =>
      unfold rowsS at e
      split at e
      · rename_i b bs' e1 e2
        cases e
        obtain ⟨a, zs, rfl, g1, g2⟩ := h1
        rw [IsL.strsL g2 e1] at g1
        exact .cons ⟨a, rfl, g1⟩ (rows_paired e2 h2)
      · cases e
    | _ => simp [rowsS] at e
theorem paired_rows {K : PySem.W.Frag} {α : List Addr} {F : Hp} : ∀ {bs : List (List Str)} {ys : List V}, Paired (fun y b => ∃ t, y = V.ref t ∧ SqT K F t (b.map V.str)) ys bs → IsL K α F (bs.map fun b => .tup (b.map .str)) ys
  | _, _, .nil => rfl
  | _, _, .cons ⟨t, e, h⟩ p => by subst e; exact ⟨_, _, rfl, ⟨t, _, rfl, h, isL_strs _⟩, paired_rows p⟩
theorem tabS_of {F H : Hp} {a : Addr} {q : Str} (s : Same F H) (x : TabF F H a q) : TabS H a q := by
  obtain ⟨ps, e, tr, c⟩ := x
  refine ⟨ps, e, tr, fun pos cv z => ?_⟩
  obtain ⟨b, e1, e2⟩ := c pos cv z
  exact ⟨b, e1, s _ _ e2⟩
theorem lam_cell {G : Glob} {S : Store} (h : lamCell G S = true) : ∃ (P n : Nat), G.tab = some P ∧ S[n]? = some (Cell.tbl P (G.me ++ (".<locals>." : Str) ++ ("<lambda>" : Str))) := by
  unfold lamCell at h
  split at h
  · rename_i P e
    rw [List.any_eq_true] at h
    obtain ⟨c, hc, h⟩ := h
    split at h
    · simp only [Bool.and_eq_true, decide_eq_true_eq] at h
      obtain ⟨rfl, rfl⟩ := h
      obtain ⟨n, hn⟩ := List.getElem?_of_mem hc
      exact ⟨_, n, e, hn⟩
    · cases h
  · cases h
section
variable {K : PySem.W.Frag} {α : List Addr} {F H H2 : Hp} {S : Store}
theorem Made.grown {P c' : Addr} {q : Str} {n : Nat} (m : Made P q c' H H2) (ok : OkS K α F S H) (hn : S[n]? = some (Cell.tbl P q)) (tab : TabS H2 P q) : ∃ F2, OkS K α F2 S H2 ∧ Step α F H α F2 H2 := by
  rcases m with rfl | ⟨ps, nC, ne, rfl⟩
  · exact ⟨F, ok, .refl⟩
  · have fc : F c' = none := ok.sub.free nC
    have lt : n < α.length := by rw [ok.len]; exact (List.getElem?_eq_some_iff.mp hn).1
    have at_ : α[n]? = some α[n] := by simp [lt]
    obtain ⟨fP, eP, _⟩ := ok.cell n _ α[n] hn at_
    rw [eP] at fP at_
    have Pα : P ∈ α := List.mem_of_getElem? at_
    have sF : Same F (upd F c' (CodeO c' q)) := fun b o e => by rw [upd_ne (ne_of_none e fc)]; exact e
    have other : ∀ b o, H b = some o → b ≠ P → upd (upd H P (.tbl ps)) c' (CodeO c' q) b = some o := fun b o e h => by rw [upd_ne (ne_of_none e nC), upd_ne h]; exact e
    have off : ∀ b o, F b = some o → b ≠ P := fun b o e z => by rw [z, fP] at e; cases e
    have isCode : ∀ c p, upd (upd H P (.tbl ps)) c' (CodeO c' q) c = some (CodeO c p) → upd F c' (CodeO c' q) c = some (CodeO c p) := fun c p e => by
      by_cases hc : c = c'
      · rw [hc, upd_same] at e ⊢
        rw [← hc] at e ⊢
        exact e
      · rw [upd_ne hc] at e ⊢
        by_cases hp : c = P
        · rw [hp, upd_same] at e
          exact absurd (Option.some.inj e).symm (codeO_ne ps)
        · rw [upd_ne hp] at e
          cases hF : F c with
          | none => exact absurd hF (ok.codes c p e)
          | some o => rw [ok.sub c o hF] at e; rw [← e]
    have cα : c' ∉ α := ok.not_cell nC
    refine ⟨upd F c' (CodeO c' q), ⟨fun b o e => ?_, ok.len, ok.nd, fun m c a h1 h2 => ?_, fun c p e z => (by rw [isCode c p e] at z; cases z)⟩, ⟨⟨[], by simp, by simp⟩, sF, fun a h1 h2 => ?_, fun a o e ha => other a o e fun z => ha (z ▸ Pα), fun a h => ?_⟩⟩
    · by_cases hb : b = c'
      · rw [hb, upd_same] at e ⊢; exact e
      · rw [upd_ne hb] at e
        exact other b o (ok.sub b o e) (off b o e)
    · have ha : a ∈ α := List.mem_of_getElem? h2
      have nc : a ≠ c' := fun z => cα (z ▸ ha)
      obtain ⟨q1, q2⟩ := ok.cell m c a h1 h2
      refine ⟨by rw [upd_ne nc]; exact q1, ?_⟩
      by_cases hP : a = P
      · subst hP
        have same : m = n := by
          obtain ⟨x1, x2⟩ := List.getElem?_eq_some_iff.mp h2
          obtain ⟨y1, y2⟩ := List.getElem?_eq_some_iff.mp at_
          exact (List.getElem_inj ok.nd).mp (x2.trans y2.symm)
        subst same
        rw [hn] at h1
        cases h1
        obtain ⟨ps', w1, w2, w3⟩ := tab
        exact ⟨rfl, ps', w1, w2, fun pos cv z => by obtain ⟨c0, v1, v2⟩ := w3 pos cv z; exact ⟨c0, v1, isCode c0 q v2⟩⟩
      · cases c with
        | lst l => obtain ⟨xs, z, y⟩ := q2; exact ⟨xs, other _ _ z hP, by have := y.mono (β := []) sF; simpa using this⟩
        | dct l => obtain ⟨xs, z, y⟩ := q2; exact ⟨xs, other _ _ z hP, by have := y.mono (β := []) sF; simpa using this⟩
        | ins _ _ => exact q2
        | tbl _ _ => exact ⟨q2.1, q2.2.mono sF fun o z => other _ _ z hP⟩
    · have nc : a ≠ c' := fun z => h2 (by rw [z]; exact nC)
      rw [upd_ne nc]; exact h1
    · by_cases hp : a = P
      · have nc : a ≠ c' := fun z => h (by rw [z]; exact nC)
        rw [upd_ne nc, hp, upd_same]; exact fun z => by cases z
      · cases e : H a with
        | none => exact absurd e h
        | some o => rw [other a o e hp]; exact fun z => by cases z
end
section
variable {X : Cx} {G : Glob}
theorem pe_slenN (c : CtxOk G X) {a : Ex} {g : Expr} {p pos kp pl : Pos} {params : Arguments} {body : Expr} {lsc : Scope} {x : Str} (hg : Gl X "sorted") (ok : lamKeyB params body lsc = some x) (gg : goodF g = true) (ha : PE X g (tE X.K G a)) :
    PE X (.Call (.Name "sorted" p) [g] [⟨some "key", .Lambda params body lsc pl, kp⟩] pos) (tE X.K G (.ext .slen a)) where
  run := fun pins s σ H Q I h => by
    refine wpAny_Call_Name_kw (ld_blt I hg (c.free _ (by decide +kernel)) boot_sorted ?_)
    refine callWith_kw (args_cons (thn (ha.run pins s σ H _ I (ext_read h)) ?_) (star_of gg)) (by rw [star_of gg]; rfl) (by rw [star_of gg]; rfl) rfl rfl
    rintro v s1 ⟨y, H1, I1, r1, α, F, S, t, r, okS, hv, guard, e, after⟩
    refine args_nil ?_
    obtain ⟨P, n, tab, hn⟩ := lam_cell guard
    obtain ⟨qual, cc, code, TB⟩ := c.lam P tab
    have hn' : n < α.length := by rw [okS.len]; exact (List.getElem?_eq_some_iff.mp hn).1
    obtain ⟨_, aP, tf⟩ := okS.cell n _ α[n] hn (by simp [hn'])
    have q2 : X.env.qual ++ ("<lambda>" : Str) = G.me ++ (".<locals>." : Str) ++ ("<lambda>" : Str) := by rw [qual]
    rw [aP, ← q2] at tf
    have tabS := tabS_of okS.sub tf
    simp only [xopT] at e
    split at e
    · rename_i l
      split at e
      · rename_i bs rows
        split at e
        · rename_i small
          cases e
          obtain ⟨l', xs, rfl, hl, il⟩ := hv.lst okS
          cases r1
          have pr := rows_paired rows il
          have line : (100000 : Nat) ≤ sizeLine := by rw [sizeLine_eq]; decide
          have run := slen_at (pl := pl) c.calm c.dp c.un I1 TB code rfl tabS ok (c.free _ (by decide +kernel)) (.of hl) (R := fun y b => ∃ t, y = V.ref t ∧ SqT X.K F t (b.map V.str)) (fun y b ⟨t, e, h⟩ => ⟨t, e, sqt_same okS.sub h⟩) pr (Nat.le_trans small.1 line) (fun b hb => by have := small.2 b hb; omega) (Q := Q) fun H2 c' made T2 D ys hD py => ?_
          · refine wpAny_evalAll_cons (wpAny_bind (wpAny_mono run (fun f s2 hf => wpAny_bind (wpAny_standAt (wpAny_pure (wpAny_evalAll_nil hf)))) fun _ _ h => h))
          · rw [← q2] at hn
            obtain ⟨F2, ok2, st2⟩ := made.grown okS hn T2
            have aft : After X.K α F2 S H2 (.lst ((bs.mergeSort (PySem.W.dataLe false keyLL)).map fun b => .tup (b.map .str))) Q := fun v H' F' ok' st' is' => after v H' F' ok' (st2.trans st') is'
            exact aft.new ok2 ⟨ys, rfl, paired_rows (paired_mono (fun y b ⟨t, e, h⟩ => ⟨t, e, sqt_same st2.ff h⟩) py)⟩ hD
        · cases e
      · cases e
    · cases e
end
end RD

/-! Sets of ints and texts as tracked things: set.add, len, set(..), {.. for ..}. (Takes the place of RDt.) -/
namespace RD
open PySem PySem.Spec PyProof.Rows L2
section
variable {P : Program} {w : World} {A : Around} {E : Value → Shared → Prop} {s : Shared} {a : Addr} {ks : List Key}
theorem add_call {k : Key} {u : Value} {Q : Value → Shared → Prop} (ru : RelV (kV k) u) (S : KeySet P w s.heap a ks) (room : ks.length + 1 < scanBound)
    (q : ∀ h', Heap.SameBut a s.heap h' → KeySet P w h' a (meet1 ks k) → Q .none { s with heap := h', toks := s.toks + 1 }) : wpAny (model P w) A (call (.builtin "set.add") [.ref a, u]) Q E s := by
  have is : s.TypeIs (.ref a) "set" := by obtain ⟨o, _, _, _, ho, x, _⟩ := S; exact ⟨o, ho, x.1⟩
  refine wpAny_call_entry F.slot_set_add is F.entry_set_add ?_ (F.args_set_add_2 _ _)
  unfold Builtin.«set.add»
  refine wpAny_bind (m := Builtin.Frozenset.oneOther _ _) (wpAny_pure ?_)
  exact wpAny_bind (m := setAdd a u) (add_one ru S room fun h' sb S' b => wpAny_pure ⟨_, rfl, q h' sb S'⟩)
end
section
variable {X : Cx} {pins : List (Addr × Obj)} {σ : L2.St} {H : Hp} {s : Shared} {D : Addr} {ks : List Key}
theorem add_kset {E : Value → Shared → Prop} {k : Key} {u : Value} {Q : Value → Shared → Prop} (I : Inv X pins σ H s) (ru : RelV (kV k) u) (hD : H D = some (KSet X D ks)) (room : ks.length + 1 < scanBound)
    (q : ∀ s', Inv X pins σ (upd H D (KSet X D (meet1 ks k))) s' → Q .none s') : wpAny (model X.prog X.w) X.A (call (.builtin "set.add") [.ref D, u]) Q E s := by
  refine add_call ru (I.hok D _ hD).1 room fun h' sb S => q _ ?_
  have there : ∃ o, h'.get? D = some o := by obtain ⟨o, _, _, _, ho, _⟩ := S; exact ⟨o, ho⟩
  exact I.write (t' := s.toks + 1) (by rw [hD]; trivial) (.inl rfl) (fun b o hb e => (sb.2 b hb).trans e) there (KSet.ok S)
theorem len_kset {Q : VK} (I : Inv X pins σ H s) (hD : H D = some (KSet X D ks)) (few : ks.length ≤ 1000) (q : Q (.int ks.length) H) : wpAny (model X.prog X.w) X.A (call (.builtin "len") [.ref D]) (EP X pins σ Q) X.xe s := by
  obtain ⟨o, es, ep, t, ho, ex, hd, e⟩ := (I.hok D _ hD).1
  have n := e.size
  exact call_len_set ho ex hd e.fits (by omega) ⟨.int ks.length, H, I.tok _, ⟨_, by rw [n]⟩, q⟩
end
section
variable {X : Cx}
/-- len of a tracked set -/
def tLenG (X : Cx) (ta : TE) : TE := fun σ H Q => ta σ H fun x H1 => ∃ D ks, x = .ref D ∧ H1 D = some (KSet X D ks) ∧ ks.length ≤ 1000 ∧ Q (.int ks.length) H1
theorem pe_lenG {a : Expr} {ta : TE} {p pos : Pos} (hg : Gl X "len") (hm : X.mg "len" = none) (ha : PE X a ta)
    (na : starEach [a] X.env = (false, eval a X.env) :: starEach [] X.env) : PE X (.Call (.Name "len" p) [a] [] pos) (tLenG X ta) :=
  ⟨fun pins s σ H Q I h => Call_ (ld_blt I hg hm boot_len (callWith_builtin1 (args_cons (thn (ha.run pins s σ H _ I h) fun v s1 ⟨x, H1, I1, r1, D, ks, ex, hD, few, q⟩ => args_nil (by
    subst ex
    cases r1
    exact len_kset I1 hD few q)) na) na rfl))⟩
/-- set(xs), xs a list or a tuple of ints and texts -/
def tSetG (X : Cx) (ta : TE) : TE := fun σ H Q => ta σ H fun x H1 => ∃ (l : Addr) (ks : List Key), x = .ref l ∧ (SqL X.K H1 l (ks.map kV) ∨ SqT X.K H1 l (ks.map kV)) ∧ ks.length ≤ 1000 ∧ ∀ D, H1 D = none → Q (.ref D) (upd H1 D (KSet X D (dedup ks)))
theorem pe_setG {a : Expr} {ta : TE} {p2 q : Pos} (hc : X.calm = true) (hg2 : Gl X "set") (hm2 : X.mg "set" = none) (ha : PE X a ta)
    (na : starEach [a] X.env = (false, eval a X.env) :: starEach [] X.env) : PE X (.Call (.Name "set" p2) [a] [] q) (tSetG X ta) :=
  ⟨fun pins s σ H Q I h => Call_ (ld_blt I hg2 hm2 boot_set (callWith_type1 (args_cons (thn (ha.run pins s σ H _ I h) fun v s1 ⟨x, H1, I1, r1, l, ks, ex, hq, few, q⟩ => args_nil (by
    subst ex
    cases r1
    have free : H1 s1.heap.objs.size = none := I1.hok.fresh (Nat.le_refl _)
    refine set_new hc I1 hq few fun s' J S => ⟨.ref _, _, J, rfl, q _ free⟩)) na) na rfl))⟩
end
/-! ### the comprehension -/
section
variable {Y : Cx} {σ0 : L2.St} {fp : List Addr} {tn : Nat → Heap → Prop} {tg : Expr} {ifs : List Expr} {J : It} {g : TG} {tt : TT} {vs : List Nat}
/-- the iterator's own records, seen from a block that holds them -/
theorem held {σ : L2.St} {H : Hp} {s : Shared} (ex : Y.ex = fp) (pn : Y.pn = []) (I : Inv Y [] σ H s) (off : ∀ b ∈ fp, H b = none) : ∀ b ∈ fp, FpOk Y [] H b := by
  subst ex
  intro b hb
  refine ⟨off b hb, (I.ok.exf b hb).1, I.ok.exfs b hb, .inl hb, (I.ok.exf b hb).2, fun p hp => ?_⟩
  rw [pn] at hp
  simp at hp
/-- one item is taken, bound and tested: what holds behind, and that the block stands as it stood ahead of the turn -/
theorem one_item {it : Addr} (T : Turn Y.prog Y.w Y.K tg J fp it tn) (calm : Y.calm = true) (ex : Y.ex = fp) (pn : Y.pn = []) (pg : PG Y tg g) (pt : PTs Y ifs tt) (xe : Y.xe = fun _ _ => False) {i : Nat} {s : Shared} {H : Hp} (I : Inv Y [] σ0 H s) (off : ∀ b ∈ fp, H b = none) (st : tn i s.heap) (go : J.go i H)
    {R : Bool → L2.St → Hp → Prop} {Z : Bool → Shared → Prop} {End : Shared → Prop} {E1 E2 E3 E4 : Value → Shared → Prop} (does : ∀ x H', J.yld i H x H' → g x σ0 H' fun σ2 H2 => wipe σ2 vs = σ0 ∧ tt σ2 H2 fun b H3 => R b σ2 H3)
    (z : ∀ (b : Bool) (s3 : Shared) (σ2 : L2.St) (H3 : Hp) (pl : List (Addr × Obj)), Inv Y ([] ++ pl) σ2 H3 s3 → R b σ2 H3 → (∀ s4 H4, Inv Y ([] ++ pl) σ2 H4 s4 → Inv Y [] σ0 H4 s4 ∧ tn (i + 1) s4.heap ∧ ∀ b ∈ fp, H4 b = none) → Z b s3) :
    wpAny (model Y.prog Y.w) Y.A (pyNext (.ref it)) (fun r s1 => match r with
      | none => End s1
      | some v => wpAny (model Y.prog Y.w) Y.A (letOwnedTupleGo tg (.ref it) v) (fun _ s2 => wpAny (model Y.prog Y.w) Y.A (assign tg Y.env v) (fun _ s2 =>
          wpAny (model Y.prog Y.w) Y.A (forIn ifs true fun c r => if r = true then do let ok ← isTrue c Y.env (eval c Y.env); pure (ForInStep.yield ok) else pure (ForInStep.yield r)) (fun ok s3 => Z ok s3) E4 s2) E3 s2) E2 s1) E1 s := by
  refine thnF (T.item Y rfl rfl rfl calm i [] s _ H (fun _ _ => False) I (held ex pn I off) st go) ?_
  rintro _ s1 ⟨u, rfl, h1⟩
  refine thnF h1 fun _ s2 ⟨x, H2, I2, r2, y2, st2, off2⟩ => ?_
  have J2 := I2.pinned (held ex pn I2 off2) (T.obj _ _ st2)
  have bound := pg.run _ s2 _ H2 x u _ J2 r2 (does x H2 y2)
  rw [xe] at bound
  refine thnF bound fun _ s3 ⟨σ2, H3, I3, w3, q3⟩ => ?_
  have tested := pt.run _ s3 σ2 H3 _ I3 q3
  rw [xe] at tested
  refine thnF tested fun b s4 ⟨H4, I4, q4⟩ => z b s4 σ2 H4 _ I4 q4 fun s5 H5 I5 => ?_
  have pin : ∀ b ∈ fp, ∀ o, s2.heap.get? b = some o → s5.heap.get? b = some o ∧ H5 b = none := fun b hb o e => by
    obtain ⟨e1, e2, _⟩ := I5.pin (b, o) (by simp [mem_pinsAt hb e])
    exact ⟨e1, e2⟩
  refine ⟨I5.unpinned.weak ?_ fun j v e => ?_, T.keep _ _ _ st2 fun b hb o e => (pin b hb o e).1, fun b hb => ?_⟩
  · rw [← w3, wipe_length]
  · rw [← w3] at e; exact (wipe_some e).1
  · obtain ⟨o, e, _⟩ := T.obj _ _ st2 b hb
    exact (pin b hb o e).2
end
section
variable {X : Cx}
/-- {elt for target in iter if ..}, elt an int or a text: D the new set -/
def tSg (X : Cx) (wi : TI) (g : TG) (tt : TT) (te : TE) (vs : List Nat) : TE := fun σ H Q => wi σ H fun J H1 => ∀ D, H1 D = none → ∃ W : Nat → Nat → Hp → Prop, (∃ m, W 0 m (upd H1 D (KSet X D []))) ∧ ∀ i m H, W i m H →
  (J.stop i H ∧ Q (.ref D) H) ∨ (J.go i H ∧ ∃ Nx : Hp → Prop, (∀ H', Nx H' → ∃ m', m' < m ∧ W (i + 1) m' H') ∧ ∀ x H', J.yld i H x H' → g x (wipe σ vs) H' fun σ2 H2 => wipe σ2 vs = wipe σ vs ∧ tt σ2 H2 fun b H3 =>
    if b = true then te σ2 H3 fun y H4 => ∃ (k : Key) (ks : List Key), y = kV k ∧ H4 D = some (KSet X D ks) ∧ ks.length + 1 < scanBound ∧ Nx (upd H4 D (KSet X D (meet1 ks k))) else Nx H3)
/-- a set as it is laid -/
abbrev bareSet (w : World) : Obj := { cls := .type "set", dict := none, data := .set #[] 0 (.fresh 0 0 (!w.params.followText "set-order")) }
/-- the whole loop of the block, at a set already laid -/
theorem set_loop {Y : Cx} {elt tg iter : Expr} {ifs : List Expr} {scope : Scope} {pos : Pos} {it D : Addr} {fp : List Addr} {tn : Nat → Heap → Prop} {J : It} {g : TG} {tt : TT} {te : TE} {vs : List Nat} {σ0 : L2.St} {W : Nat → Nat → Hp → Prop} {Out : Hp → Prop} {R : Result → Shared → Prop}
    (T : Turn Y.prog Y.w Y.K tg J fp it tn) (calm : Y.calm = true) (ex : Y.ex = fp) (pn : Y.pn = []) (pg : PG Y tg g) (pt : PTs Y ifs tt) (pe : PE Y elt te) (xe : Y.xe = fun _ _ => False)
    (turn : ∀ i m H, W i m H → (J.stop i H ∧ Out H) ∨ (J.go i H ∧ ∃ Nx : Hp → Prop, (∀ H', Nx H' → ∃ m', m' < m ∧ W (i + 1) m' H') ∧ ∀ x H', J.yld i H x H' → g x σ0 H' fun σ2 H2 => wipe σ2 vs = σ0 ∧ tt σ2 H2 fun b H3 =>
      if b = true then te σ2 H3 fun y H4 => ∃ (k : Key) (ks : List Key), y = kV k ∧ H4 D = some (KSet Y D ks) ∧ ks.length + 1 < scanBound ∧ Nx (upd H4 D (KSet Y D (meet1 ks k))) else Nx H3))
    {m : Nat} {s : Shared} {H : Hp} (I : Inv Y [] σ0 H s) (off : ∀ b ∈ fp, H b = none) (st : tn 0 s.heap) (w : W 0 m H) (out : ∀ s' H', Inv Y [] σ0 H' s' → Out H' → R (.ok .next) s') :
    codeAny (model Y.prog Y.w) Y.A (.compLoop (.SetComp elt [⟨tg, iter, ifs, 0⟩] scope pos) 0 (.ref it) (.ref D) Y.env) R s := by
  refine PpSet.compLoopS_any (fun m s => ∃ i H, Inv Y [] σ0 H s ∧ (∀ b ∈ fp, H b = none) ∧ tn i s.heap ∧ W i m H) ?_ m ⟨0, H, I, off, st, w⟩
  rintro m s ⟨i, H, I, off, st, w⟩
  rcases turn i m H w with ⟨stop, o⟩ | ⟨go, Nx, less, does⟩
  · refine thnF (T.done Y rfl rfl rfl calm i [] s _ H (fun _ _ => False) I (held ex pn I off) st stop) ?_
    rintro _ s' ⟨rfl, I'⟩
    exact out s' H I' o
  · refine one_item T calm ex pn pg pt xe I off st go does fun b s3 σ2 H3 pl I3 q3 back => ?_
    have again : ∀ s4 H4, Inv Y ([] ++ pl) σ2 H4 s4 → Nx H4 → ∃ m', m' < m ∧ ∃ i H, Inv Y [] σ0 H s4 ∧ (∀ b ∈ fp, H b = none) ∧ tn i s4.heap ∧ W i m' H := fun s4 H4 I4 nx => by
      obtain ⟨m', lt, w'⟩ := less H4 nx
      obtain ⟨I5, t5, off5⟩ := back s4 H4 I4
      exact ⟨m', lt, i + 1, H4, I5, off5, t5, w'⟩
    by_cases hb : b = true
    · rw [if_pos hb] at q3 ⊢
      have run := pe.run _ s3 σ2 H3 _ I3 q3
      rw [xe] at run
      refine thnF run ?_
      rintro u s4 ⟨_, H4, I4, r4, k, ks, rfl, hD, room, nx⟩
      exact add_kset I4 r4 hD room fun s5 I5 => again s5 _ I5 nx
    · rw [if_neg hb] at q3 ⊢
      exact again s3 H3 I3 q3
theorem pe_sg {elt tg iter : Expr} {ifs : List Expr} {scope : Scope} {own : List (PySem.Str × Nat)} {pos : Pos} {wi : TI} {g : TG} {tt : TT} {te : TE} (hc : X.calm = true) (hN : X.N.Nodup) (hi : PI X tg iter wi) (ok : BlkOk X.N X.env.scope scope own)
    (hg : ∀ (s : Shared) (H : Hp) (C : Addr) (cl : List (PySem.Str × Addr)) (fp : List Addr), PG (X.blk s H scope (compEnvC scope cl C X.env) fp) tg g) (ht : ∀ (s : Shared) (H : Hp) (C : Addr) (cl : List (PySem.Str × Addr)) (fp : List Addr), PTs (X.blk s H scope (compEnvC scope cl C X.env) fp) ifs tt)
    (he : ∀ (s : Shared) (H : Hp) (C : Addr) (cl : List (PySem.Str × Addr)) (fp : List Addr), PE (X.blk s H scope (compEnvC scope cl C X.env) fp) elt te) (hs : ∀ x, foldedSetIterable iter X.env x = pure x) :
    PE X (.SetComp elt [⟨tg, iter, ifs, 0⟩] scope pos) (tSg X wi g tt te (own.map (·.2))) where
  run := fun pins s σ H Q I h => by
    rw [PpSet.eval_SetComp]
    have closed := closure_ok (scope := scope) (env := X.env) fun y hy e => I.ok.has _ (ok.free y hy e)
    refine wpAny_comprehension_free rfl hs closed ok.kind (fun y hy e => (ok.uniq y hy).trans (congrArg some e)) (thn (hi.run pins s σ H _ I h) fun _ _ got => thn got ?_)
    rintro _ s ⟨it, fp, tn, J, H, rfl, I, T, st, own_fp, q⟩
    obtain ⟨W, ⟨m, w⟩, turn⟩ := q s.heap.objs.size (I.hok.fresh (Nat.le_refl _))
    refine PpSet.newSet_ok (newEnv_comp ?_)
    -- the set is laid
    have led : X.w.params.followText "set-order" = true ∨ (!X.w.params.followText "set-order") = true := by cases X.w.params.followText "set-order" <;> simp
    have up : ∀ b o, s.heap.get? b = some o → (s.heap.push (bareSet X.w)).get? b = some o := fun b o e => Heap.get?_push_of_some _ e
    have I1 : Inv X pins σ (upd H s.heap.objs.size (KSet X s.heap.objs.size [])) { s with heap := s.heap.push (bareSet X.w) } :=
      I.laid up (Nat.le_refl _) (KSet.ok (fresh_set led (Heap.get?_push_size _ rfl)))
    have fp1 : ∀ b ∈ fp, FpOk X pins (upd H s.heap.objs.size (KSet X s.heap.objs.size [])) b ∧ b < (s.heap.push (bareSet X.w)).objs.size := fun b hb => by
      obtain ⟨o, e, _⟩ := T.obj _ _ st b hb
      have lt := Heap.lt_size e
      exact ⟨⟨by rw [upd_ne (Nat.ne_of_lt lt)]; exact (own_fp b hb).1, (own_fp b hb).2⟩, Heap.lt_size (up b o e)⟩
    have st1 := T.keep _ _ _ st fun b _ o e => up b o e
    -- the block is entered
    have I2 := block_start I1 ok hN fp1
    have st2 := T.keep 0 _ (pushCells ((s.heap.push (bareSet X.w)).push { cls := .type "dict", data := .dict #[] }) scope.names) st1 fun b _ o e => pushCells_keeps _ _ b o (Heap.get?_push_of_some { cls := .type "dict", data := .dict #[] } e)
    have entered := fun (R : Result → Shared → Prop) => set_loop (elt := elt) (iter := iter) (scope := scope) (pos := pos) (R := R) (Y := X.blk { s with heap := s.heap.push (bareSet X.w) } (upd H s.heap.objs.size (KSet X s.heap.objs.size [])) scope
      (compEnvC scope (cellsFrom ((s.heap.push (bareSet X.w)).objs.size + 1) scope.names (cloFrom X.env.cells scope.names [])) (s.heap.push (bareSet X.w)).objs.size X.env) fp) T hc rfl rfl (hg _ _ _ _ _) (ht _ _ _ _ _) (he _ _ _ _ _) rfl turn I2 (fun b hb => (fp1 b hb).1.1) st2 w
    have loop := entered (compPost (model X.prog X.w) X.A X.xe none (EP X pins σ Q) (.ref s.heap.objs.size) (s.heap.push (bareSet X.w)).objs.size) fun s' H' J' o => ?_
    · exact PpSet.codeAny_compStart_set loop (T.self X.A 0 _ _ _ st2 loop)
    · have I3 : Inv X pins σ H' s' := I1.call' (ch := fp) J'.os J'.base J'.hok J'.bare fun b hb => by
        obtain ⟨_, f1, _, f3, f4, f5⟩ := (fp1 b hb).1
        exact ⟨f3, f1, f4, f5⟩
      obtain ⟨m', hn, _⟩ := J'.loc
      refine ⟨m', hn, fun h'' sb => ⟨.ref s.heap.objs.size, H', ?_, rfl, o⟩⟩
      obtain ⟨f0, f1, _, f3, f4, f5⟩ := I1.fpOk (Nat.le_refl _) J'.free
      exact I3.turned (fun b ob hb e => (sb.2 b hb).trans e) f0 f1 f3 f4 f5
end
end RD

/-! t[::-1], t a list or a tuple. (Takes the place of RDu.) -/
namespace RD
open PySem PySem.Spec PyProof.Rows L2
section
variable {prog : Program} {w : World} {A : Around} {E : Value → Shared → Prop} {s : Shared} {t sl : Addr} {vl vu vs : Value} {lo hi : Option Int} {st : Int}
/-- what a slice with a step asks of something n long -/
theorem slice_asked {n : Int} {Q : Int × Int × Nat → Shared → Prop} (hs : s.heap.IsSliceOf sl vl vu vs) (pl : IsPart vl lo) (pu : IsPart vu hi) (ps : IsPart vs (some st)) (h0 : st ≠ 0)
    (q : ∀ a b, Builtin.Slice.sliceAdjust lo hi st n = (a, b) → Q (a, st, Builtin.Slice.slicePlaces a b st) s) : wpAny (model prog w) A (Builtin.Slice.sliceApplied (.ref sl) (pure n)) Q E s := by
  obtain ⟨o, ho, _, hd⟩ := hs
  have parts : ∀ (R : Value × Value × Value → Shared → Prop), R (vl, vu, vs) s → wpAny (model prog w) A (Builtin.Slice.sliceFields (.ref sl)) R E s := fun R r =>
    wpAny_bind (wpAny_field ho hd (x := vl) rfl (wpAny_bind (wpAny_field ho hd (x := vu) rfl (wpAny_bind (wpAny_field ho hd (x := vs) rfl (wpAny_pure r))))))
  refine wpAny_bind (parts _ (wpAny_bind (HT.slicePart_ ps ?_)))
  rw [Option.getD_some, if_neg (by simpa using h0)]
  refine wpAny_bind (HT.slicePart_ pl (wpAny_bind (HT.slicePart_ pu (wpAny_bind (wpAny_pure ?_)))))
  exact wpAny_pure (q _ _ rfl)
/-- what lies at the places asked for -/
def placed (xs : Array Value) (a st : Int) (n : Nat) : List Value := (List.range n).filterMap fun (k : Nat) => xs[(a + (k : Int) * st).toNat]?
theorem tuple_stepped {items : Array Value} {Q : Value → Shared → Prop} (ht : IsTup s.heap t items) (hs : s.heap.IsSliceOf sl vl vu vs) (pl : IsPart vl lo) (pu : IsPart vu hi) (ps : IsPart vs (some st)) (h0 : st ≠ 0) (h1 : st ≠ 1)
    (q : ∀ a b, Builtin.Slice.sliceAdjust lo hi st items.size = (a, b) → (placed items a st (Builtin.Slice.slicePlaces a b st)).length ≤ sizeLine ∧
      Q (.ref s.heap.objs.size) { s with heap := s.heap.push { cls := .type "tuple", data := .seq (placed items a st (Builtin.Slice.slicePlaces a b st)).toArray } }) :
    wpAny (model prog w) A (getItem (.ref t) (.ref sl)) Q E s := by
  have is : s.TypeIs (.ref sl) "slice" := by obtain ⟨o, ho, hc, _⟩ := hs; exact ⟨o, ho, hc⟩
  have body : wpAny (model prog w) A.in1 (Builtin.«tuple.__getitem__» ⟨[.ref t, .ref sl], []⟩) (fun f s' => ∃ v, f = .done (.ret v) ∧ Q v s') E s := by
    refine wpAny_bind (m := slotArgs _ _ _) (wpAny_pure (wpAny_bind (m := Builtin.Tuple.tupleItemsOf _) (tupleItemsOf_ ht (wpAny_bind (wpAny_typeOf is ?_)))))
    rw [if_pos (show (Value.type "slice" == Value.type "slice") = true by decide)]
    refine wpAny_bind (slice_asked hs pl pu ps h0 fun a b e => ?_)
    obtain ⟨len, q⟩ := q a b e
    dsimp only
    rw [if_neg (by simp [h1])]
    refine wpAny_bind (m := Builtin.Tuple.tupleExact _) (wpAny_newObj_type (wpAny_pure ⟨_, rfl, q⟩) ?_)
    simpa [sizeOk, placed] using len
  unfold getItem
  refine wpAny_holding (wpAny_bind (wpAny_sequenceKey ht.typeIs (by decide) (wpAny_bind (wpAny_callSpecial?_slot (name := "__getitem__") ht.typeIs PyProof.Rows.slot_tuple_getitem
    (wpAny_call_entry PyProof.Rows.slot_tuple_getitem ht.typeIs entry_tuple_getitem ?_ (args_tuple_getitem _ _))))))
  exact wpAny_mono body (fun f s' h => by obtain ⟨v, e, r⟩ := h; exact ⟨v, e, wpAny_pure r⟩) fun _ _ h => h
/-- back to front: every item, from the last -/
theorem places_back (n : Nat) : Builtin.Slice.slicePlaces ((n : Int) - 1) (-1) (-1) = n := by
  unfold Builtin.Slice.slicePlaces
  rw [if_neg (by decide)]
  by_cases h : n = 0
  · subst h; rfl
  · rw [if_pos (by omega), Int.neg_neg, Int.ediv_one]
    omega
theorem same_picks {α β : Type} {f g : α → Option β} : ∀ {l : List α}, (∀ x ∈ l, f x = g x) → l.filterMap f = l.filterMap g
  | [], _ => rfl
  | x :: l, h => by
    rw [List.filterMap_cons, List.filterMap_cons, h x (by simp), same_picks fun y hy => h y (by simp [hy])]
theorem placed_back (xs : Array Value) : placed xs ((xs.size : Int) - 1) (-1) xs.size = xs.toList.reverse := by
  unfold placed
  have at_ : ∀ k ∈ List.range xs.size, xs[((xs.size : Int) - 1 + (k : Int) * -1).toNat]? = xs.toList.reverse[k]? := fun k hk => by
    have lt : k < xs.size := List.mem_range.mp hk
    rw [show ((xs.size : Int) - 1 + (k : Int) * -1).toNat = xs.size - 1 - k by omega, List.getElem?_reverse (by simpa using lt), ← Array.getElem?_toList, Array.length_toList]
  rw [same_picks at_]
  have gen : ∀ (ys : List Value), ((List.range ys.length).filterMap fun k => ys[k]?) = ys := by
    intro ys
    induction ys with
    | nil => rfl
    | cons y ys ih =>
      rw [List.length_cons, List.range_succ_eq_map, List.filterMap_cons, List.filterMap_map]
      show y :: ((List.range ys.length).filterMap fun k => ys[k]?) = y :: ys
      rw [ih]
  have := gen xs.toList.reverse
  rwa [List.length_reverse, Array.length_toList] at this
theorem adjust_back (n : Nat) : Builtin.Slice.sliceAdjust none none (-1) n = ((n : Int) - 1, -1) := by rfl
theorem tuple_back {items : Array Value} {Q : Value → Shared → Prop} (ht : IsTup s.heap t items) (hs : s.heap.IsSliceOf sl vl vu vs) (pl : IsPart vl none) (pu : IsPart vu none) (ps : IsPart vs (some (-1))) (hz : items.size ≤ sizeLine)
    (q : Q (.ref s.heap.objs.size) { s with heap := s.heap.push { cls := .type "tuple", data := .seq items.toList.reverse.toArray } }) : wpAny (model prog w) A (getItem (.ref t) (.ref sl)) Q E s := by
  refine tuple_stepped ht hs pl pu ps (by decide) (by decide) fun a b e => ?_
  rw [adjust_back] at e
  cases e
  rw [places_back, placed_back]
  exact ⟨by simpa using hz, q⟩
end
section
variable {X : Cx}
def tRevS (K : PySem.W.Frag) (te : TE) : TE := fun σ H Q => te σ H fun x H1 => ∃ a xs, x = .ref a ∧ ((SqL K H1 a xs ∧ ∀ p, H1 p = none → Q (.ref p) (upd H1 p (.lst xs.reverse))) ∨ (SqT K H1 a xs ∧ ∀ p, H1 p = none → Q (.ref p) (upd H1 p (.tup xs.reverse))))
theorem pe_revS {e : Expr} {te : TE} {k : Nat} {p1 p2 p3 pos : Pos} (he : PE X e te) : PE X (.Subscript e (.Slice none none (some (.UnaryOp .USub (.Constant (.int 1) k p1) p2)) p3) pos) (tRevS X.K te) where
  run := fun pins s σ H Q I h => by
    refine Subscript_ (thn (he.run pins s σ H _ I h) ?_)
    rintro v s ⟨_, H, I, is, a, xs, rfl, q⟩
    cases is
    have minus : PO X (some (.UnaryOp .USub (.Constant (.int 1) k p1) p2)) (tPart (tUn (rU fun i => .int (-i)) (tC (.int 1)))) := po_some (pe_un un_neg pe_int)
    -- the three parts
    refine wpAny_Slice (thn (po_none.run pins s σ H (fun o H' => o = none ∧ H' = H) I ⟨rfl, rfl⟩) ?_)
    rintro vl s1 ⟨_, H1, I1, pl, rfl, e1⟩
    refine thn (po_none.run pins s1 σ H1 (fun o H' => o = none ∧ H' = H1) I1 ⟨rfl, rfl⟩) ?_
    rintro vu s2 ⟨_, H2, I2, pu, rfl, e2⟩
    refine thn (minus.run pins s2 σ H2 (fun o H' => o = some (-1) ∧ H' = H2) I2 ⟨1, rfl, -1, rfl, rfl, rfl⟩) ?_
    rintro vs s3 ⟨_, H3, I3, ps, rfl, e3⟩
    subst e1 e2 e3
    clear I I1 I2
    -- the slice is laid, and asked
    have I := I3.kept (t' := s3.toks) (h' := s3.heap.push { cls := .type "slice", data := .fields #[vl, vu, vs] }) fun b ob e => Heap.get?_push_of_some _ e
    have made := Heap.IsSliceOf.new s3.heap vl vu vs
    rcases q with ⟨hx, q⟩ | ⟨hx, q⟩
    · obtain ⟨its, r, on, hz⟩ := I.list hx
      have n := r.length
      refine tail_any (ops := [.ref a, .ref s3.heap.objs.size]) on.isList.typeIs PySem.slot_list_getitem.lookup ?_ (by with_unfolding_all rfl)
      refine wpAny_getItem_list_slice on.isList made pl pu ps (by decide) ?_ (by rw [List.size_toArray]; omega)
      rw [PySem.W.krv_pick]
      exact ⟨.ref _, _, I.laid (o := .lst xs.reverse) (fun b ob e => Heap.get?_push_of_some _ e) (Nat.le_refl _) ⟨by rw [List.length_reverse]; exact hz, _, 0, r.reverse, Heap.get?_push_size _ rfl⟩, rfl, q _ (I.hok.fresh (Nat.le_refl _))⟩
    · obtain ⟨its, r, on, hz⟩ := I.tuple hx
      have n := r.length
      refine tail_any (ops := [.ref a, .ref s3.heap.objs.size]) on.typeIs PyProof.Rows.slot_tuple_getitem.lookup ?_ (by with_unfolding_all rfl)
      refine tuple_back on made pl pu ps (by rw [List.size_toArray]; omega) ?_
      exact ⟨.ref _, _, I.laid (o := .tup xs.reverse) (fun b ob e => Heap.get?_push_of_some _ e) (Nat.le_refl _) ⟨by rw [List.length_reverse]; exact hz, _, r.reverse, IsTup.new _ _⟩, rfl, q _ (I.hok.fresh (Nat.le_refl _))⟩
end
end RD

namespace RD
open PySem PySem.Spec PyProof.Rows L2

/-! ### isinstance -/
def tyN : T → Option String
  | .non => some "NoneType" | .bl _ => some "bool" | .int _ => some "int" | .str _ => some "str" | .tup _ => some "tuple" | .lst _ => some "list"
  | _ => none
theorem isa_kit {t : T} {y : Ty} {b : Bool} (h : isaT t y = some b) : ∃ n, tyN t = some n ∧ kitB n y.nm = some b := by
  cases t <;> cases y <;> simp only [isaT, Option.some.injEq, reduceCtorEq] at h <;> subst h <;> exact ⟨_, rfl, by decide +kernel⟩
theorem any_kit {K : PySem.W.Frag} {t : T} {n : String} (hn : tyN t = some n) : ∀ {ts : List Ty} {b : Bool}, anyTy t ts = some b → PySem.W.kitAny K (.type n) (ts.map fun y => Value.type y.nm) = some b
  | [], b, h => by cases h; exact kitAny_nil
  | y :: ys, b, h => by
    unfold anyTy at h
    split at h
    · rename_i a c ha hc
      cases h
      obtain ⟨m, hm, hk⟩ := isa_kit ha
      rw [hn] at hm; cases hm
      refine kitAny_cons (kit_ty hk) (fun e => ?_) (fun e => ?_)
      · subst e; simpa using any_kit hn hc
      · subst e; rfl
    · cases h
theorem tyX_of {K : PySem.W.Frag} {α : List Addr} {F H : Hp} {S : Store} (ok : OkS K α F S H) {t : T} {v : V} {n : String} (h : IsP K α F H t v) (hn : tyN t = some n) : TyX K H v (.type n) := by
  cases t with
  | non =>
    cases hn
    rcases h with h | ⟨a, xs, m, e1, _⟩
    · cases h; exact .base .non
    · cases e1
  | bl b => cases hn; rw [h.bl]; exact .base (.bl _)
  | int i => cases hn; rw [h.int]; exact .base (.int _)
  | str x => cases hn; rw [h.str]; exact .base (.str _)
  | tup l =>
    cases hn
    obtain ⟨a, xs, rfl, h1, _⟩ := h.tupAt ok
    rcases h1 with (h1 | ⟨o, h1⟩) | ⟨o, its, m, h1, h2, _⟩
    · exact .base (.tup h1)
    · exact .fTuple h1
    · exact .kTuple h1 h2
  | lst l =>
    cases hn
    obtain ⟨a, xs, rfl, h1, _⟩ := h.lstAt ok
    exact .base (.lst h1)
  | _ => cases hn
theorem boot_ty (y : Ty) : bootBuiltins (Str.ofString y.nm) = some (.type y.nm) := by cases y <;> decide +kernel
theorem ty_free {y : Ty} : Str.ofString y.nm ∈ freeNames := by cases y <;> decide +kernel
theorem ty_ok {y : Ty} : Str.ofString y.nm ≠ ("__name__" : Str) ∧ (Str.ofString y.nm == ("__debug__" : Str)) = false := by cases y <;> decide +kernel
theorem vis_of {X : Cx} {x : Str} (h : isVis X.env.scope x = true) : Vis X.env.scope x := by
  unfold isVis at h
  split at h
  · exact .inl (by assumption)
  · exact .inr (.inl (by assumption))
  · exact .inr (.inr (by assumption))
  · cases h
theorem okN_of {x : Str} (h : okN x = true) : (x == ("__debug__" : Str)) = false ∧ (x == ("__classdict__" : Str)) = false ∧ x ≠ "__name__" := by
  unfold okN at h
  simp only [Bool.and_eq_true, Bool.not_eq_true', decide_eq_false_iff_not] at h
  exact ⟨h.1.1, h.1.2, h.2⟩
def tTys (ys : List Ty) : TA := fun _ H Q => Q (ys.map fun y => V.ty y.nm) H
theorem pa_tys {G : Glob} {X : Cx} (c : CtxOk G X) : ∀ {ys : List Ty} {hs : List Expr}, chkTys X.env.scope ys hs = true → PA X hs (tTys ys)
  | [], [], _ => pa_nil
  | [], _ :: _, h => by simp [chkTys] at h
  | _ :: _, [], h => by simp [chkTys] at h
  | y :: ys, f :: fs, h => by
    simp only [chkTys, Bool.and_eq_true] at h
    obtain ⟨h1, h2⟩ := h
    cases f with
    | Name x p =>
      simp only [Bool.and_eq_true, decide_eq_true_eq] at h1
      obtain ⟨e1, e2⟩ := h1
      subst e1
      exact pa_cons (te := tC (.ty y.nm)) (pe_bltn (gl_of e2) (c.free _ ty_free) (boot_ty y) rfl ty_ok.1 ty_ok.2) (pa_tys c h2)
    | _ => simp at h1

theorem bt_boot (b : Bt) : bootBuiltins b.nm = some b.fv := by cases b <;> decide +kernel
theorem bt_free (b : Bt) : b.nm ∈ freeNames := by cases b <;> decide +kernel
theorem bt_ok (b : Bt) : b.nm ≠ ("__name__" : Str) ∧ (b.nm == ("__debug__" : Str)) = false := by cases b <;> decide +kernel
theorem pe_blt {X : Cx} {b : Bt} {r : List V → Hp → VK → Prop} {t : TA} {e : Expr} {es : List Expr} {p pos : Pos} {G : Glob} (c : CtxOk G X) (hc : CallR X b.fv r) (hg : Gl X b.nm) (ha : PA X (e :: es) t)
    (he : starEach (e :: es) X.env = (false, eval e X.env) :: starEach es X.env) (hpl : (backTo pos (starEach es X.env)).any (·.1) = false) : PE X (.Call (.Name b.nm p) (e :: es) [] pos) (tCB r t) := by
  have hm := c.free _ (bt_free b)
  have hb := bt_boot b
  obtain ⟨h1, h2⟩ := bt_ok b
  cases b <;> first
    | exact pe_callB hc hg hm hb ha h1 h2 he hpl
    | exact pe_callTy hc hg hm hb ha h1 h2 he hpl
theorem beh_of {f : Expr} {op : CmpOp} (h : goodF f = true) : behindInMarks op f = false := by
  cases f <;> first
    | rfl
    | (simp [goodF] at h)
theorem last_of {f g : Expr} {o p : CmpOp} (h : goodF g = true) : lastMarks [o, p] [f, g] = false := beh_of (op := p) h

theorem evs_len {G : Glob} : ∀ {es : Exs} {ρ : Env} {S S' : Store} {ts : List T} {N : List Str} {sc : Scope} {fs : List Expr}, evs G es ρ S = some (.ok ts S') → chkEs N sc es fs = true → ts.length = fs.length
  | .nil, ρ, S, S', ts, N, sc, fs, e, h => by
    obtain ⟨rfl, rfl⟩ := ret_inv e
    cases fs with
    | nil => rfl
    | cons _ _ => simp [chkEs] at h
  | .cons e es, ρ, S, S', ts, N, sc, fs, ee, h => by
    cases fs with
    | nil => simp [chkEs] at h
    | cons f fs =>
      simp only [chkEs, Bool.and_eq_true] at h
      simp only [evs] at ee
      obtain ⟨x, S1, e1, ee⟩ := bnd_inv ee
      obtain ⟨xs, S2, e2, ee⟩ := bnd_inv ee
      obtain ⟨rfl, rfl⟩ := ret_inv ee
      simp [evs_len e2 h.2]
theorem line1000 : (1000 : Nat) ≤ sizeLine := by rw [sizeLine_eq]; decide
theorem none_back {α α1 : List Addr} {F F1 H H1 : Hp} (st : Step α F H α1 F1 H1) {p : Addr} (hp : H1 p = none) : H p = none := by
  cases z : H p with
  | none => rfl
  | some o => exact absurd hp (st.hx p (by rw [z]; exact fun y => by cases y))
theorem pe_lstN (G : Glob) (es : Exs) (X : Cx) (f : Expr) (c : CtxOk G X) (h : chkE X.N X.env.scope (.lst es) f = true) (ha : ∀ fs, chkEs X.N X.env.scope es fs = true → PA X fs (tA X.K G es)) : PE X f (tN X.K G (.lst es)) := by
  cases f with
  | List fs p =>
    simp only [chkE, Bool.and_eq_true, decide_eq_true_eq] at h
    refine ⟨fun pins s σ H Q I ⟨α, F, S, ρ, t, S', ok, L, e, q⟩ => ?_⟩
    simp only [ev] at e
    by_cases hs : strictAll es = true
    · rw [if_pos hs] at e
      obtain ⟨l, S1, e1, e⟩ := bnd_inv e
      obtain ⟨er, rfl⟩ := ret_inv e
      subst er
      refine (pe_lst (ha fs h.1)).run pins s σ H Q I ⟨α, F, S, ρ, l, _, ok, L, e1, fun vs H1 α1 F1 ok1 st1 _ is1 => ⟨?_, fun p hp => ?_⟩⟩
      · rw [← (is1 hs).length, evs_len e1 h.1]
        have := line1000
        omega
      · refine q p _ _ α1 F1 (ok1.loose hp) (st1.trans (.loose hp)) upd_same ⟨vs, rfl, is1 hs⟩ (ok1.sub.free hp) (ok1.not_cell hp) (none_back st1 hp)
    · rw [if_neg hs] at e; exact (fail_inv e).elim
  | _ => simp [chkE] at h
theorem isL_ints {K : PySem.W.Frag} {α : List Addr} {F : Hp} : ∀ ns : List Int, IsL K α F (ns.map T.int) (ns.map V.int)
  | [] => rfl
  | n :: ns => ⟨_, _, rfl, rfl, isL_ints ns⟩
/-- sorted(set(..)) -/
theorem pe_ssetN (G : Glob) (a : Ex) (X : Cx) (g : Expr) (p p2 q pos : Pos) (c : CtxOk G X) (hg : Gl X "sorted") (hg2 : Gl X "set") (gg : goodF g = true) (ha : PE X g (tE X.K G a)) : PE X (.Call (.Name "sorted" p) [.Call (.Name "set" p2) [g] [] q] [] pos) (tN X.K G (.sset a)) := by
  refine ⟨fun pins s σ H Q I ⟨α, F, S, ρ, t, S', ok, L, e, q⟩ => ?_⟩
  simp only [ev] at e
  obtain ⟨x, S1, e1, e⟩ := bnd_inv e
  obtain ⟨e2, rfl⟩ := opt_inv e
  refine (pe_sset c.calm c.un hg (c.free _ (by decide +kernel)) hg2 (c.free _ (by decide +kernel)) ha (star_of gg)).run pins s σ H Q I ⟨α, F, S, ρ, x, _, ok, L, e1, fun v H1 α1 F1 ok1 st1 ip1 _ => ?_⟩
  simp only [Option.map_eq_some_iff] at e2
  obtain ⟨m, e2, rfl⟩ := e2
  unfold ssetT at e2
  split at e2
  · rename_i l hl
    obtain ⟨k, a, xs, rfl, h1, h2, _⟩ := ip1.sqB ok1 hl
    split at e2
    · rename_i hlen
      refine ⟨a, xs, rfl, by cases k <;> first | exact .inl h1 | exact .inr h1, by rw [← h2.length]; exact hlen, ?_⟩
      split at e2
      · rename_i ns hns
        cases e2
        exact .inl ⟨ns, h2.ints hns, fun p hp => q p _ _ α1 F1 (ok1.loose hp) (st1.trans (.loose hp)) upd_same ⟨_, rfl, isL_ints _⟩ (ok1.sub.free hp) (ok1.not_cell hp) (none_back st1 hp)⟩
      · split at e2
        · rename_i zs hzs
          cases e2
          exact .inr ⟨zs, h2.strsL hzs, fun p hp => q p _ _ α1 F1 (ok1.loose hp) (st1.trans (.loose hp)) upd_same ⟨_, rfl, isL_strs _⟩ (ok1.sub.free hp) (ok1.not_cell hp) (none_back st1 hp)⟩
        · cases e2
    · cases e2
  · cases e2
theorem tE_mono {K : PySem.W.Frag} {G : Glob} {e : Ex} {σ : L2.St} {H : Hp} {Q Q' : VK} (k : ∀ v H, Q v H → Q' v H) (h : tE K G e σ H Q) : tE K G e σ H Q' := by
  obtain ⟨α, F, S, ρ, t, S', ok, L, e1, q⟩ := h
  exact ⟨α, F, S, ρ, t, S', ok, L, e1, fun v H' α' F' o st i s => k _ _ (q v H' α' F' o st i s)⟩
theorem IsP.V {K : PySem.W.Frag} {α : List Addr} {F H : Hp} {t : T} {v : V} (h : IsP K α F H t v) : IsV K α F H t v := by
  rcases h with h | ⟨a, xs, m, e1, e2, h1, h2, h3, h4⟩
  · exact .inl h
  · exact .inr (.inl ⟨a, xs, m, e1, e2, h1, h4⟩)
theorem gives_negB (b : Bool) : Gives (Builtin.«int.__neg__» ⟨[.bool b], []⟩) (.int (-(if b = true then 1 else 0))) := by cases b <;> exact .of_eq rfl
theorem un_negB {X : Cx} : UnR X (unaryOp .USub) (fun x H Q => ∃ b : Bool, x = .bl b ∧ Q (.int (-(if b = true then 1 else 0))) H) := by
  intro pins s σ H x v Q I rx h
  obtain ⟨b, rfl, q⟩ := h
  cases rx
  exact PySem.unaryOp_gives (op := .USub) (T := "bool") (PySem.typeIs_bool s b) rfl PySem.F.slot_bool_neg PySem.F.entry_int_neg (PySem.F.args_int_neg_1 _) (gives_negB b) ⟨.int _, H, I.tok _, ⟨_, rfl⟩, q⟩
def rMop (m : Mop) (K : PySem.W.Frag) : V → List V → Hp → VK → Prop := fun x xs H Q => ∃ α F S t u r v, xs = [v] ∧ OkS K α F S H ∧ IsV K α F H t x ∧ IsV K α F H u v ∧ mopT m t u = some r ∧ After K α F S H r Q
theorem findIdx_strs : ∀ {zs : List Str} {z : Str} {i : Nat}, zs.findIdx? (· == z) = some i → zs[i]? = some z ∧ ∀ j, j < i → zs[j]? ≠ some z := by
  intro zs z i h
  rw [List.findIdx?_eq_some_iff_getElem] at h
  obtain ⟨hi, h1, h2⟩ := h
  refine ⟨by rw [List.getElem?_eq_getElem hi]; simpa using h1, fun j hj e => ?_⟩
  have := h2 j hj
  rw [List.getElem?_eq_getElem (by omega)] at e
  simp at this e
  exact this e
theorem mt_idx {X : Cx} : MtR X "list.index" (rMop .index X.K) := by
  intro pins s σ H x xs v us Q I rx rv h
  obtain ⟨α, F, S, t, u, r, w, rfl, ok, hx, hw, e, q⟩ := h
  simp only [mopT] at e
  split at e
  · rename_i l z
    split at e
    · rename_i zs hz
      simp only [Option.map_eq_some_iff] at e
      obtain ⟨i, e, rfl⟩ := e
      obtain ⟨a, ys, rfl, h1, h2⟩ := hx.lst ok
      have := h2.strsL hz; subst this
      have ew := hw.str; subst ew
      obtain ⟨f1, f2⟩ := findIdx_strs e
      refine mt_index pins s σ H _ _ v us Q I rx rv ⟨a, _, _, i, V.str z, rfl, rfl, .of h1, rfl, ?_, by rw [List.getElem?_map, f1]; rfl, by simp [eqV], ?_, ?_⟩
      · rw [List.all_eq_true]; intro x hx; obtain ⟨y, _, rfl⟩ := List.mem_map.mp hx; rfl
      · intro m z' hm hz'
        rw [List.getElem?_map, Option.map_eq_some_iff] at hz'
        obtain ⟨y, hy, rfl⟩ := hz'
        have := f2 m hm
        have ne : y ≠ z := fun e => this (by rw [hy, e])
        simpa [eqV] using ne
      · exact q.now ok rfl
    · cases e
  · cases e
theorem call_str_bl {X : Cx} : CallR X (.type "str") (fun xs H Q => ∃ b : Bool, xs = [.bl b] ∧ Q (.str (if b then "True" else "False")) H) := by
  intro pins s σ H xs us Q I r h
  obtain ⟨b, rfl, q⟩ := h
  obtain ⟨u, rfl, ru⟩ := vals1 r
  cases ru
  exact PySem.P.str_of_bool ⟨.str _, H, I.tok _, ⟨_, rfl⟩, q⟩
def rStrOf (K : PySem.W.Frag) : List V → Hp → VK → Prop := fun xs H Q => ∃ α F S t r v, xs = [v] ∧ OkS K α F S H ∧ IsV K α F H t v ∧ xopT .strOf t = some r ∧ After K α F S H r Q
theorem call_strOf {X : Cx} : CallR X (.type "str") (rStrOf X.K) := by
  intro pins s σ H xs us Q I r h
  obtain ⟨α, F, S, t, w, v, rfl, ok, hv, e, q⟩ := h
  simp only [xopT] at e
  split at e
  · split at e
    · cases e; rw [hv.int] at r
      exact call_str_int pins s σ H _ us Q I r ⟨_, rfl, by assumption, q.now ok rfl⟩
    · cases e
  · cases e; rw [hv.bl] at r
    exact call_str_bl pins s σ H _ us Q I r ⟨_, rfl, q.now ok rfl⟩
  · cases e; rw [hv.str] at r
    exact SkE.call_str_str pins s σ H _ us Q I r ⟨_, rfl, q.now ok rfl⟩
  · cases e
/-- a tracked set is no code object -/
theorem kset_code {X : Cx} {D : Addr} {ks : List Key} : ∀ q, KSet X D ks ≠ LamX.CodeO D q := fun q z => by
  unfold KSet LamX.CodeO at z
  have e := HO.ext.inj z
  let ob : Obj := { cls := .none, data := .fields #[.none, .str q 0] }
  let h : Heap := { objs := Array.replicate (D + 1) ob }
  have at_ : h.get? D = some ob := by simp [h, ob, Heap.get?, Obj.isFreed]
  have c : (fun h : Heap => ∃ (oc : Obj) (vs : Array Value) (t : Tok), h.get? D = some oc ∧ oc.data = .fields vs ∧ vs[1]? = some (.str q t)) h := ⟨ob, _, 0, at_, rfl, rfl⟩
  rw [← e] at c
  obtain ⟨o, es, ep, t, ho, _, hd, _⟩ := c
  rw [at_] at ho
  cases ho
  cases hd
theorem sg_read {X : Cx} {G : Glob} {tg : Tg} {it : Itr} {co : Oe} {e : Ex} {σ : L2.St} {H : Hp} {Q : VK} (hq : tE X.K G (.ext .lsc (.lc tg it co e)) σ H Q) : tLenG X (tSg X (tI X.K G it) (tG X.K tg) (tTs X.K G co) (tE X.K G e) tg.slots) σ H Q := by
  obtain ⟨α, F, S, ρ, t, S', ok, L, ee, q⟩ := hq
  simp only [ev] at ee
  obtain ⟨u, S3, ee, e0⟩ := bnd_inv ee
  obtain ⟨e0, eS0⟩ := look_inv e0
  subst eS0
  obtain ⟨items, S1, e1, ee⟩ := bnd_inv ee
  obtain ⟨l, S2, e2, ee⟩ := bnd_inv ee
  obtain ⟨er, eS⟩ := ret_inv ee
  subst er
  subst eS
  simp only [view, extT, opOk, if_true, xopT, lsetT] at e0
  cases hks : keysT l with
  | none => rw [hks] at e0; cases e0
  | some ks =>
  rw [hks] at e0
  simp only at e0
  split at e0
  · rename_i hz
    cases e0
    refine ⟨α, F, S, ρ, items, S1, ok, L, e1, fun J H1 α1 F1 ok1 st1 W _ D hD => ?_⟩
    have hDa : D ∉ α1 := ok1.not_cell hD
    have hDF : F1 D = none := ok1.sub.free hD
    refine ⟨fun i m H3 => ∃ α' F' Si ak rest rk, m = items.length - i ∧ i ≤ items.length ∧ OkS X.K α' F' Si H3 ∧ Step α1 F1 H1 α' F' H3 ∧ H3 D = some (KSet X D (ak.foldl meet1 [])) ∧ F' D = none ∧ D ∉ α' ∧
        mapL (lcF (evO G co) (strictly e.strict (ev G e)) tg ρ) (items.drop i) Si = some (.ok rest S') ∧ keysT rest = some rk ∧ ak ++ rk = ks, ⟨_, α1, F1, S1, [], l, ks, rfl, Nat.zero_le _, ok1.loose (nc := kset_code) hD, .loose hD, upd_same, hDF, hDa, by simpa using e2, hks, by simp⟩, ?_⟩
    rintro i m H3 ⟨α', F', Si, ak, rest, rk, rfl, hil, ok3, st3, hD3, hF3, ha3, em, ek, ea⟩
    by_cases hlt : i < items.length
    · refine .inr ⟨W.goes i α' F' H3 Si ok3 st3 hlt, fun H' => ∃ α' F' Si ak rest rk, OkS X.K α' F' Si H' ∧ Step α1 F1 H1 α' F' H' ∧ H' D = some (KSet X D (ak.foldl meet1 [])) ∧ F' D = none ∧ D ∉ α' ∧
          mapL (lcF (evO G co) (strictly e.strict (ev G e)) tg ρ) (items.drop (i + 1)) Si = some (.ok rest S') ∧ keysT rest = some rk ∧ ak ++ rk = ks, fun H' h => ?_, fun x H4 hy => ?_⟩
      · obtain ⟨α', F', Si, ak, rest, rk, h⟩ := h
        exact ⟨items.length - (i + 1), by omega, α', F', Si, ak, rest, rk, rfl, hlt, h⟩
      · obtain ⟨F4, t4, et, ok4, st4, is4⟩ := W.yields i α' F' H3 Si x H4 ok3 st3 hlt hy
        have dr : items.drop i = t4 :: items.drop (i + 1) := by
          obtain ⟨_, hx⟩ := List.getElem?_eq_some_iff.mp et
          rw [← hx]
          exact List.drop_eq_getElem_cons hlt
        rw [dr] at em
        simp only [mapL] at em
        obtain ⟨ys, S5, e5, em⟩ := bnd_inv em
        obtain ⟨zs, S6, e6, em⟩ := bnd_inv em
        obtain ⟨er, eS⟩ := ret_inv em
        subst er eS
        unfold lcF at e5
        cases hbind : bindTg (wipeE ρ tg.slots) tg t4 with
        | none => rw [hbind] at e5; exact (fail_inv e5).elim
        | some ρ' =>
          rw [hbind] at e5
          obtain ⟨k, S7, e7, e5⟩ := bnd_inv e5
          have D4 : H4 D = some (KSet X D (ak.foldl meet1 [])) := st4.hh D _ hD3 ha3
          have F4D : F4 D = none := st4.fn D hF3 (by rw [hD3]; exact fun z => by cases z)
          have L4 : Loc X.K α' F4 H4 (wipeE ρ tg.slots) (wipe σ tg.slots) := ((L.step st1).step (st3.trans st4)).wipe _
          refine bind_ok ok4 is4 L4 hbind fun σ' L' hw => ⟨by rw [hw _ fun _ h => h, wipe_wipe], ?_⟩
          cases hk : condT k with
          | none => rw [hk] at e5; exact (fail_inv e5).elim
          | some b =>
            rw [hk] at e5
            refine ⟨α', F4, Si, ρ', k, S7, b, ok4, L', e7, hk, fun H8 α8 F8 ok8 st8 => ?_⟩
            have D8 : H8 D = some (KSet X D (ak.foldl meet1 [])) := st8.hh D _ D4 ha3
            have F8D : F8 D = none := st8.fn D F4D (by rw [D4]; exact fun z => by cases z)
            have a8 : D ∉ α8 := st8.notin (by rw [D4]; exact fun z => by cases z) ha3
            cases b with
            | true =>
              simp only [if_true]
              obtain ⟨y, S9, e9, e5⟩ := bnd_inv e5
              obtain ⟨er, eS⟩ := ret_inv e5
              subst er eS
              unfold strictly at e9
              by_cases hstr : e.strict = true
              · rw [if_pos hstr] at e9
                refine ⟨α8, F8, S7, ρ', y, _, ok8, L'.step st8, e9, fun v H9 α9 F9 ok9 st9 _ is9 => ?_⟩
                have D9 : H9 D = some (KSet X D (ak.foldl meet1 [])) := st9.hh D _ D8 a8
                have F9D : F9 D = none := st9.fn D F8D (by rw [D8]; exact fun z => by cases z)
                have a9 : D ∉ α9 := st9.notin (by rw [D8]; exact fun z => by cases z) a8
                obtain ⟨ky, rs, k1, k2, k3⟩ := keysT_cons (t := y) (ts := zs) (by simpa using ek)
                subst k3
                have hal : (ak.foldl meet1 []).length ≤ 1000 := by
                  have e1 : ak.foldl meet1 [] = dedup ak := rfl
                  rw [e1]
                  refine Nat.le_trans (dedup_len _) ?_
                  have := congrArg List.length ea
                  simp at this
                  omega
                refine ⟨ky, _, is_key (is9 hstr) k1, D9, by unfold scanBound; omega, α9, F9, _, ak ++ [ky], zs, rs, ok9.poke (nc := kset_code) F9D a9, ((((st3.trans st4).trans st8).trans st9)).poke hD, by rw [upd_same, List.foldl_append]; rfl, F9D, a9, e6, k2, by rw [← ea]; simp⟩
              · rw [if_neg hstr] at e9; exact (fail_inv e9).elim
            | false =>
              simp only [Bool.false_eq_true, if_false]
              obtain ⟨er, eS⟩ := ret_inv e5
              subst er eS
              exact ⟨α8, F8, _, ak, zs, rk, ok8, (st3.trans st4).trans st8, D8, F8D, a8, e6, by simpa using ek, ea⟩
    · have hi : i = items.length := by omega
      subst hi
      refine .inl ⟨W.stops α' F' H3 Si ok3 st3, ?_⟩
      rw [List.drop_length] at em
      obtain ⟨er, eS⟩ := ret_inv em
      subst er eS
      cases ek
      rw [List.append_nil] at ea
      subst ea
      have e1 : ak.foldl meet1 [] = dedup ak := rfl
      rw [e1] at hD3
      exact ⟨D, dedup ak, rfl, hD3, Nat.le_trans (dedup_len _) hz, q _ H3 α' F' ok3 (st1.trans st3) (.inl rfl) fun _ => rfl⟩
  · cases e0
theorem pe_lscN {X : Cx} {G : Glob} (c : CtxOk G X) {tg : Tg} {it : Itr} {co : Oe} {e : Ex} {g t i : Expr} {ifs : List Expr} {scope : Scope} {p pos p0 : Pos} (hl : Gl X "len") (hm : X.mg "len" = none) (hb : blkC X.N X.env.scope scope (ownOf X.N tg.slots) = true) (htg : chkTg X.N scope tg t = true)
    (hi : PI X t i (tI X.K G it)) (hfi : goodF i = true) (ht : ∀ (s : Shared) (H : Hp) (C : Addr) (cl : List (Str × Addr)) (fp : List Addr), PTs (X.blk s H scope (compEnvC scope cl C X.env) fp) ifs (tTs X.K G co))
    (he : ∀ (s : Shared) (H : Hp) (C : Addr) (cl : List (Str × Addr)) (fp : List Addr), PE (X.blk s H scope (compEnvC scope cl C X.env) fp) g (tE X.K G e)) :
    PE X (.Call (.Name "len" p0) [.SetComp g [⟨t, i, ifs, 0⟩] scope p] [] pos) (tE X.K G (.ext .lsc (.lc tg it co e))) := by
  have base := pe_sg (pos := p) (g := tG X.K tg) c.calm c.nd hi (blkOk_by hb) (fun s H C cl fp => pg_tg (X := X.blk s H scope (compEnvC scope cl C X.env) fp) c.calm c.nd canSet_blk htg) ht he (folded_of hfi)
  rw [own_slots] at base
  have b2 := pe_lenG (p := p0) (pos := pos) hl hm base (star_of rfl)
  exact ⟨fun pins s σ H Q I hq => b2.run pins s σ H Q I (sg_read hq)⟩
theorem pe_extN (G : Glob) (x : Xop) (a : Ex) (X : Cx) (f g : Expr) (c : CtxOk G X) (hx : x ≠ .lsc) (hx2 : x ≠ .dzip) (hx3 : x ≠ .slen) (hs : subX x X.env.scope f = some g) (gg : goodF g = true) (ha : PE X g (tE X.K G a)) : PE X f (tE X.K G (.ext x a)) := by
  cases x with
  | lrng =>
    unfold subX at hs
    simp only at hs
    split at hs
    · split at hs
      · rename_i n1 p1 n2 p2 g' q pos hb
        cases hs
        simp only [Bool.and_eq_true, decide_eq_true_eq] at hb
        obtain ⟨⟨⟨rfl, h2⟩, rfl⟩, h4⟩ := hb
        refine ⟨fun pins s σ H Q I h => (pe_listRg c.calm (gl_of h2) (c.free _ (by decide +kernel)) (prg_1 (gl_of h4) (c.free _ (by decide +kernel)) ha (star_of gg))).run pins s σ H Q I (tE_mono (fun v H1 ⟨α, F, S, t, r, ok, hv, _, e, q⟩ => ?_) (ext_read h))⟩
        simp only [xopT] at e
        split at e <;> first | contradiction | skip
        · split at e
          · rename_i j hj
            cases e
            refine ⟨j, hv.int, RgOk.of_le (by omega) (by omega) (by omega) (by omega), fun p hp => q.lst ok ?_ hp⟩
            unfold rgV
            have e0 : (j - 0).toNat = j.toNat := by omega
            rw [e0]
            have : (List.range j.toNat).map (fun (i : Nat) => T.int (i : Int)) = ((List.range j.toNat).map fun (i : Nat) => (i : Int)).map T.int := by rw [List.map_map]; rfl
            rw [this]
            have e1 : (List.range j.toNat).map (fun i => V.int (0 + (i : Nat))) = ((List.range j.toNat).map fun (i : Nat) => (i : Int)).map V.int := by
              rw [List.map_map]; refine List.map_congr_left fun i _ => ?_
              simp
            rw [e1]
            exact isL_ints _
          · cases e
      · cases hs
    · cases hs
  | rev =>
    unfold subX at hs
    simp only at hs
    split at hs
    · split at hs
      · rename_i e' i k p1 p2 p3 pos hb
        cases hs
        subst hb
        refine ⟨fun pins s σ H Q I h => (pe_revS ha).run pins s σ H Q I (tE_mono (fun v H1 ⟨α, F, S, t, r, ok, hv, _, e, q⟩ => ?_) (ext_read h))⟩
        simp only [xopT] at e
        split at e <;> first | contradiction | skip
        · cases e
          obtain ⟨a', xs, rfl, h1, h2⟩ := hv.lst ok
          exact ⟨a', xs, rfl, .inl ⟨.of h1, fun p hp => q.lst ok h2.rev hp⟩⟩
        · cases e
          obtain ⟨a', xs, rfl, h1, h2⟩ := hv.tup ok
          exact ⟨a', xs, rfl, .inr ⟨h1, fun p hp => q.tup ok h2.rev hp⟩⟩
      · cases hs
    · cases hs
  | upper =>
    unfold subX at hs
    simp only at hs
    split at hs
    · split at hs
      · rename_i y p0 n p1 pos hb
        cases hs
        simp only [Bool.and_eq_true, decide_eq_true_eq] at hb
        obtain ⟨rfl, hl⟩ := hb
        refine ⟨fun pins s σ H Q I h => (pe_upper ha rfl hl).run pins s σ H Q I (tE_mono (fun v H1 ⟨α, F, S, t, r, ok, hv, _, e, q⟩ => ?_) (ext_read h))⟩
        simp only [xopT] at e
        split at e <;> first | contradiction | skip
        · split at e
          · rename_i z hz
            cases e
            exact ⟨⟨z, hv.str⟩, z, hv.str, rfl, by omega, q.now ok rfl⟩
          · cases e
      · cases hs
    · cases hs
  | strOf =>
    unfold subX at hs
    simp only at hs
    split at hs
    · split at hs
      · rename_i n p1 g' pos hb
        cases hs
        simp only [Bool.and_eq_true, decide_eq_true_eq] at hb
        obtain ⟨rfl, h2⟩ := hb
        refine ⟨fun pins s σ H Q I h => (pe_callTy call_strOf (gl_of h2) (c.free _ (by decide +kernel)) (by rfl) (pa_cons ha pa_nil (star_of gg)) (by decide +kernel) (by decide +kernel) (star_of gg) rfl).run pins s σ H Q I (tE_mono (fun v H1 ⟨α, F, S, t, r, ok, hv, _, e, q⟩ => ?_) (ext_read h))⟩
        exact ⟨α, F, S, t, r, v, rfl, ok, hv, e, q⟩
      · cases hs
    · cases hs
  | lset =>
    unfold subX at hs
    simp only at hs
    split at hs
    · split at hs
      · rename_i n1 p1 n2 p2 g' q pos hb
        cases hs
        simp only [Bool.and_eq_true, decide_eq_true_eq] at hb
        obtain ⟨⟨⟨rfl, h2⟩, rfl⟩, h4⟩ := hb
        refine ⟨fun pins s σ H Q I h => (pe_lenG (gl_of h2) (c.free _ (by decide +kernel)) (pe_setG c.calm (gl_of h4) (c.free _ (by decide +kernel)) ha (star_of gg)) (star_of rfl)).run pins s σ H Q I (tE_mono (fun v H1 ⟨α, F, S, t, r, ok, hv, _, e, q⟩ => ?_) (ext_read h))⟩
        have fin : ∀ {l : List T} {ks : List Key} {a' : Addr} {xs : List V}, v = .ref a' → IsL X.K α F l xs → (SqL X.K H1 a' xs ∨ SqT X.K H1 a' xs) → keysT l = some ks → ks.length ≤ 1000 → r = .int (dedup ks).length →
            ∃ (l : Addr) (ks : List Key), v = .ref l ∧ (SqL X.K H1 l (ks.map kV) ∨ SqT X.K H1 l (ks.map kV)) ∧ ks.length ≤ 1000 ∧ ∀ D, H1 D = none → ∃ D' ks', V.ref D = V.ref D' ∧ upd H1 D (KSet X D (dedup ks)) D' = some (KSet X D' ks') ∧ ks'.length ≤ 1000 ∧ Q (.int ks'.length) (upd H1 D (KSet X D (dedup ks))) := by
          intro l ks a' xs ev hl hsq hk hz er
          have exs : xs = ks.map kV := isL_keys hl hk
          subst exs ev er
          refine ⟨a', ks, rfl, hsq, hz, fun D hD => ⟨D, dedup ks, rfl, upd_same, Nat.le_trans (dedup_len ks) hz, ?_⟩⟩
          exact q _ _ F (ok.loose (nc := kset_code) hD) (.loose hD) rfl
        simp only [xopT] at e
        unfold lsetT at e
        split at e
        · rename_i l
          split at e
          · rename_i ks hk
            split at e
            · rename_i hz
              cases e
              obtain ⟨a', xs, rfl, h1, h2⟩ := hv.lst ok
              exact fin rfl h2 (.inl (.of h1)) hk hz rfl
            · cases e
          · cases e
        · rename_i l
          split at e
          · rename_i ks hk
            split at e
            · rename_i hz
              cases e
              obtain ⟨a', xs, rfl, h1, h2⟩ := hv.tup ok
              exact fin rfl h2 (.inr h1) hk hz rfl
            · cases e
          · cases e
        · cases e
      · cases hs
    · cases hs
  | lsc => exact absurd rfl hx
  | dzip => exact absurd rfl hx2
  | slen => exact absurd rfl hx3
theorem pe_metN (G : Glob) (m : Mop) (o a : Ex) (X : Cx) (y : Str) (p0 p pos : Pos) (g : Expr) (c : CtxOk G X) (hl : (p.endLine == pos.line) = true) (ho : PE X (.Name y p0) (tE X.K G o)) (gg : goodF g = true) (ha : PE X g (tE X.K G a)) : PE X (.Call (.Attribute (.Name y p0) m.nm p) [g] [] pos) (tE X.K G (.met m o a)) := by
  have hfew : ((backTo pos (starEach [g] X.env)).all (fun x => !x.1) && (backToKw pos (keywordEach [] X.env)).all (fun x => x.1.isSome) && decide ([g].length + ([] : List Keyword).length + (if ([] : List Keyword).isEmpty then 0 else 1) < 30)) = true := by
    rw [star_of gg]; rfl
  refine ⟨fun pins s σ H Q I ⟨α, F, S, ρ, t, S', ok, L, e, q⟩ => ?_⟩
  simp only [ev] at e
  obtain ⟨x, S1, e1, e⟩ := bnd_inv e
  obtain ⟨u, S2, e2, e⟩ := bnd_inv e
  obtain ⟨e3, rfl⟩ := look_inv e
  have fin : ∀ v1 H1 α1 F1, OkS X.K α1 F1 S1 H1 → Step α F H α1 F1 H1 → IsP X.K α1 F1 H1 x v1 → tCons (tE X.K G a) tNil σ H1 fun xs H2 => rMop m X.K v1 xs H2 Q := fun v1 H1 α1 F1 ok1 st1 ip1 => by
    refine ⟨α1, F1, S1, ρ, u, _, ok1, L.step st1, e2, fun v2 H2 α2 F2 ok2 st2 ip2 _ => ?_⟩
    split at e3
    · rename_i u' eu
      exact ⟨α2, F2, _, x, u', t, v2, rfl, ok2, (ip1.step st2).V, ip2.view ok2 eu, e3, fun v H' F' ok' st' is' => q v H' α2 F' ok' ((st1.trans st2).trans st') (.inl is') fun _ => is'⟩
    · cases e3
  cases m with
  | index =>
    refine (pe_bm PySem.F.plainAttrs_list PySem.F.slot_list_index PySem.F.type_list_index mt_idx ho (pa_cons ha pa_nil (star_of gg)) rfl hfew hl (star_of gg) rfl).run pins s σ H Q I ⟨α, F, S, ρ, x, S1, ok, L, e1, fun v1 H1 α1 F1 ok1 st1 ip1 _ => ⟨?_, fin v1 H1 α1 F1 ok1 st1 ip1⟩⟩
    have hx : ∃ l, x = .lst l := by
      split at e3
      · simp only [mopT] at e3
        split at e3
        · exact ⟨_, rfl⟩
        · cases e3
      · cases e3
    obtain ⟨l, rfl⟩ := hx
    obtain ⟨ad, xs, rfl, h1, h2⟩ := ip1.lstAt ok1
    exact .inl ⟨rfl, xs, .of h1⟩
theorem goodI_of {N : List Str} {sc : Scope} {tup : Bool} {it : Itr} {f : Expr} (h : chkI N sc tup it f = true) : goodF f = true := by
  cases it with
  | seq e => simp only [chkI] at h; exact good_of h
  | _ => cases f <;> first
      | rfl
      | (simp [chkI] at h)
theorem tup_tg {N : List Str} {sc : Scope} {tg : Tg} {t : Expr} (h : chkTg N sc tg t = true) : tg.isT = true → ∃ es k p, t = .Tuple es k p := by
  intro hb
  cases tg with
  | name i => cases hb
  | tup is =>
    simp only [chkTg] at h
    cases t with
    | Tuple es k p => exact ⟨es, k, p, rfl⟩
    | _ => simp at h
mutual
theorem pn_ev (G : Glob) : ∀ (e : Ex) (X : Cx) (f : Expr), newE e = true → CtxOk G X → chkE X.N X.env.scope e f = true → PE X f (tN X.K G e)
  | .lst es, X, f, _, c, h => pe_lstN G es X f c h fun fs h' => pa_ev G es X fs c h'
  | .sset e, X, f, _, c, h => by
    rw [chkE.eq_def] at h
    simp only at h
    split at h
    · rename_i x px y py g p2 p1
      simp only [Bool.and_eq_true, decide_eq_true_eq] at h
      obtain ⟨⟨⟨⟨h1, h2⟩, h3⟩, h4⟩, h5⟩ := h
      subst h1 h3
      exact pe_ssetN G e X g _ _ _ _ c (gl_of h2) (gl_of h4) (good_of h5) (pe_ev G e X g c h5)
    · cases h
  | .blt b es, X, f, hn, c, h => by
    have hb : btNew b = true ∧ ∃ a, es = .cons a .nil := by
      cases es with
      | nil => cases b <;> simp [newE] at hn
      | cons a as => cases as with
        | nil => exact ⟨by cases b <;> first | rfl | simp [newE] at hn, a, rfl⟩
        | cons _ _ => cases b <;> simp [newE] at hn
    cases f with
    | Call fn args kws p =>
     cases fn with
     | Name x px =>
      match args, kws, h with
      | g :: gs, [], h =>
        simp only [chkE, Bool.and_eq_true, decide_eq_true_eq] at h
        obtain ⟨⟨⟨h1, h2⟩, h3⟩, h4⟩ := h
        subst h1
        have ha := pa_ev G es X (g :: gs) c h3
        have gg := goods_of h3
        refine ⟨fun pins s σ H Q I ⟨α, F, S, ρ, t, S', ok, L, e, q⟩ => ?_⟩
        simp only [ev] at e
        obtain ⟨ts, S1, e1, e⟩ := bnd_inv e
        obtain ⟨e2, rfl⟩ := look_inv e
        refine (pe_blt c (btn_any c.calm c.un b hb.1) (gl_of h2) ha (star_of (gg g (by simp))) (star_any fun f hf => gg f (by simp [hf]))).run pins s σ H Q I ⟨α, F, S, ρ, ts, _, ok, L, e1, fun vs H1 α1 F1 ok1 st1 ip1 _ => ?_⟩
        split at e2
        · rename_i us eu
          have hv := ip1.view ok1 eu
          have hu : ∃ u, us = [u] := by
            obtain ⟨a, rfl⟩ := hb.2
            simp only [evs] at e1
            obtain ⟨x, S1, e3, e1⟩ := bnd_inv e1
            obtain ⟨xs, S2, e4, e1⟩ := bnd_inv e1
            obtain ⟨e5, _⟩ := ret_inv e4
            obtain ⟨e6, _⟩ := ret_inv e1
            subst e5 e6
            unfold viewAll at eu
            split at eu
            · rename_i z zs _ ez
              cases ez; cases eu
              exact ⟨_, rfl⟩
            · cases eu
          obtain ⟨u, rfl⟩ := hu
          exact ⟨α1, F1, _, u, t, ok1, hv, e2, fun p o hp hn => q p o _ α1 F1 (ok1.loose (nc := NewO.nocode (t := t) hn _) hp) (st1.trans (.loose hp)) upd_same hn (ok1.sub.free hp) (ok1.not_cell hp) (none_back st1 hp)⟩
        · cases e2
      | [], [], h => simp [chkE] at h
      | [], _ :: _, h => simp [chkE] at h
      | _ :: _, _ :: _, h => simp [chkE] at h
     | _ => simp [chkE] at h
    | _ => simp [chkE] at h
  | .lc tg it co e, X, f, _, c, h => by
    cases f with
    | ListComp g gens scope p =>
      match gens, h with
      | [⟨t, i, ifs, n⟩], h =>
        simp only [chkE, Bool.and_eq_true, decide_eq_true_eq] at h
        obtain ⟨⟨⟨⟨⟨h0, h1⟩, h2⟩, h3⟩, h4⟩, h5⟩ := h
        subst h0
        have gi : goodF i = true := goodI_of h3
        have hi := pi_ev G it X t i _ c h3 (tup_tg h2)
        have he : ∀ (s : Shared) (H : Hp) (C : Addr) (cl : List (Str × Addr)) (fp : List Addr), PE (X.blk s H scope (compEnvC scope cl C X.env) fp) g (tE X.K G e) := fun s H C cl fp => pe_ev G e (X.blk s H scope (compEnvC scope cl C X.env) fp) g (c.blk ..) h5
        refine pe_lcN c h1 h2 hi gi (fun s H C cl fp => ?_) he
        · cases co with
          | none =>
            cases ifs with
            | nil => exact ⟨fun pins s σ H Q I ⟨α, F, S, ρ, k, S', b, ok, L, e, hb, q⟩ => by
                obtain ⟨rfl, rfl⟩ := ret_inv e
                cases hb
                exact pts_nil.run pins s σ H Q I (q H α F ok .refl)⟩
            | cons d ds => cases ds <;> simp at h4
          | some ce =>
            cases ifs with
            | nil => simp at h4
            | cons d ds =>
              cases ds with
              | nil =>
                have hd : PT (X.blk s H scope (compEnvC scope cl C X.env) fp) d (tTe X.K G ce) := pt_ev G ce (X.blk s H scope (compEnvC scope cl C X.env) fp) d (c.blk ..) (by have z := h4; simp [chkO] at z; exact z)
                exact ⟨fun pins s σ H Q I ⟨α, F, S, ρ, k, S', b, ok, L, e, hb, q⟩ => by
                  simp only [evO] at e
                  obtain ⟨x, S1, e1, e⟩ := bnd_inv e
                  obtain ⟨rfl, rfl⟩ := ret_inv e
                  cases x with
                  | bl b' =>
                    cases hb
                    exact (pts_one hd).run pins s σ H Q I ⟨α, F, S, ρ, _, _, ok, L, e1, q⟩
                  | _ => cases hb⟩
              | cons _ _ => simp at h4
      | [], h => simp [chkE] at h
      | _ :: _ :: _, h => simp [chkE] at h
    | _ => simp [chkE] at h
  | .dc tg it k v, X, f, _, c, h => by
    cases f with
    | DictComp g g2 gens scope p =>
      match gens, h with
      | [⟨t, i, [], n⟩], h =>
        simp only [chkE, Bool.and_eq_true, decide_eq_true_eq] at h
        obtain ⟨⟨⟨⟨⟨h0, h1⟩, h2⟩, h3⟩, h4⟩, h5⟩ := h
        subst h0
        have gi : goodF i = true := goodI_of h3
        have hi := pi_ev G it X t i _ c h3 (tup_tg h2)
        exact pe_dcN c h1 h2 hi gi (fun s H C cl fp => pe_ev G k (X.blk s H scope (compEnvC scope cl C X.env) fp) g (c.blk ..) h4) (fun s H C cl fp => pe_ev G v (X.blk s H scope (compEnvC scope cl C X.env) fp) g2 (c.blk ..) h5)
      | [], h => simp [chkE] at h
      | _ :: _ :: _, h => simp [chkE] at h
      | [⟨t, i, _ :: _, n⟩], h => simp [chkE] at h
    | _ => simp [chkE] at h
  | .int _, X, f, hn, c, h => by simp [newE] at hn
  | .bl _, X, f, hn, c, h => by simp [newE] at hn
  | .non, X, f, hn, c, h => by simp [newE] at hn
  | .str _, X, f, hn, c, h => by simp [newE] at hn
  | .var _, X, f, hn, c, h => by simp [newE] at hn
  | .peek _, X, f, hn, c, h => by simp [newE] at hn
  | .glb _, X, f, hn, c, h => by simp [newE] at hn
  | .bop _ _, X, f, hn, c, h => by simp [newE] at hn
  | .not _, X, f, hn, c, h => by simp [newE] at hn
  | .neg _, X, f, hn, c, h => by simp [newE] at hn
  | .bin _ _ _, X, f, hn, c, h => by simp [newE] at hn
  | .cmp _ _ _, X, f, hn, c, h => by simp [newE] at hn
  | .isN _ _, X, f, hn, c, h => by simp [newE] at hn
  | .chain _ _ _ _ _, X, f, hn, c, h => by simp [newE] at hn
  | .ite _ _ _, X, f, hn, c, h => by simp [newE] at hn
  | .isa _ _, X, f, hn, c, h => by simp [newE] at hn
  | .idx _ _, X, f, hn, c, h => by simp [newE] at hn
  | .slice _ _ _, X, f, hn, c, h => by simp [newE] at hn
  | .tup _, X, f, hn, c, h => by simp [newE] at hn
  | .call _ _, X, f, hn, c, h => by simp [newE] at hn
  | .cel _, X, f, hn, c, h => by simp [newE] at hn
  | .ext _ _, X, f, hn, c, h => by simp [newE] at hn
  | .met _ _ _, X, f, hn, c, h => by simp [newE] at hn
termination_by e => (sizeOf e, 0)
theorem pe_ev (G : Glob) : ∀ (e : Ex) (X : Cx) (f : Expr), CtxOk G X → chkE X.N X.env.scope e f = true → PE X f (tE X.K G e)
  | .int i, X, f, c, h => by
    cases f with
    | Constant k a b =>
      cases k with
      | int j =>
        simp only [chkE, decide_eq_true_eq] at h; subst h
        exact ⟨fun pins s σ H Q I ⟨α, F, S, ρ, t, S', ok, L, e, q⟩ => by
          obtain ⟨rfl, rfl⟩ := ret_inv e
          exact pe_int.run pins s σ H Q I (q _ H α F ok .refl (.inl rfl) fun _ => rfl)⟩
      | _ => simp [chkE] at h
    | _ => simp [chkE] at h
  | .bl i, X, f, c, h => by
    cases f with
    | Constant k a b =>
      cases k with
      | bool j =>
        simp only [chkE, decide_eq_true_eq] at h; subst h
        exact ⟨fun pins s σ H Q I ⟨α, F, S, ρ, t, S', ok, L, e, q⟩ => by
          obtain ⟨rfl, rfl⟩ := ret_inv e
          exact pe_bl.run pins s σ H Q I (q _ H α F ok .refl (.inl rfl) fun _ => rfl)⟩
      | _ => simp [chkE] at h
    | _ => simp [chkE] at h
  | .non, X, f, c, h => by
    cases f with
    | Constant k a b =>
      cases k with
      | none =>
        exact ⟨fun pins s σ H Q I ⟨α, F, S, ρ, t, S', ok, L, e, q⟩ => by
          obtain ⟨rfl, rfl⟩ := ret_inv e
          exact pe_non.run pins s σ H Q I (q _ H α F ok .refl (.inl rfl) fun _ => rfl)⟩
      | _ => simp [chkE] at h
    | _ => simp [chkE] at h
  | .str i, X, f, c, h => by
    cases f with
    | Constant k a b =>
      cases k with
      | str j =>
        simp only [chkE, decide_eq_true_eq] at h; subst h
        exact ⟨fun pins s σ H Q I ⟨α, F, S, ρ, t, S', ok, L, e, q⟩ => by
          obtain ⟨rfl, rfl⟩ := ret_inv e
          exact pe_str.run pins s σ H Q I (q _ H α F ok .refl (.inl rfl) fun _ => rfl)⟩
      | _ => simp [chkE] at h
    | _ => simp [chkE] at h
  | .var i, X, f, c, h => by
    cases f with
    | Name x p =>
      simp only [chkE, Bool.and_eq_true, decide_eq_true_eq] at h
      obtain ⟨⟨h1, h2⟩, h3⟩ := h
      obtain ⟨k1, k2, k3⟩ := okN_of h3
      exact ⟨fun pins s σ H Q I ⟨α, F, S, ρ, t, S', ok, L, e, q⟩ => by
        obtain ⟨e', rfl⟩ := opt_inv e
        obtain ⟨v, e1, e2⟩ := L.var e'
        exact (pe_var h1 (vis_of h2) k1 k2).run pins s σ H Q I ⟨v, e1, q _ H α F ok .refl (.inl e2) fun _ => e2⟩⟩
    | _ => simp [chkE] at h
  | .peek i, X, f, c, h => by
    cases f with
    | Name x p =>
      simp only [chkE, Bool.and_eq_true, decide_eq_true_eq] at h
      obtain ⟨⟨h1, h2⟩, h3⟩ := h
      obtain ⟨k1, k2, k3⟩ := okN_of h3
      exact ⟨fun pins s σ H Q I ⟨α, F, S, ρ, t, S', ok, L, e, q⟩ => by
        obtain ⟨e', rfl⟩ := opt_inv e
        obtain ⟨v, e1, e2⟩ := L.peek e'
        exact (pe_var h1 (vis_of h2) k1 k2).run pins s σ H Q I ⟨v, e1, q _ H α F ok .refl e2 fun z => by cases z⟩⟩
    | _ => simp [chkE] at h
  | .glb y, X, f, c, h => by
    cases f with
    | Name x p =>
      simp only [chkE, Bool.and_eq_true, decide_eq_true_eq] at h
      obtain ⟨⟨h1, h2⟩, h3⟩ := h
      subst h1
      obtain ⟨k1, k2, k3⟩ := okN_of h3
      exact ⟨fun pins s σ H Q I ⟨α, F, S, ρ, t, S', ok, L, e, q⟩ => by
        obtain ⟨e', rfl⟩ := opt_inv e
        obtain ⟨u, v, e1, e2, e3⟩ := c.cst _ _ e'
        have iv : Is X.K α F t v := by
          rcases e3 with ⟨i, rfl, rfl⟩ | ⟨i, rfl, rfl⟩
          · rfl
          · rfl
        exact (pe_glob (gl_of h2) e1 e2 k1).run pins s σ H Q I (q _ H α F ok .refl (.inl iv) fun _ => iv)⟩
    | _ => simp [chkE] at h
  | .bop isAnd es, X, f, c, h => by
    cases f with
    | BoolOp op fs p =>
      simp only [chkE, Bool.and_eq_true, decide_eq_true_eq] at h
      obtain ⟨h1, h2⟩ := h
      subst h1
      have cv : ∀ {m : Env → M T} {g : Expr}, (∀ ρ, ev G (.bop isAnd es) ρ = m ρ) → PE X g (tM X.K m) → PE X g (tE X.K G (.bop isAnd es)) := fun {m g} em hm => ⟨fun pins s σ H Q I ⟨α, F, S, ρ, t, S', ok, L, e, q⟩ =>
        hm.run pins s σ H Q I ⟨α, F, S, ρ, t, S', ok, L, by rw [← em]; exact e, fun v H' α' F' ok' st is' => q v H' α' F' ok' st (.inl is') fun _ => is'⟩⟩
      cases isAnd with
      | true => exact cv (fun ρ => rfl) (pe_and_ev G es X fs p c h2)
      | false => exact cv (fun ρ => rfl) (pe_or_ev G es X fs p c h2)
    | _ => simp [chkE] at h
  | .not a, X, f, c, h => by
    cases f with
    | UnaryOp op g p =>
      cases op with
      | Not =>
        simp only [chkE] at h
        have ha := pe_ev G a X g c h
        exact ⟨fun pins s σ H Q I ⟨α, F, S, ρ, t, S', ok, L, e, q⟩ => by
          simp only [ev] at e
          obtain ⟨x, S1, e1, e⟩ := bnd_inv e
          cases x with
          | bl k =>
            obtain ⟨rfl, rfl⟩ := ret_inv e
            exact (pe_not ha).run pins s σ H Q I ⟨α, F, S, ρ, _, _, ok, L, e1, fun v H' α' F' ok' st ip _ => ⟨k, ip.bl, q _ H' α' F' ok' st (.inl rfl) fun _ => rfl⟩⟩
          | _ => exact (fail_inv e).elim⟩
      | _ => simp [chkE] at h
    | _ => simp [chkE] at h
  | .neg a, X, f, c, h => by
    cases f with
    | UnaryOp op g p =>
      cases op with
      | USub =>
        simp only [chkE] at h
        have ha := pe_ev G a X g c h
        exact ⟨fun pins s σ H Q I ⟨α, F, S, ρ, t, S', ok, L, e, q⟩ => by
          simp only [ev] at e
          obtain ⟨x, S1, e1, e⟩ := bnd_inv e
          obtain ⟨e, rfl⟩ := opt_inv e
          cases x with
          | int k =>
            cases e
            exact (pe_un un_neg ha).run pins s σ H Q I ⟨α, F, S, ρ, _, _, ok, L, e1, fun v H' α' F' ok' st ip _ => ⟨k, ip.int, q _ H' α' F' ok' st (.inl rfl) fun _ => rfl⟩⟩
          | bl b =>
            cases e
            exact (pe_un un_negB ha).run pins s σ H Q I ⟨α, F, S, ρ, _, _, ok, L, e1, fun v H' α' F' ok' st ip _ => ⟨b, ip.bl, q _ H' α' F' ok' st (.inl rfl) fun _ => rfl⟩⟩
          | _ => cases e⟩
      | _ => simp [chkE] at h
    | _ => simp [chkE] at h
  | .bin o a b, X, f, c, h => by
    cases f with
    | BinOp l o' r p =>
      simp only [chkE, Bool.and_eq_true, decide_eq_true_eq] at h
      obtain ⟨⟨h1, h2⟩, h3⟩ := h
      subst h1
      have ha := pe_ev G a X l c h2
      have hb := pe_ev G b X r c h3
      exact ⟨fun pins s σ H Q I ⟨α, F, S, ρ, t, S', ok, L, e, q⟩ => by
        simp only [ev] at e
        obtain ⟨x, S1, e1, e⟩ := bnd_inv e
        obtain ⟨y, S2, e2, e⟩ := bnd_inv e
        obtain ⟨e', rfl⟩ := look_inv e
        refine (pe_op (op_any o) ha hb).run pins s σ H Q I ⟨α, F, S, ρ, x, S1, ok, L, e1, fun v1 H1 α1 F1 ok1 st1 ip1 _ => ⟨α1, F1, S1, ρ, y, _, ok1, L.step st1, e2, fun v2 H2 α2 F2 ok2 st2 ip2 _ => ?_⟩⟩
        split at e'
        · rename_i x' y' ex ey
          exact ⟨α2, F2, _, x', y', t, ok2, (ip1.step st2).view ok2 ex, ip2.view ok2 ey, e', fun v H' F' ok' st' is' => q v H' α2 F' ok' ((st1.trans st2).trans st') (.inl is') fun _ => is'⟩
        · cases e'⟩
    | _ => simp [chkE] at h
  | .cmp o a b, X, f, c, h => by
    cases f with
    | Compare l ops rs p =>
      match ops, rs, h with
      | [o'], [r], h =>
        simp only [chkE, Bool.and_eq_true, decide_eq_true_eq] at h
        obtain ⟨⟨h1, h2⟩, h3⟩ := h
        subst h1
        have ha := pe_ev G a X l c h2
        have hb := pe_ev G b X r c h3
        exact ⟨fun pins s σ H Q I h => (pe_cmpR (cmp_any (by have := c.un; omega) o) ha hb (beh_of (good_of h3))).run pins s σ H Q I (cmp_read h)⟩
      | [], _, h => simp [chkE] at h
      | [_], [], h => simp [chkE] at h
      | [_], _ :: _ :: _, h => simp [chkE] at h
      | _ :: _ :: _, _, h => simp [chkE] at h
    | _ => simp [chkE] at h
  | .isN neg a, X, f, c, h => by
    cases f with
    | Compare l ops rs p =>
      match ops, rs, h with
      | [o'], [r], h =>
        cases r with
        | Constant k k1 k2 =>
          cases k with
          | none =>
            simp only [chkE, Bool.and_eq_true, decide_eq_true_eq] at h
            obtain ⟨h1, h2⟩ := h
            have ha := pe_ev G a X l c h2
            cases neg with
            | false => subst h1; exact ⟨fun pins s σ H Q I h => (pe_cmp (pc_isN ha) (beh_of rfl)).run pins s σ H Q I (isN_read h)⟩
            | true => subst h1; exact ⟨fun pins s σ H Q I h => (pe_cmp (pc_notN ha) (beh_of rfl)).run pins s σ H Q I (notN_read h)⟩
          | _ => simp [chkE] at h
        | _ => simp [chkE] at h
      | [], _, h => simp [chkE] at h
      | _ :: _ :: _, _, h => simp [chkE] at h
      | [o'], [], h => simp [chkE] at h
      | [o'], _ :: _ :: _, h => simp [chkE] at h
    | _ => simp [chkE] at h
  | .chain o o2 a b d, X, f, c, h => by
    cases f with
    | Compare l ops rs p =>
      match ops, rs, h with
      | [o', p'], [m, r], h =>
        simp only [chkE, Bool.and_eq_true, decide_eq_true_eq] at h
        obtain ⟨⟨⟨⟨⟨⟨⟨h1, h2⟩, h3⟩, h4⟩, h5⟩, s1⟩, s2⟩, s3⟩ := h
        subst h1 h2
        have ha := pe_ev G a X l c h3
        have hb := pe_ev G b X m c h4
        have hd := pe_ev G d X r c h5
        have un := c.un
        exact ⟨fun pins s σ H Q I h => (pe_chain (cmp_any (by omega) o) (cmp_any (by omega) o2) ha hb hd (last_of (good_of h5))).run pins s σ H Q I (chain_read s1 s2 s3 h)⟩
      | [], _, h => simp [chkE] at h
      | [_], _, h => simp [chkE] at h
      | _ :: _ :: _ :: _, _, h => simp [chkE] at h
      | [_, _], [], h => simp [chkE] at h
      | [_, _], [_], h => simp [chkE] at h
      | [_, _], _ :: _ :: _ :: _, h => simp [chkE] at h
    | _ => simp [chkE] at h
  | .ite d a b, X, f, c, h => by
    cases f with
    | IfExp t x y p =>
      simp only [chkE, Bool.and_eq_true] at h
      obtain ⟨⟨h1, h2⟩, h3⟩ := h
      have hd := pt_ev G d X t c h1
      have ha := pe_ev G a X x c h2
      have hb := pe_ev G b X y c h3
      refine ⟨fun pins s σ H Q I ⟨α, F, S, ρ, t, S', ok, L, e, q⟩ => ?_⟩
      simp only [ev] at e
      obtain ⟨x, S1, e1, e⟩ := bnd_inv e
      cases x with
      | bl k =>
        refine (pe_ifExp hd ha hb).run pins s σ H Q I ⟨α, F, S, ρ, k, S1, ok, L, e1, fun H1 α1 F1 ok1 st1 => ?_⟩
        cases k with
        | true =>
          simp only [if_true] at e ⊢
          by_cases hs : a.strict = true
          · rw [if_pos hs] at e
            exact ⟨α1, F1, S1, ρ, t, S', ok1, L.step st1, e, fun v H' α' F' ok' st' _ is' => q v H' α' F' ok' (st1.trans st') (.inl (is' hs)) fun _ => is' hs⟩
          · rw [if_neg hs] at e; exact (fail_inv e).elim
        | false =>
          simp only [Bool.false_eq_true, if_false] at e ⊢
          by_cases hs : b.strict = true
          · rw [if_pos hs] at e
            exact ⟨α1, F1, S1, ρ, t, S', ok1, L.step st1, e, fun v H' α' F' ok' st' _ is' => q v H' α' F' ok' (st1.trans st') (.inl (is' hs)) fun _ => is' hs⟩
          · rw [if_neg hs] at e; exact (fail_inv e).elim
      | _ => exact (fail_inv e).elim
    | _ => simp [chkE] at h
  | .isa a ts, X, f, c, h => by
    cases f with
    | Call fn args kws p =>
     cases fn with
     | Name x px =>
      match args, kws, h with
      | [g, hh], [], h =>
        simp only [chkE, Bool.and_eq_true, decide_eq_true_eq] at h
        obtain ⟨⟨⟨⟨h1, h2⟩, h3⟩, h4⟩, h5⟩ := h
        subst h1
        have ha := pe_ev G a X g c h3
        have hm : X.mg ("isinstance" : Str) = none := c.free _ (by decide +kernel)
        have gg := good_of h3
        refine ⟨fun pins s σ H Q I ⟨α, F, S, ρ, t, S', ok, L, e, q⟩ => ?_⟩
        simp only [ev] at e
        obtain ⟨x, S1, e1, e⟩ := bnd_inv e
        obtain ⟨e2, rfl⟩ := opt_inv e
        simp only [Option.map_eq_some_iff] at e2
        obtain ⟨k, e2, rfl⟩ := e2
        have tyn : (∃ n, tyN x = some n) ∨ ts = [] := by
          cases ts with
          | nil => exact .inr rfl
          | cons y ys =>
            unfold anyTy at e2
            split at e2
            · rename_i a' c' ha' hc'
              obtain ⟨n, hn, _⟩ := isa_kit ha'
              exact .inl ⟨n, hn⟩
            · cases e2
        match ts, h5, e2, tyn with
        | [y], h5, e2, tyn =>
          obtain ⟨n, hn⟩ : ∃ n, tyN x = some n := by
            rcases tyn with z | z
            · exact z
            · cases z
          have hT := pa_tys c h5
          have gh : goodF hh = true := by
            simp only [chkTys] at h5
            cases hh <;> simp at h5 <;> rfl
          refine (pe_callB call_isi (gl_of h2) hm boot_isinstance (pa_cons ha hT (star_of gg)) (by decide) (by decide) (star_of gg) (star_any (by intro f hf; simp at hf; subst hf; exact gh))).run pins s σ H Q I
            ⟨α, F, S, ρ, x, _, ok, L, e1, fun v H1 α1 F1 ok1 st1 ip1 _ => ⟨v, .ty y.nm, .type n, .type y.nm, k, rfl, .ty _, tyX_of ok1 ip1 hn, ?_, q _ H1 α1 F1 ok1 st1 (.inl rfl) fun _ => rfl⟩⟩
          unfold anyTy at e2
          split at e2
          · rename_i a' c' ha' hc'
            cases hc'; cases e2
            obtain ⟨m, hm', hk⟩ := isa_kit ha'
            rw [hn] at hm'; cases hm'
            rw [Bool.or_false]
            exact kit_ty hk
          · cases e2
        | [], h5, e2, tyn =>
          exfalso
          cases hh with
          | Tuple hs kk pp =>
            simp only [Bool.and_eq_true, decide_eq_true_eq] at h5
            obtain ⟨⟨z, z2⟩, _⟩ := h5
            cases hs with
            | nil => simp at z2
            | cons _ _ => simp [chkTys] at z
          | _ => simp at h5
        | y1 :: y2 :: ys, h5, e2, tyn =>
          obtain ⟨n, hn⟩ : ∃ n, tyN x = some n := by
            rcases tyn with z | z
            · exact z
            · cases z
          cases hh with
          | Tuple hs kk pp =>
            simp only [Bool.and_eq_true, decide_eq_true_eq] at h5
            have hT := pa_tys c h5.1.1
            have hlen : (y1 :: y2 :: ys).length = hs.length := by
              have : ∀ (ys : List Ty) (hs : List Expr), chkTys X.env.scope ys hs = true → ys.length = hs.length := by
                intro ys
                induction ys with
                | nil => intro hs h; cases hs with
                  | nil => rfl
                  | cons _ _ => simp [chkTys] at h
                | cons y ys ih => intro hs h; cases hs with
                  | nil => simp [chkTys] at h
                  | cons f fs => simp only [chkTys, Bool.and_eq_true] at h; simp [ih fs h.2]
              exact this _ _ h5.1.1
            refine (pe_callB call_isiT (gl_of h2) hm boot_isinstance (pa_cons ha (pa_cons (pe_tup hT) pa_nil) (star_of gg)) (by decide) (by decide) (star_of gg) (star_any (by intro f hf; simp at hf; subst hf; rfl))).run pins s σ H Q I
              ⟨α, F, S, ρ, x, _, ok, L, e1, fun v H1 α1 F1 ok1 st1 ip1 _ => ⟨?_, fun tp htp => ?_⟩⟩
            · rw [List.length_map, hlen]
              have : (10 : Nat) ≤ sizeLine := by rw [sizeLine_eq]; decide
              omega
            · have ok2 := ok1.loose (o := .tup ((y1 :: y2 :: ys).map fun y => V.ty y.nm)) htp
              have st2 : Step α1 F1 H1 α1 F1 (upd H1 tp (.tup ((y1 :: y2 :: ys).map fun y => V.ty y.nm))) := .loose htp
              refine ⟨v, tp, _, .type n, (y1 :: y2 :: ys).map fun y => Value.type y.nm, k, rfl, upd_same, ?_, tyX_of ok2 (ip1.step st2) hn, any_kit hn e2, q _ _ α1 F1 ok2 (st1.trans st2) (.inl rfl) fun _ => rfl⟩
              have : ∀ l : List Ty, Paired ClsV (l.map fun y => V.ty y.nm) (l.map fun y => Value.type y.nm) := by
                intro l
                induction l with
                | nil => exact .nil
                | cons y ys ih => exact .cons (.ty _) ih
              exact this _
          | _ => simp at h5
      | [], _, h => simp [chkE] at h
      | [_], _, h => simp [chkE] at h
      | _ :: _ :: _ :: _, _, h => simp [chkE] at h
      | [_, _], _ :: _, h => simp [chkE] at h
     | _ => simp [chkE] at h
    | _ => simp [chkE] at h
  | .idx a b, X, f, c, h => by
    cases f with
    | Subscript l r p =>
      simp only [chkE, Bool.and_eq_true] at h
      have ha := pe_ev G a X l c h.1
      have hb := pe_ev G b X r c h.2
      have un := c.un
      refine ⟨fun pins s σ H Q I ⟨α, F, S, ρ, t, S', ok, L, e, q⟩ => ?_⟩
      simp only [ev] at e
      obtain ⟨x, S1, e1, e⟩ := bnd_inv e
      obtain ⟨y, S2, e2, e⟩ := bnd_inv e
      obtain ⟨e3, rfl⟩ := look_inv e
      refine (pe_ix (ix_any (by omega)) ha hb (plain_ix (good_of h.2))).run pins s σ H Q I ⟨α, F, S, ρ, x, S1, ok, L, e1, fun v1 H1 α1 F1 ok1 st1 ip1 _ => ⟨α1, F1, S1, ρ, y, _, ok1, L.step st1, e2, fun v2 H2 α2 F2 ok2 st2 ip2 _ => ?_⟩⟩
      split at e3
      · rename_i x' ex
        exact ⟨α2, F2, _, x', y, t, ok2, (ip1.step st2).view ok2 ex, ip2, e3, fun v is' => q v H2 α2 F2 ok2 (st1.trans st2) (.inl is') fun _ => is'⟩
      · cases e3
    | _ => simp [chkE] at h
  | .slice a lo hi, X, f, c, h => by
    cases f with
    | Subscript l r p =>
      cases r with
      | Slice x y z p2 =>
        cases z with
        | none =>
          simp only [chkE, Bool.and_eq_true] at h
          have ha := pe_ev G a X l c h.1.1
          have hl := po_ev G lo X x c h.1.2
          have hh := po_ev G hi X y c h.2
          refine ⟨fun pins s σ H Q I ⟨α, F, S, ρ, t, S', ok, L, e, q⟩ => ?_⟩
          simp only [ev] at e
          obtain ⟨x, S1, e1, e⟩ := bnd_inv e
          obtain ⟨l1, S2, e2, e⟩ := bnd_inv e
          obtain ⟨l2, S3, e3, e7⟩ := bnd_inv e
          obtain ⟨p1, S4, e4, e8⟩ := bnd_inv e7
          obtain ⟨p2, S5, e5, e9⟩ := bnd_inv e8
          obtain ⟨e4', z4⟩ := opt_inv e4
          obtain ⟨e5', z5⟩ := opt_inv e5
          subst z4
          subst z5
          obtain ⟨e6, rfl⟩ := look_inv e9
          refine (pe_slice sl_any ha hl hh).run pins s σ H Q I ⟨α, F, S, ρ, x, S1, ok, L, e1, fun v1 H1 α1 F1 ok1 st1 ip1 _ => ⟨α1, F1, S1, ρ, l1, S2, p1, ok1, L.step st1, e2, e4', fun H2 α2 F2 ok2 st2 =>
            ⟨α2, F2, S2, ρ, l2, _, p2, ok2, (L.step st1).step st2, e3, e5', fun H3 α3 F3 ok3 st3 => ?_⟩⟩⟩
          split at e6
          · rename_i x' ex
            exact ⟨α3, F3, _, x', t, ok3, ((ip1.step st2).step st3).view ok3 ex, e6, fun v H' F' ok' st' is' => q v H' α3 F' ok' (((st1.trans st2).trans st3).trans st') (.inl is') fun _ => is'⟩
          · cases e6
        | some _ => simp [chkE] at h
      | _ => simp [chkE] at h
    | _ => simp [chkE] at h
  | .tup es, X, f, c, h => by
    cases f with
    | Tuple fs k p =>
      simp only [chkE, Bool.and_eq_true, decide_eq_true_eq] at h
      have ha := pa_ev G es X fs c h.1
      refine ⟨fun pins s σ H Q I ⟨α, F, S, ρ, t, S', ok, L, e, q⟩ => ?_⟩
      simp only [ev] at e
      by_cases hs : strictAll es = true
      · rw [if_pos hs] at e
        obtain ⟨ts, S1, e1, e⟩ := bnd_inv e
        obtain ⟨rfl, rfl⟩ := ret_inv e
        refine (pe_tup ha).run pins s σ H Q I ⟨α, F, S, ρ, ts, _, ok, L, e1, fun vs H1 α1 F1 ok1 st1 _ is1 => ⟨?_, fun p hp => ?_⟩⟩
        · rw [← (is1 hs).length, evs_len e1 h.1]
          have := line1000
          omega
        · obtain ⟨o1, o2, o3⟩ := yield_tup ok1 (is1 hs) hp
          exact q _ _ α1 _ o1 (st1.trans o2) (.inl o3) fun _ => o3
      · rw [if_neg hs] at e; exact (fail_inv e).elim
    | _ => simp [chkE] at h
  | .lst es, X, f, c, h => pe_new (pn_ev G (.lst es) X f rfl c h)
  | .cel e, X, f, c, h => by
    simp only [chkE, Bool.and_eq_true] at h
    exact pe_cel (pn_ev G e X f h.1 c h.2)
  | .sset e, X, f, c, h => pe_new (pn_ev G (.sset e) X f rfl c h)
  | .met m o a, X, f, c, h => by
    rw [chkE.eq_def] at h
    simp only at h
    split at h
    · rename_i y p0 n p g pos
      simp only [Bool.and_eq_true, decide_eq_true_eq] at h
      obtain ⟨⟨⟨h1, h2⟩, h3⟩, h4⟩ := h
      subst h1
      exact pe_metN G m o a X y p0 p pos g c h2 (pe_ev G o X _ c h3) (good_of h4) (pe_ev G a X g c h4)
    · cases h
  | .ext x e, X, f, c, h => by
    rw [chkE.eq_def] at h
    simp only at h
    split at h
    · rename_i g hs
      simp only [Bool.and_eq_true] at h
      obtain ⟨h0, h⟩ := h
      by_cases hx : x = .lsc
      · subst hx
        cases e with
        | lc tg it co e' =>
          unfold subX at hs
          simp only at hs
          split at hs
          · split at hs
            · rename_i n1 p1 g1 gens scope p pos hb
              cases hs
              simp only [Bool.and_eq_true, decide_eq_true_eq] at hb
              obtain ⟨rfl, h2⟩ := hb
              match gens, h with
              | [⟨t, i, ifs, n⟩], h =>
                simp only [chkE, Bool.and_eq_true, decide_eq_true_eq] at h
                obtain ⟨⟨⟨⟨⟨h0, h1⟩, h2'⟩, h3⟩, h4⟩, h5⟩ := h
                subst h0
                have gi : goodF i = true := goodI_of h3
                have hi := pi_ev G it X t i _ c h3 (tup_tg h2')
                have he : ∀ (s : Shared) (H : Hp) (C : Addr) (cl : List (Str × Addr)) (fp : List Addr), PE (X.blk s H scope (compEnvC scope cl C X.env) fp) g1 (tE X.K G e') := fun s H C cl fp => pe_ev G e' (X.blk s H scope (compEnvC scope cl C X.env) fp) g1 (c.blk ..) h5
                refine pe_lscN c (gl_of h2) (c.free _ (by decide +kernel)) h1 h2' hi gi (fun s H C cl fp => ?_) he
                · cases co with
                  | none =>
                    cases ifs with
                    | nil => exact ⟨fun pins s σ H Q I ⟨α, F, S, ρ, k, S', b, ok, L, e, hb, q⟩ => by
                        obtain ⟨rfl, rfl⟩ := ret_inv e
                        cases hb
                        exact pts_nil.run pins s σ H Q I (q H α F ok .refl)⟩
                    | cons d ds => cases ds <;> simp at h4
                  | some ce =>
                    cases ifs with
                    | nil => simp at h4
                    | cons d ds =>
                      cases ds with
                      | nil =>
                        have hd : PT (X.blk s H scope (compEnvC scope cl C X.env) fp) d (tTe X.K G ce) := pt_ev G ce (X.blk s H scope (compEnvC scope cl C X.env) fp) d (c.blk ..) (by have z := h4; simp [chkO] at z; exact z)
                        exact ⟨fun pins s σ H Q I ⟨α, F, S, ρ, k, S', b, ok, L, e, hb, q⟩ => by
                          simp only [evO] at e
                          obtain ⟨x, S1, e1, e⟩ := bnd_inv e
                          obtain ⟨rfl, rfl⟩ := ret_inv e
                          cases x with
                          | bl b' =>
                            cases hb
                            exact (pts_one hd).run pins s σ H Q I ⟨α, F, S, ρ, _, _, ok, L, e1, q⟩
                          | _ => cases hb⟩
                      | cons _ _ => simp at h4
              | [], h => simp [chkE] at h
              | _ :: _ :: _, h => simp [chkE] at h
            · cases hs
          · cases hs
        | _ => simp [extOk] at h0
      · by_cases hx2 : x = .dzip
        · subst hx2
          cases e with
          | tup es =>
            cases es with
            | nil => simp [extOk] at h0
            | cons a es2 =>
            cases es2 with
            | nil => simp [extOk] at h0
            | cons b es3 =>
            cases es3 with
            | cons _ _ => simp [extOk] at h0
            | nil =>
              unfold subX at hs
              simp only at hs
              split at hs
              · split at hs
                · rename_i n1 p1 n2 p2 g1 g2 q pos hb
                  cases hs
                  simp only [Bool.and_eq_true, decide_eq_true_eq] at hb
                  obtain ⟨⟨⟨rfl, h2⟩, rfl⟩, h4⟩ := hb
                  simp only [chkE, chkEs, Bool.and_eq_true] at h
                  exact pe_dzipN c (gl_of h2) (gl_of h4) (pe_ev G a X g1 c h.1.1) (good_of h.1.1) (pe_ev G b X g2 c h.1.2.1) (good_of h.1.2.1)
                · cases hs
              · cases hs
          | _ => simp [extOk] at h0
        · by_cases hx3 : x = .slen
          · subst hx3
            have ha := pe_ev G e X g c h
            have gg := good_of h
            unfold subX at hs
            simp only at hs
            split at hs
            · split at hs
              · rename_i n1 p1 g1 kk params body lsc pl kp pos hb
                cases hs
                simp only [Bool.and_eq_true, decide_eq_true_eq, Option.isSome_iff_exists] at hb
                obtain ⟨⟨⟨rfl, h2⟩, rfl⟩, y, hy⟩ := hb
                exact pe_slenN c (gl_of h2) hy gg ha
              · cases hs
            · cases hs
          · exact pe_extN G x e X f g c hx hx2 hx3 hs (good_of h) (pe_ev G e X g c h)
    · cases h
  | .blt b es, X, f, c, h => by
    cases f with
    | Call fn args kws p =>
     cases fn with
     | Name x px =>
      match args, kws, h with
      | g :: gs, [], h =>
        simp only [chkE, Bool.and_eq_true, decide_eq_true_eq] at h
        obtain ⟨⟨⟨h1, h2⟩, h3⟩, h4⟩ := h
        subst h1
        have ha := pa_ev G es X (g :: gs) c h3
        have gg := goods_of h3
        refine ⟨fun pins s σ H Q I ⟨α, F, S, ρ, t, S', ok, L, e, q⟩ => ?_⟩
        simp only [ev] at e
        obtain ⟨ts, S1, e1, e⟩ := bnd_inv e
        obtain ⟨e2, rfl⟩ := look_inv e
        refine (pe_blt c (bt_any c.calm c.un b) (gl_of h2) ha (star_of (gg g (by simp))) (star_any fun f hf => gg f (by simp [hf]))).run pins s σ H Q I ⟨α, F, S, ρ, ts, _, ok, L, e1, fun vs H1 α1 F1 ok1 st1 ip1 _ => ?_⟩
        split at e2
        · rename_i us eu
          exact ⟨α1, F1, _, us, t, ok1, ip1.view ok1 eu, e2, fun v H' F' ok' st' is' => q v H' α1 F' ok' (st1.trans st') (.inl is') fun _ => is'⟩
        · cases e2
      | [], [], h => simp [chkE] at h
      | [], _ :: _, h => simp [chkE] at h
      | _ :: _, _ :: _, h => simp [chkE] at h
     | _ => simp [chkE] at h
    | _ => simp [chkE] at h
  | .call g es, X, f, c, h => by
    cases f with
    | Call fn args kws p =>
     cases fn with
     | Name x px =>
      match kws, h with
      | [], h =>
        simp only [chkE, Bool.and_eq_true, decide_eq_true_eq] at h
        obtain ⟨⟨⟨h1, h2⟩, h3⟩, h4⟩ := h
        subst h1
        have ha := pa_ev G es X args c h4
        have gg := goods_of h4
        obtain ⟨k1, _, _⟩ := okN_of h3
        refine ⟨fun pins s σ H Q I ⟨α, F, S, ρ, t, S', ok, L, e, q⟩ => ?_⟩
        simp only [ev] at e
        by_cases hs : strictAll es = true
        · rw [if_pos hs] at e
          obtain ⟨ts, S1, e1, e⟩ := bnd_inv e
          obtain ⟨a, fd, ps, k, hm, hk, Fo, hr, hb, hn⟩ := (c.fn x ⟨ts, S1, t, S', e⟩).ex
          have len := hn _ _ _ _ e
          have fin : tA X.K G es σ H fun vs H1 => spF X.K ps.length (G.fn x) (vs ++ []) H1 Q E0 := ⟨α, F, S, ρ, ts, S1, ok, L, e1, fun vs H1 α1 F1 ok1 st1 _ is1 => by
            show spF X.K ps.length (G.fn x) (vs ++ []) H1 Q E0
            rw [List.append_nil]
            exact ⟨α1, F1, S1, ts, t, S', by rw [← (is1 hs).length]; exact len, ok1, is1 hs, e, fun v H' α' F' ok' st' is' => q v H' α' F' ok' (st1.trans st') (.inl is') fun _ => is'⟩⟩
          cases args with
          | nil =>
            have fin0 : tNil σ H fun vs H1 => spF X.K ps.length (G.fn x) (vs ++ []) H1 Q E0 := by
              cases es with
              | nil =>
                obtain ⟨α, F, S, ρ, ts, S1, ok, L, e1, q⟩ := fin
                obtain ⟨rfl, rfl⟩ := ret_inv e1
                exact q [] H α F ok .refl rfl fun _ => rfl
              | cons _ _ => simp [chkEs] at h4
            exact (pe_call0 Fo hr (gl_of h2) hm hk hb .nil pass0 k1).run pins s σ H Q I fin0
          | cons g gs => exact (pe_call Fo hr (gl_of h2) hm hk hb .nil pass0 ha k1 (star_of (gg g (by simp))) (star_any fun f hf => gg f (by simp [hf]))).run pins s σ H Q I fin
        · rw [if_neg hs] at e; exact (fail_inv e).elim
      | _ :: _, h => simp [chkE] at h
     | _ => simp [chkE] at h
    | _ => simp [chkE] at h
  | .lc tg it co e, X, f, c, h => pe_new (pn_ev G (.lc tg it co e) X f rfl c h)
  | .dc tg it k v, X, f, c, h => pe_new (pn_ev G (.dc tg it k v) X f rfl c h)
termination_by e => (sizeOf e, 1)
theorem pa_ev (G : Glob) : ∀ (es : Exs) (X : Cx) (fs : List Expr), CtxOk G X → chkEs X.N X.env.scope es fs = true → PA X fs (tA X.K G es)
  | .nil, X, fs, c, h => by
    cases fs with
    | nil => exact ⟨fun pos pins s σ H Q I ⟨α, F, S, ρ, ts, S', ok, L, e, q⟩ => by
        obtain ⟨rfl, rfl⟩ := ret_inv e
        exact pa_nil.run pos pins s σ H Q I (q [] H α F ok .refl rfl fun _ => rfl)⟩
    | cons _ _ => simp [chkEs] at h
  | .cons e es, X, fs, c, h => by
    cases fs with
    | nil => simp [chkEs] at h
    | cons f fs =>
      simp only [chkEs, Bool.and_eq_true] at h
      have ha := pe_ev G e X f c h.1
      have hb := pa_ev G es X fs c h.2
      refine ⟨fun pos pins s σ H Q I ⟨α, F, S, ρ, ts, S', ok, L, ee, q⟩ => ?_⟩
      simp only [evs] at ee
      obtain ⟨x, S1, e1, ee⟩ := bnd_inv ee
      obtain ⟨xs, S2, e2, ee⟩ := bnd_inv ee
      obtain ⟨rfl, rfl⟩ := ret_inv ee
      refine (pa_cons ha hb (star_of (good_of h.1))).run pos pins s σ H Q I ⟨α, F, S, ρ, x, S1, ok, L, e1, fun v H1 α1 F1 ok1 st1 ip1 is1 => ⟨α1, F1, S1, ρ, xs, _, ok1, L.step st1, e2, fun vs H2 α2 F2 ok2 st2 ip2 is2 => ?_⟩⟩
      refine q _ H2 α2 F2 ok2 (st1.trans st2) ⟨v, vs, rfl, ip1.step st2, ip2⟩ fun hs => ?_
      simp only [strictAll, Bool.and_eq_true] at hs
      exact ⟨v, vs, rfl, st2.is (is1 hs.1), is2 hs.2⟩
termination_by es => (sizeOf es, 0)
theorem po_ev (G : Glob) : ∀ (o : Oe) (X : Cx) (f : Option Expr), CtxOk G X → chkO X.N X.env.scope o f = true → PO X f (tPO X.K G o)
  | .none, X, f, c, h => by
    cases f with
    | none => exact ⟨fun pins s σ H Q I ⟨α, F, S, ρ, l, S', p, ok, L, e, hp, q⟩ => by
        obtain ⟨rfl, rfl⟩ := ret_inv e
        cases hp
        exact po_none.run pins s σ H Q I (q H α F ok .refl)⟩
    | some _ => simp [chkO] at h
  | .some e, X, f, c, h => by
    cases f with
    | none => simp [chkO] at h
    | some f =>
      simp only [chkO] at h
      have ha := pe_ev G e X f c h
      refine ⟨fun pins s σ H Q I ⟨α, F, S, ρ, l, S', p, ok, L, ee, hp, q⟩ => ?_⟩
      simp only [evO] at ee
      obtain ⟨x, S1, e1, ee⟩ := bnd_inv ee
      obtain ⟨rfl, rfl⟩ := ret_inv ee
      cases x with
      | int i =>
        cases hp
        exact (po_some ha).run pins s σ H Q I ⟨α, F, S, ρ, _, _, ok, L, e1, fun v H1 α1 F1 ok1 st1 ip1 _ => ⟨i, ip1.int, q H1 α1 F1 ok1 st1⟩⟩
      | _ => cases hp
termination_by o => (sizeOf o, 0)
theorem pi_ev (G : Glob) : ∀ (it : Itr) (X : Cx) (tg f : Expr) (tup : Bool), CtxOk G X → chkI X.N X.env.scope tup it f = true → (tup = true → ∃ es k p, tg = .Tuple es k p) → PI X tg f (tI X.K G it)
  | .seq e, X, tg, f, tup, c, h, ht => by
    simp only [chkI] at h
    exact pi_seqT (pe_ev G e X f c h)
  | .rng1 a, X, tg, f, tup, c, h, ht => by
    cases f with
    | Call fn args kws p =>
     cases fn with
     | Name x px =>
      match args, kws, h with
      | [g], [], h =>
        simp only [chkI, Bool.and_eq_true, decide_eq_true_eq] at h
        obtain ⟨⟨h1, h2⟩, h3⟩ := h
        subst h1
        exact pi_rng1T c (gl_of h2) (pe_ev G a X g c h3) (good_of h3)
      | [], _, h => simp [chkI] at h
      | _ :: _ :: _, _, h => simp [chkI] at h
      | [_], _ :: _, h => simp [chkI] at h
     | _ => simp [chkI] at h
    | _ => simp [chkI] at h
  | .rng2 a b, X, tg, f, tup, c, h, ht => by
    cases f with
    | Call fn args kws p =>
     cases fn with
     | Name x px =>
      match args, kws, h with
      | [g, i], [], h =>
        simp only [chkI, Bool.and_eq_true, decide_eq_true_eq] at h
        obtain ⟨⟨⟨h1, h2⟩, h3⟩, h4⟩ := h
        subst h1
        exact pi_rng2T c (gl_of h2) (pe_ev G a X g c h3) (good_of h3) (pe_ev G b X i c h4) (good_of h4)
      | [], _, h => simp [chkI] at h
      | [_], _, h => simp [chkI] at h
      | _ :: _ :: _ :: _, _, h => simp [chkI] at h
      | [_, _], _ :: _, h => simp [chkI] at h
     | _ => simp [chkI] at h
    | _ => simp [chkI] at h
  | .enum a, X, tg, f, tup, c, h, ht => by
    cases f with
    | Call fn args kws p =>
     cases fn with
     | Name x px =>
      match args, kws, h with
      | [g], [], h =>
        simp only [chkI, Bool.and_eq_true, decide_eq_true_eq] at h
        obtain ⟨⟨⟨h0, h1⟩, h2⟩, h3⟩ := h
        subst h1
        obtain ⟨es, k, p', rfl⟩ := ht h0
        exact pi_enumT c (gl_of h2) (pe_ev G a X g c h3) (good_of h3)
      | [], _, h => simp [chkI] at h
      | _ :: _ :: _, _, h => simp [chkI] at h
      | [_], _ :: _, h => simp [chkI] at h
     | _ => simp [chkI] at h
    | _ => simp [chkI] at h
  | .zip2 a b, X, tg, f, tup, c, h, ht => by
    cases f with
    | Call fn args kws p =>
     cases fn with
     | Name x px =>
      match args, kws, h with
      | [g, i], [], h =>
        simp only [chkI, Bool.and_eq_true, decide_eq_true_eq] at h
        obtain ⟨⟨⟨⟨h0, h1⟩, h2⟩, h3⟩, h4⟩ := h
        subst h1
        obtain ⟨es, k, p', rfl⟩ := ht h0
        exact pi_zip2T c (gl_of h2) (pe_ev G a X g c h3) (good_of h3) (pe_ev G b X i c h4) (good_of h4)
      | [], _, h => simp [chkI] at h
      | [_], _, h => simp [chkI] at h
      | _ :: _ :: _ :: _, _, h => simp [chkI] at h
      | [_, _], _ :: _, h => simp [chkI] at h
     | _ => simp [chkI] at h
    | _ => simp [chkI] at h
  | .zip3 a b d, X, tg, f, tup, c, h, ht => by
    cases f with
    | Call fn args kws p =>
     cases fn with
     | Name x px =>
      match args, kws, h with
      | [g, i, j], [], h =>
        simp only [chkI, Bool.and_eq_true, decide_eq_true_eq] at h
        obtain ⟨⟨⟨⟨⟨h0, h1⟩, h2⟩, h3⟩, h4⟩, h5⟩ := h
        subst h1
        obtain ⟨es, k, p', rfl⟩ := ht h0
        exact pi_zip3T c (gl_of h2) (pe_ev G a X g c h3) (good_of h3) (pe_ev G b X i c h4) (good_of h4) (pe_ev G d X j c h5) (good_of h5)
      | [], _, h => simp [chkI] at h
      | [_], _, h => simp [chkI] at h
      | [_, _], _, h => simp [chkI] at h
      | _ :: _ :: _ :: _ :: _, _, h => simp [chkI] at h
      | [_, _, _], _ :: _, h => simp [chkI] at h
     | _ => simp [chkI] at h
    | _ => simp [chkI] at h
termination_by it => (sizeOf it, 0)
theorem pt_ev (G : Glob) : ∀ (e : Ex) (X : Cx) (f : Expr), CtxOk G X → chkE X.N X.env.scope e f = true → PT X f (tTe X.K G e)
  | .not a, X, f, c, h => by
    cases f with
    | UnaryOp op g p =>
      cases op with
      | Not =>
        simp only [chkE] at h
        have ha := pt_ev G a X g c h
        refine ⟨fun pins s σ H Q I ⟨α, F, S, ρ, k, S', ok, L, e, q⟩ => ?_⟩
        simp only [ev] at e
        obtain ⟨x, S1, e1, e⟩ := bnd_inv e
        cases x with
        | bl b =>
          obtain ⟨er, rfl⟩ := ret_inv e
          cases er
          exact (pt_not ha).run pins s σ H Q I ⟨α, F, S, ρ, b, _, ok, L, e1, q⟩
        | _ => exact (fail_inv e).elim
      | _ => simp [chkE] at h
    | _ => simp [chkE] at h
  | .bop isAnd es, X, f, c, h => by
    cases f with
    | BoolOp op fs p =>
      simp only [chkE, Bool.and_eq_true, decide_eq_true_eq] at h
      obtain ⟨h1, h2⟩ := h
      subst h1
      cases isAnd with
      | true => exact (pw_and_ev G es X fs p c h2).pt
      | false => exact (pw_or_ev G es X fs p c h2).pt
    | _ => simp [chkE] at h
  | .ite d a b, X, f, c, h => by
    cases f with
    | IfExp t x y p =>
      simp only [chkE, Bool.and_eq_true] at h
      obtain ⟨⟨h1, h2⟩, h3⟩ := h
      have hd := pt_ev G d X t c h1
      have ha := pt_ev G a X x c h2
      have hb := pt_ev G b X y c h3
      refine ⟨fun pins s σ H Q I ⟨α, F, S, ρ, t, S', ok, L, e, q⟩ => ?_⟩
      simp only [ev] at e
      obtain ⟨x, S1, e1, e⟩ := bnd_inv e
      cases x with
      | bl k =>
        refine (pt_ifExp hd ha hb).run pins s σ H Q I ⟨α, F, S, ρ, k, S1, ok, L, e1, fun H1 α1 F1 ok1 st1 => ?_⟩
        cases k with
        | true =>
          simp only [if_true] at e ⊢
          by_cases hs : a.strict = true
          · rw [if_pos hs] at e
            exact ⟨α1, F1, S1, ρ, t, S', ok1, L.step st1, e, fun H' α' F' ok' st' => q H' α' F' ok' (st1.trans st')⟩
          · rw [if_neg hs] at e; exact (fail_inv e).elim
        | false =>
          simp only [Bool.false_eq_true, if_false] at e ⊢
          by_cases hs : b.strict = true
          · rw [if_pos hs] at e
            exact ⟨α1, F1, S1, ρ, t, S', ok1, L.step st1, e, fun H' α' F' ok' st' => q H' α' F' ok' (st1.trans st')⟩
          · rw [if_neg hs] at e; exact (fail_inv e).elim
      | _ => exact (fail_inv e).elim
    | _ => simp [chkE] at h
  | .cmp o a b, X, f, c, h => by
    cases f with
    | Compare l ops rs p =>
      match ops, rs, h with
      | [o'], [r], h =>
        simp only [chkE, Bool.and_eq_true, decide_eq_true_eq] at h
        obtain ⟨⟨h1, h2⟩, h3⟩ := h
        subst h1
        have ha := pe_ev G a X l c h2
        have hb := pe_ev G b X r c h3
        exact ⟨fun pins s σ H Q I h => (pt_cmpR (cmp_any (by have := c.un; omega) o) ha hb (beh_of (good_of h3))).run pins s σ H Q I (cmp_read (tTe_tE h))⟩
      | [], _, h => simp [chkE] at h
      | [_], [], h => simp [chkE] at h
      | [_], _ :: _ :: _, h => simp [chkE] at h
      | _ :: _ :: _, _, h => simp [chkE] at h
    | _ => simp [chkE] at h
  | .isN neg a, X, f, c, h => by
    cases f with
    | Compare l ops rs p =>
      match ops, rs, h with
      | [o'], [r], h =>
        cases r with
        | Constant k k1 k2 =>
          cases k with
          | none =>
            simp only [chkE, Bool.and_eq_true, decide_eq_true_eq] at h
            obtain ⟨h1, h2⟩ := h
            have ha := pe_ev G a X l c h2
            cases neg with
            | false => subst h1; exact ⟨fun pins s σ H Q I h => (pt_cmp (pc_isN ha) (beh_of rfl)).run pins s σ H Q I (isN_read (tTe_tE h))⟩
            | true => subst h1; exact ⟨fun pins s σ H Q I h => (pt_cmp (pc_notN ha) (beh_of rfl)).run pins s σ H Q I (notN_read (tTe_tE h))⟩
          | _ => simp [chkE] at h
        | _ => simp [chkE] at h
      | [], _, h => simp [chkE] at h
      | _ :: _ :: _, _, h => simp [chkE] at h
      | [o'], [], h => simp [chkE] at h
      | [o'], _ :: _ :: _, h => simp [chkE] at h
    | _ => simp [chkE] at h
  | .chain o o2 a b d, X, f, c, h => by
    cases f with
    | Compare l ops rs p =>
      match ops, rs, h with
      | [o', p'], [m, r], h =>
        simp only [chkE, Bool.and_eq_true, decide_eq_true_eq] at h
        obtain ⟨⟨⟨⟨⟨⟨⟨h1, h2⟩, h3⟩, h4⟩, h5⟩, s1⟩, s2⟩, s3⟩ := h
        subst h1 h2
        have ha := pe_ev G a X l c h3
        have hb := pe_ev G b X m c h4
        have hd := pe_ev G d X r c h5
        have un := c.un
        exact ⟨fun pins s σ H Q I h => (pt_chain (cmp_any (by omega) o) (cmp_any (by omega) o2) ha hb hd (last_of (good_of h5))).run pins s σ H Q I (chain_read s1 s2 s3 (tTe_tE h))⟩
      | [], _, h => simp [chkE] at h
      | [_], _, h => simp [chkE] at h
      | _ :: _ :: _ :: _, _, h => simp [chkE] at h
      | [_, _], [], h => simp [chkE] at h
      | [_, _], [_], h => simp [chkE] at h
      | [_, _], _ :: _ :: _ :: _, h => simp [chkE] at h
    | _ => simp [chkE] at h
  | .int i, X, f, c, h => by
    have ha := pe_ev G (.int i) X f c h
    exact ⟨fun pins s σ H Q I hq => (pt_val ha (plain_true h rfl _)).run pins s σ H Q I (tTe_tE hq)⟩
  | .bl b, X, f, c, h => by
    have ha := pe_ev G (.bl b) X f c h
    exact ⟨fun pins s σ H Q I hq => (pt_val ha (plain_true h rfl _)).run pins s σ H Q I (tTe_tE hq)⟩
  | .non, X, f, c, h => by
    have ha := pe_ev G (.non) X f c h
    exact ⟨fun pins s σ H Q I hq => (pt_val ha (plain_true h rfl _)).run pins s σ H Q I (tTe_tE hq)⟩
  | .str x, X, f, c, h => by
    have ha := pe_ev G (.str x) X f c h
    exact ⟨fun pins s σ H Q I hq => (pt_val ha (plain_true h rfl _)).run pins s σ H Q I (tTe_tE hq)⟩
  | .var i, X, f, c, h => by
    have ha := pe_ev G (.var i) X f c h
    exact ⟨fun pins s σ H Q I hq => (pt_val ha (plain_true h rfl _)).run pins s σ H Q I (tTe_tE hq)⟩
  | .peek i, X, f, c, h => by
    have ha := pe_ev G (.peek i) X f c h
    exact ⟨fun pins s σ H Q I hq => (pt_val ha (plain_true h rfl _)).run pins s σ H Q I (tTe_tE hq)⟩
  | .glb x, X, f, c, h => by
    have ha := pe_ev G (.glb x) X f c h
    exact ⟨fun pins s σ H Q I hq => (pt_val ha (plain_true h rfl _)).run pins s σ H Q I (tTe_tE hq)⟩
  | .neg a, X, f, c, h => by
    have ha := pe_ev G (.neg a) X f c h
    exact ⟨fun pins s σ H Q I hq => (pt_val ha (plain_true h rfl _)).run pins s σ H Q I (tTe_tE hq)⟩
  | .bin o a b, X, f, c, h => by
    have ha := pe_ev G (.bin o a b) X f c h
    exact ⟨fun pins s σ H Q I hq => (pt_val ha (plain_true h rfl _)).run pins s σ H Q I (tTe_tE hq)⟩
  | .isa a ts, X, f, c, h => by
    have ha := pe_ev G (.isa a ts) X f c h
    exact ⟨fun pins s σ H Q I hq => (pt_val ha (plain_true h rfl _)).run pins s σ H Q I (tTe_tE hq)⟩
  | .idx a b, X, f, c, h => by
    have ha := pe_ev G (.idx a b) X f c h
    exact ⟨fun pins s σ H Q I hq => (pt_val ha (plain_true h rfl _)).run pins s σ H Q I (tTe_tE hq)⟩
  | .slice a lo hi, X, f, c, h => by
    have ha := pe_ev G (.slice a lo hi) X f c h
    exact ⟨fun pins s σ H Q I hq => (pt_val ha (plain_true h rfl _)).run pins s σ H Q I (tTe_tE hq)⟩
  | .tup es, X, f, c, h => by
    have ha := pe_ev G (.tup es) X f c h
    exact ⟨fun pins s σ H Q I hq => (pt_val ha (plain_true h rfl _)).run pins s σ H Q I (tTe_tE hq)⟩
  | .lst es, X, f, c, h => by
    have ha := pe_ev G (.lst es) X f c h
    exact ⟨fun pins s σ H Q I hq => (pt_val ha (plain_true h rfl _)).run pins s σ H Q I (tTe_tE hq)⟩
  | .blt b es, X, f, c, h => by
    have ha := pe_ev G (.blt b es) X f c h
    exact ⟨fun pins s σ H Q I hq => (pt_val ha (plain_true h rfl _)).run pins s σ H Q I (tTe_tE hq)⟩
  | .call g es, X, f, c, h => by
    have ha := pe_ev G (.call g es) X f c h
    exact ⟨fun pins s σ H Q I hq => (pt_val ha (plain_true h rfl _)).run pins s σ H Q I (tTe_tE hq)⟩
  | .lc tg it co e, X, f, c, h => by
    have ha := pe_ev G (.lc tg it co e) X f c h
    exact ⟨fun pins s σ H Q I hq => (pt_val ha (plain_true h rfl _)).run pins s σ H Q I (tTe_tE hq)⟩
  | .cel e, X, f, c, h => by
    have ha := pe_ev G (.cel e) X f c h
    exact ⟨fun pins s σ H Q I hq => (pt_val ha (plain_true h rfl _)).run pins s σ H Q I (tTe_tE hq)⟩
  | .met m o a, X, f, c, h => by
    have ha := pe_ev G (.met m o a) X f c h
    exact ⟨fun pins s σ H Q I hq => (pt_val ha (plain_true h rfl _)).run pins s σ H Q I (tTe_tE hq)⟩
  | .ext x e, X, f, c, h => by
    have ha := pe_ev G (.ext x e) X f c h
    exact ⟨fun pins s σ H Q I hq => (pt_val ha (plain_true h rfl _)).run pins s σ H Q I (tTe_tE hq)⟩
  | .sset e, X, f, c, h => by
    have ha := pe_ev G (.sset e) X f c h
    exact ⟨fun pins s σ H Q I hq => (pt_val ha (plain_true h rfl _)).run pins s σ H Q I (tTe_tE hq)⟩
  | .dc tg it k v, X, f, c, h => by
    have ha := pe_ev G (.dc tg it k v) X f c h
    exact ⟨fun pins s σ H Q I hq => (pt_val ha (plain_true h rfl _)).run pins s σ H Q I (tTe_tE hq)⟩
termination_by e => (sizeOf e, 2)
theorem pw_and_ev (G : Glob) : ∀ (es : Exs) (X : Cx) (fs : List Expr) (p : Pos), CtxOk G X → chkEs X.N X.env.scope es fs = true → PW X (.BoolOp .And fs p) (tMt X.K (evAnd G es))
  | .nil, X, fs, p, c, h => ⟨fun wh pins s σ H Q I ⟨α, F, S, ρ, t, S', ok, L, e, q⟩ => (fail_inv e).elim⟩
  | .cons e .nil, X, fs, p, c, h => by
    match fs, h with
    | [f], h =>
      simp only [chkEs, Bool.and_true] at h
      have ha := pt_ev G e X f c h
      refine ⟨fun wh pins s σ H Q I ⟨α, F, S, ρ, t, S', ok, L, ee, q⟩ => ?_⟩
      simp only [evAnd] at ee
      by_cases hs : e.strict = true
      · rw [if_pos hs] at ee
        exact (pw_and1 ha).run wh pins s σ H Q I ⟨α, F, S, ρ, t, S', ok, L, ee, q⟩
      · rw [if_neg hs] at ee; exact (fail_inv ee).elim
    | [], h => simp [chkEs] at h
    | _ :: _ :: _, h => simp [chkEs] at h
  | .cons e (.cons e2 es), X, fs, p, c, h => by
    match fs, h with
    | f :: f2 :: fs, h =>
      have h' : chkE X.N X.env.scope e f = true ∧ chkEs X.N X.env.scope (.cons e2 es) (f2 :: fs) = true := by
        rw [chkEs] at h
        exact Bool.and_eq_true_iff.mp h
      have ha := pt_ev G e X f c h'.1
      have hb := pw_and_ev G (.cons e2 es) X (f2 :: fs) p c h'.2
      refine ⟨fun wh pins s σ H Q I ⟨α, F, S, ρ, t, S', ok, L, ee, q⟩ => ?_⟩
      rw [evAnd] at ee
      obtain ⟨x, S1, e1, ee⟩ := bnd_inv ee
      cases x with
      | bl k =>
        refine (pw_and ha hb).run wh pins s σ H Q I ⟨α, F, S, ρ, k, S1, ok, L, e1, fun H1 α1 F1 ok1 st1 => ?_⟩
        cases k with
        | true => exact ⟨α1, F1, S1, ρ, t, S', ok1, L.step st1, ee, fun H' α' F' ok' st => q H' α' F' ok' (st1.trans st)⟩
        | false =>
          obtain ⟨er, rfl⟩ := ret_inv ee
          cases er
          exact q H1 α1 F1 ok1 st1
      | _ => exact (fail_inv ee).elim
    | [], h => simp [chkEs] at h
    | [_], h => simp [chkEs] at h
termination_by es => (sizeOf es, 1)
theorem pw_or_ev (G : Glob) : ∀ (es : Exs) (X : Cx) (fs : List Expr) (p : Pos), CtxOk G X → chkEs X.N X.env.scope es fs = true → PW X (.BoolOp .Or fs p) (tMt X.K (evOr G es))
  | .nil, X, fs, p, c, h => ⟨fun wh pins s σ H Q I ⟨α, F, S, ρ, t, S', ok, L, e, q⟩ => (fail_inv e).elim⟩
  | .cons e .nil, X, fs, p, c, h => by
    match fs, h with
    | [f], h =>
      simp only [chkEs, Bool.and_true] at h
      have ha := pt_ev G e X f c h
      refine ⟨fun wh pins s σ H Q I ⟨α, F, S, ρ, t, S', ok, L, ee, q⟩ => ?_⟩
      simp only [evOr] at ee
      by_cases hs : e.strict = true
      · rw [if_pos hs] at ee
        exact (pw_or1 ha).run wh pins s σ H Q I ⟨α, F, S, ρ, t, S', ok, L, ee, q⟩
      · rw [if_neg hs] at ee; exact (fail_inv ee).elim
    | [], h => simp [chkEs] at h
    | _ :: _ :: _, h => simp [chkEs] at h
  | .cons e (.cons e2 es), X, fs, p, c, h => by
    match fs, h with
    | f :: f2 :: fs, h =>
      have h' : chkE X.N X.env.scope e f = true ∧ chkEs X.N X.env.scope (.cons e2 es) (f2 :: fs) = true := by
        rw [chkEs] at h
        exact Bool.and_eq_true_iff.mp h
      have ha := pt_ev G e X f c h'.1
      have hb := pw_or_ev G (.cons e2 es) X (f2 :: fs) p c h'.2
      refine ⟨fun wh pins s σ H Q I ⟨α, F, S, ρ, t, S', ok, L, ee, q⟩ => ?_⟩
      rw [evOr] at ee
      obtain ⟨x, S1, e1, ee⟩ := bnd_inv ee
      cases x with
      | bl k =>
        refine (pw_or ha hb).run wh pins s σ H Q I ⟨α, F, S, ρ, k, S1, ok, L, e1, fun H1 α1 F1 ok1 st1 => ?_⟩
        cases k with
        | false => exact ⟨α1, F1, S1, ρ, t, S', ok1, L.step st1, ee, fun H' α' F' ok' st => q H' α' F' ok' (st1.trans st)⟩
        | true =>
          obtain ⟨er, rfl⟩ := ret_inv ee
          cases er
          exact q H1 α1 F1 ok1 st1
      | _ => exact (fail_inv ee).elim
    | [], h => simp [chkEs] at h
    | [_], h => simp [chkEs] at h
termination_by es => (sizeOf es, 1)
theorem pe_and_ev (G : Glob) : ∀ (es : Exs) (X : Cx) (fs : List Expr) (p : Pos), CtxOk G X → chkEs X.N X.env.scope es fs = true → PE X (.BoolOp .And fs p) (tM X.K (evAnd G es))
  | .nil, X, fs, p, c, h => ⟨fun pins s σ H Q I ⟨α, F, S, ρ, t, S', ok, L, e, q⟩ => (fail_inv e).elim⟩
  | .cons e .nil, X, fs, p, c, h => by
    match fs, h with
    | [f], h =>
      simp only [chkEs, Bool.and_true] at h
      have ha := pe_ev G e X f c h
      refine ⟨fun pins s σ H Q I ⟨α, F, S, ρ, t, S', ok, L, ee, q⟩ => ?_⟩
      simp only [evAnd] at ee
      by_cases hs : e.strict = true
      · rw [if_pos hs] at ee
        exact (pe_one ha).run pins s σ H Q I ⟨α, F, S, ρ, t, S', ok, L, ee, fun v H' α' F' ok' st _ is' => q v H' α' F' ok' st (is' hs)⟩
      · rw [if_neg hs] at ee; exact (fail_inv ee).elim
    | [], h => simp [chkEs] at h
    | _ :: _ :: _, h => simp [chkEs] at h
  | .cons e (.cons e2 es), X, fs, p, c, h => by
    match fs, h with
    | f :: f2 :: fs, h =>
      have h' : chkE X.N X.env.scope e f = true ∧ chkEs X.N X.env.scope (.cons e2 es) (f2 :: fs) = true := by
        rw [chkEs] at h
        exact Bool.and_eq_true_iff.mp h
      have ha := pe_ev G e X f c h'.1
      have hb := pe_and_ev G (.cons e2 es) X (f2 :: fs) p c h'.2
      refine ⟨fun pins s σ H Q I ⟨α, F, S, ρ, t, S', ok, L, ee, q⟩ => ?_⟩
      rw [evAnd] at ee
      obtain ⟨x, S1, e1, ee⟩ := bnd_inv ee
      refine (pe_and ha hb).run pins s σ H Q I ⟨α, F, S, ρ, x, S1, ok, L, e1, fun v H1 α1 F1 ok1 st1 ip1 _ => ?_⟩
      cases x with
      | bl k =>
        cases k with
        | true => exact ⟨true, ip1.bl, α1, F1, S1, ρ, t, S', ok1, L.step st1, ee, fun v H' α' F' ok' st is' => q v H' α' F' ok' (st1.trans st) is'⟩
        | false =>
          obtain ⟨rfl, rfl⟩ := ret_inv ee
          exact ⟨false, ip1.bl, q _ H1 α1 F1 ok1 st1 rfl⟩
      | _ => exact (fail_inv ee).elim
    | [], h => simp [chkEs] at h
    | [_], h => simp [chkEs] at h
termination_by es => (sizeOf es, 0)
theorem pe_or_ev (G : Glob) : ∀ (es : Exs) (X : Cx) (fs : List Expr) (p : Pos), CtxOk G X → chkEs X.N X.env.scope es fs = true → PE X (.BoolOp .Or fs p) (tM X.K (evOr G es))
  | .nil, X, fs, p, c, h => ⟨fun pins s σ H Q I ⟨α, F, S, ρ, t, S', ok, L, e, q⟩ => (fail_inv e).elim⟩
  | .cons e .nil, X, fs, p, c, h => by
    match fs, h with
    | [f], h =>
      simp only [chkEs, Bool.and_true] at h
      have ha := pe_ev G e X f c h
      refine ⟨fun pins s σ H Q I ⟨α, F, S, ρ, t, S', ok, L, ee, q⟩ => ?_⟩
      simp only [evOr] at ee
      by_cases hs : e.strict = true
      · rw [if_pos hs] at ee
        exact (pe_one ha).run pins s σ H Q I ⟨α, F, S, ρ, t, S', ok, L, ee, fun v H' α' F' ok' st _ is' => q v H' α' F' ok' st (is' hs)⟩
      · rw [if_neg hs] at ee; exact (fail_inv ee).elim
    | [], h => simp [chkEs] at h
    | _ :: _ :: _, h => simp [chkEs] at h
  | .cons e (.cons e2 es), X, fs, p, c, h => by
    match fs, h with
    | f :: f2 :: fs, h =>
      have h' : chkE X.N X.env.scope e f = true ∧ chkEs X.N X.env.scope (.cons e2 es) (f2 :: fs) = true := by
        rw [chkEs] at h
        exact Bool.and_eq_true_iff.mp h
      have ha := pe_ev G e X f c h'.1
      have hb := pe_or_ev G (.cons e2 es) X (f2 :: fs) p c h'.2
      refine ⟨fun pins s σ H Q I ⟨α, F, S, ρ, t, S', ok, L, ee, q⟩ => ?_⟩
      rw [evOr] at ee
      obtain ⟨x, S1, e1, ee⟩ := bnd_inv ee
      refine (pe_or ha hb).run pins s σ H Q I ⟨α, F, S, ρ, x, S1, ok, L, e1, fun v H1 α1 F1 ok1 st1 ip1 _ => ?_⟩
      cases x with
      | bl k =>
        cases k with
        | false => exact ⟨false, ip1.bl, α1, F1, S1, ρ, t, S', ok1, L.step st1, ee, fun v H' α' F' ok' st is' => q v H' α' F' ok' (st1.trans st) is'⟩
        | true =>
          obtain ⟨rfl, rfl⟩ := ret_inv ee
          exact ⟨true, ip1.bl, q _ H1 α1 F1 ok1 st1 rfl⟩
      | _ => exact (fail_inv ee).elim
    | [], h => simp [chkEs] at h
    | [_], h => simp [chkEs] at h
termination_by es => (sizeOf es, 0)
end
end RD

namespace RD
open PySem PySem.Spec PyProof.Rows L2

/-! ### what a statement does -/
inductive Fl where
  | next | ret (t : T) | brk | cont
def forL (f : T → Env → M (Env × Fl)) : List T → Env → M (Env × Fl)
  | [], ρ => RD.ret (ρ, .next)
  | x :: xs, ρ => bnd (f x ρ) fun r => match r.2 with
    | .next => forL f xs r.1
    | .cont => forL f xs r.1
    | .brk => RD.ret (r.1, .next)
    | .ret t => RD.ret (r.1, .ret t)
def whL (c : Env → M T) (b : Env → M (Env × Fl)) : Nat → Env → M (Env × Fl)
  | 0, _ => fail
  | n + 1, ρ => bnd (c ρ) fun x => match x with
    | .bl true => bnd (b ρ) fun r => match r.2 with
      | .next => whL c b n r.1
      | .cont => whL c b n r.1
      | .brk => RD.ret (r.1, .next)
      | .ret t => RD.ret (r.1, .ret t)
    | .bl false => RD.ret (ρ, .next)
    | _ => fail
/-- a turn of a for -/
def forF (tg : Tg) (b : Env → M (Env × Fl)) (x : T) (ρ : Env) : M (Env × Fl) := match bindTg ρ tg x with
  | some ρ' => b ρ'
  | none => fail
def andThen (m : M (Env × Fl)) (k : Env → M (Env × Fl)) : M (Env × Fl) := bnd m fun r => match r.2 with
  | .next => k r.1
  | _ => RD.ret r
/-- a store to a cell's place -/
def putC (o i v : T) : M Unit := fun S => match o with
  | .ref n => match S[n]? with
    | some (.lst l) => match i with
      | .int k => match ixN l.length k with
        | some j => some (.ok () (S.set n (.lst (l.set j v))))
        | none => none
      | _ => none
    | _ => none
  | _ => none
/-- a cell's list -/
def cellL (x : T) : M (Nat × List T) := fun S => match x with
  | .ref n => match S[n]? with
    | some (.lst l) => some (.ok (n, l) S)
    | _ => none
  | _ => none
/-- the cell is as it was -/
noncomputable def sameC (n : Nat) (l : List T) : M Unit := fun S => @ite _ (S[n]? = some (.lst l)) (Classical.propDecidable _) (some (.ok () S)) none
/-- for over a cell's list: the list may not change -/
noncomputable def forLC (n : Nat) (l : List T) (f : T → Env → M (Env × Fl)) : List T → Env → M (Env × Fl)
  | [], ρ => bnd (sameC n l) fun _ => RD.ret (ρ, .next)
  | x :: xs, ρ => bnd (sameC n l) fun _ => bnd (f x ρ) fun r => match r.2 with
    | .next => forLC n l f xs r.1
    | .cont => forLC n l f xs r.1
    | .brk => RD.ret (r.1, .next)
    | .ret t => RD.ret (r.1, .ret t)
/-- append to a cell's list -/
def appL (x v : T) : M Unit := fun S => match x with
  | .ref n => match S[n]? with
    | some (.lst l) => if l.length < lim then some (.ok () (S.set n (.lst (l ++ [v])))) else none
    | _ => none
  | _ => none
mutual
noncomputable def ex (G : Glob) : St → Env → M (Env × Fl)
  | .set i e, ρ => bnd (strictly e.strict (ev G e) ρ) fun t => RD.ret (ρ.set i (.val t), .next)
  | .own i e, ρ => bnd (strictly (newE e) (ev G e) ρ) fun t => match t with
    | .lst l => RD.ret (ρ.set i (.own l), .next)
    | _ => fail
  | .unp is e, ρ => bnd (strictly e.strict (ev G e) ρ) fun t => match t with
    | .tup l => match setAll ρ is l with
      | some ρ' => RD.ret (ρ', .next)
      | none => fail
    | _ => fail
  | .par is es, ρ => bnd (strictly (strictAll es) (evs G es) ρ) fun l => match setAll ρ is l with
    | some ρ' => RD.ret (ρ', .next)
    | none => fail
  | .put o i e, ρ => bnd (strictly e.strict (ev G e) ρ) fun v => bnd (ev G o ρ) fun t => bnd (ev G i ρ) fun k => bnd (putC t k v) fun _ => RD.ret (ρ, .next)
  | .putO j i e, ρ => bnd (strictly e.strict (ev G e) ρ) fun v => bnd (ev G i ρ) fun k => match getO ρ j, k with
    | some l, .int k => match ixN l.length k with
      | some p => RD.ret (ρ.set j (.own (l.set p v)), .next)
      | none => fail
    | _, _ => fail
  | .swapO j a b e f, ρ => bnd (strictly e.strict (ev G e) ρ) fun v => bnd (strictly f.strict (ev G f) ρ) fun w => match getO ρ j with
    | some l => bnd (ev G a ρ) fun k => match k with
      | .int k => match ixN l.length k with
        | some p => bnd (ev G b (ρ.set j (.own (l.set p v)))) fun k2 => match k2 with
          | .int k2 => match ixN l.length k2 with
            | some p2 => RD.ret (ρ.set j (.own ((l.set p v).set p2 w)), .next)
            | none => fail
          | _ => fail
        | none => fail
      | _ => fail
    | none => fail
  | .aug i o e, ρ => match getV ρ i with
    | some (.int a) => bnd (ev G e ρ) fun y => match o, y with
      | .add, .int b => RD.ret (ρ.set i (.val (.int (a + b))), .next)
      | .sub, .int b => RD.ret (ρ.set i (.val (.int (a - b))), .next)
      | _, _ => fail
    | _ => fail
  | .app i e, ρ => bnd (strictly e.strict (ev G e) ρ) fun v => match getO ρ i with
    | some l => if l.length < lim then RD.ret (ρ.set i (.own (l ++ [v])), .next) else fail
    | none => fail
  | .expr e, ρ => bnd (ev G e ρ) fun _ => RD.ret (ρ, .next)
  | .ret e, ρ => bnd (strictly e.strict (ev G e) ρ) fun t => RD.ret (ρ, .ret t)
  | .retN, ρ => RD.ret (ρ, .ret .non)
  | .pass, ρ => RD.ret (ρ, .next)
  | .brk, ρ => RD.ret (ρ, .brk)
  | .cont, ρ => RD.ret (ρ, .cont)
  | .ite c a b, ρ => bnd (ev G c ρ) fun x => match x with
    | .bl k => if k = true then exs G a ρ else exs G b ρ
    | _ => fail
  | .forr tg it b, ρ => bnd (strictly it.strict (evI G it) ρ) fun l => forL (forF tg (exs G b)) l ρ
  | .whl c b, ρ => whL (ev G c) (exs G b) G.fuel ρ
  | .frz i, ρ => match ρ[i]? with
    | some (.own l) => RD.ret (ρ.set i (.val (.lst l)), .next)
    | some (.val _) => RD.ret (ρ, .next)
    | _ => fail
  | .ins i a b, ρ => bnd (ev G a ρ) fun k => bnd (strictly b.strict (ev G b) ρ) fun v => match getO ρ i, k with
    | some l, .int k => if l.length < lim ∧ 0 ≤ k ∧ k < 1000000 then RD.ret (ρ.set i (.own (l.take k.toNat ++ [v] ++ l.drop k.toNat)), .next) else fail
    | _, _ => fail
  | .any, _ => fail
  | .forC tg e b, ρ => bnd (ev G e ρ) fun x => bnd (cellL x) fun p => forLC p.1 p.2 (forF tg (exs G b)) p.2 ρ
  | .appC i e, ρ => match getV ρ i with
    | some t => bnd (cellL t) fun _ => bnd (strictly e.strict (ev G e) ρ) fun v => bnd (appL t v) fun _ => RD.ret (ρ, .next)
    | none => fail
noncomputable def exs (G : Glob) : Sts → Env → M (Env × Fl)
  | .nil, ρ => RD.ret (ρ, .next)
  | .cons s ss, ρ => andThen (ex G s ρ) (exs G ss)
end

/-! ### the checker of statements -/
def swapOk (sc : Scope) (x : Str) (p : Pos) (f : Expr) : Bool := match f with
  | .ListComp _ _ scope pos => match sc.names.lookup x with
    | some .local => p.line == pos.line && !(scope.names.any fun (n, k) => n == x && (k == .local || k == .cell))
    | some .cell => true
    | _ => false
  | .SetComp .. => false
  | .DictComp .. => match sc.names.lookup x with
    | some .cell => true
    | _ => false
  | _ => true
def noComp : Expr → Bool
  | .ListComp .. => false
  | .SetComp .. => false
  | .DictComp .. => false
  | .Tuple .. => false
  | _ => true
def isLocal (sc : Scope) (x : Str) : Bool := match sc.names.lookup x with
  | some .local => true
  | _ => false
/-- a pair of names of which one at least is a cell: stored from the left -/
def parC (sc : Scope) (ts : List Expr) (g : Expr) : Bool := match ts, g with
  | [.Name x _, .Name y _], .Tuple [_, _] _ _ => !(isLocal sc x && isLocal sc y)
  | _, _ => false
mutual
def chkS (N : List Str) (sc : Scope) : St → Stmt → Bool
  | .set i e, f => match f with
    | .Assign [.Name x p] g _ => decide (N[i]? = some x) && isLoc sc x && okN x && chkE N sc e g && swapOk sc x p g
    | _ => false
  | .own i e, f => match f with
    | .Assign [.Name x p] g _ => decide (N[i]? = some x) && isLoc sc x && okN x && chkE N sc e g && swapOk sc x p g
    | _ => false
  | .unp is e, f => match f with
    | .Assign [.Tuple ts _ _] g _ => chkNames N sc is ts && decide is.Nodup && chkE N sc e g && (noComp g || parC sc ts g)
    | _ => false
  | .par is es, f => match f with
    | .Assign [.Tuple [.Name x p, .Name y q] _ _] (.Tuple [a, b] _ _) _ => (match is with
      | [i, j] => decide (N[i]? = some x) && decide (N[j]? = some y) && decide (i ≠ j) && isLocal sc x && isLocal sc y && okN x && okN y && chkEs N sc es [a, b] && (q.line == p.line) && !([a, b].all (foldedForSure 8)) && !([a, b].all (constantsAlone 8))
      | _ => false)
    | _ => false
  | .put o i e, f => match f with
    | .Assign [.Subscript a b _] g _ => chkE N sc o a && chkE N sc i b && chkE N sc e g && noComp g
    | _ => false
  | .putO j i e, f => match f with
    | .Assign [.Subscript (.Name x _) b _] g _ => decide (N[j]? = some x) && isVis sc x && okN x && chkE N sc i b && chkE N sc e g && noComp g
    | _ => false
  | .swapO j a b e f', f => match f with
    | .Assign [.Tuple [.Subscript (.Name x _) c _, .Subscript (.Name y _) d _] _ _] (.Tuple [g, h] _ _) _ => decide (N[j]? = some x) && decide (x = y) && isVis sc x && okN x && chkE N sc a c && chkE N sc b d && chkE N sc e g && chkE N sc f' h
    | _ => false
  | .aug i o e, f => match f with
    | .AugAssign (.Name x _) o' g _ => decide (N[i]? = some x) && isLoc sc x && okN x && decide (o' = pyOp o) && chkE N sc e g
    | _ => false
  | .app i e, f => match f with
    | .Expr (.Call (.Attribute (.Name x _) a q) [g] [] r) _ => decide (N[i]? = some x) && isVis sc x && okN x && decide (a = ("append" : Str)) && chkE N sc e g && (q.endLine == r.line)
    | _ => false
  | .expr e, f => match f with
    | .Expr g _ => chkE N sc e g && (match g with | .Call .. => true | _ => false)
    | _ => false
  | .ret e, f => match f with
    | .Return (some g) _ => chkE N sc e g
    | _ => false
  | .retN, f => match f with
    | .Return none _ => true
    | _ => false
  | .pass, f => match f with
    | .Pass _ => true
    | _ => false
  | .brk, f => match f with
    | .Break _ => true
    | _ => false
  | .cont, f => match f with
    | .Continue _ => true
    | _ => false
  | .ite c a b, f => match f with
    | .If g xs ys _ => chkE N sc c g && chkSs N sc a xs && chkSs N sc b ys
    | _ => false
  | .forr tg it b, f => match f with
    | .For t g xs [] _ => chkTg N sc tg t && chkI N sc tg.isT it g && chkSs N sc b xs
    | _ => false
  | .whl c b, f => match f with
    | .While g xs [] _ => chkE N sc c g && chkSs N sc b xs
    | _ => false
  | .frz _, _ => false
  | .ins i a b, f => match f with
    | .Expr (.Call (.Attribute (.Name x _) n q) [g, h] [] r) _ => decide (N[i]? = some x) && isVis sc x && okN x && decide (n = ("insert" : Str)) && chkE N sc a g && chkE N sc b h && (q.endLine == r.line)
    | _ => false
  | .any, _ => true
  | .forC tg e b, f => match f with
    | .For t g xs [] _ => chkTg N sc tg t && chkE N sc e g && chkSs N sc b xs
    | _ => false
  | .appC i e, f => match f with
    | .Expr (.Call (.Attribute (.Name x _) a q) [g] [] r) _ => decide (N[i]? = some x) && isVis sc x && okN x && decide (a = ("append" : Str)) && chkE N sc e g && (q.endLine == r.line)
    | _ => false
def chkSs (N : List Str) (sc : Scope) : Sts → List Stmt → Bool
  | .nil, fs => match fs with
    | [] => true
    | _ => false
  | .cons s ss, fs => match s with
    | .frz _ => chkSs N sc ss fs
    | _ => match fs with
      | f :: fs => chkS N sc s f && chkSs N sc ss fs
      | [] => false
end
end RD

namespace RD
open PySem PySem.Spec PyProof.Rows L2

structure DefCtx (G : Glob) (X : Cx) : Prop where
  ctx : CtxOk G X
  fn : ∀ x, X.fn x = true
  own : PassesOwn (model X.prog X.w) X.A X.env X.xe
  kind : X.env.scope.kind = .function
/-- a body's state, seen from its entry B -/
structure Bd (K : PySem.W.Frag) (B : List Addr × Hp × Hp) (α : List Addr) (F : Hp) (S : Store) (H : Hp) (ρ : Env) (σ : L2.St) : Prop where
  ok : OkS K α F S H
  loc : Loc K α F H ρ σ
  st : Step B.1 B.2.1 B.2.2 α F H
  new : ∀ (i : Nat) (l : List T) (a : Addr), ρ[i]? = some (.own l) → σ.getD i none = some (.ref a) → B.2.2 a = none
def EndOk (K : PySem.W.Frag) (B : List Addr × Hp × Hp) (α : List Addr) (F : Hp) (r : Env × Fl) (S' : Store) (D : Ends) : Prop := match r.2 with
  | .next => ∀ σ' H' α' F', Bd K B α' F' S' H' r.1 σ' → Later α F α' F' → D.nx σ' H'
  | .cont => ∀ σ' H' α' F', Bd K B α' F' S' H' r.1 σ' → Later α F α' F' → D.ct σ' H'
  | .brk => ∀ σ' H' α' F', Bd K B α' F' S' H' r.1 σ' → Later α F α' F' → D.bk σ' H'
  | .ret t => ∀ v H' α' F', OkS K α' F' S' H' → Step B.1 B.2.1 B.2.2 α' F' H' → Is K α' F' t v → D.rt v H'
def tS (K : PySem.W.Frag) (B : List Addr × Hp × Hp) (m : Env → M (Env × Fl)) : TS := fun D σ H => ∃ α F S ρ r S', Bd K B α F S H ρ σ ∧ m ρ S = some (.ok r S') ∧ EndOk K B α F r S' D
section
variable {K : PySem.W.Frag} {B : List Addr × Hp × Hp} {α α1 α2 : List Addr} {F F1 F2 H H1 : Hp} {S S1 : Store} {ρ : Env} {σ : L2.St}
theorem Bd.step (b : Bd K B α F S H ρ σ) (ok : OkS K α1 F1 S1 H1) (st : Step α F H α1 F1 H1) : Bd K B α1 F1 S1 H1 ρ σ := ⟨ok, b.loc.step st, b.st.trans st, b.new⟩
theorem Bd.set (b : Bd K B α F S H ρ σ) {i : Nat} {t : T} {v : V} (h : Is K α F t v) : Bd K B α F S H (ρ.set i (.val t)) (σ.set i (some v)) := by
  refine ⟨b.ok, b.loc.set h, b.st, fun j l a e1 e2 => ?_⟩
  have hj : i ≠ j := fun z => by
    subst z
    have hl : i < ρ.length := by
      have := (List.getElem?_eq_some_iff.mp e1).1
      simpa using this
    rw [List.getElem?_set_self hl] at e1; cases e1
  rw [List.getElem?_set_ne hj] at e1
  rw [List.getD_eq_getElem?_getD, List.getElem?_set_ne hj, ← List.getD_eq_getElem?_getD] at e2
  exact b.new j l a e1 e2
theorem EndOk.later {r : Env × Fl} {D : Ends} (e : EndOk K B α F r S1 D) (l : Later α F α1 F1) : EndOk K B α1 F1 r S1 D := by
  unfold EndOk at e ⊢
  split <;> rename_i h <;> simp only [h] at e
  · exact fun σ' H' α' F' b l' => e σ' H' α' F' b (l.trans l')
  · exact fun σ' H' α' F' b l' => e σ' H' α' F' b (l.trans l')
  · exact fun σ' H' α' F' b l' => e σ' H' α' F' b (l.trans l')
  · exact e
/-- an own slot made -/
theorem Bd.setOwn (b : Bd K B α F S H ρ σ) {i : Nat} {l : List T} {xs : List V} {p : Addr} (h : H p = some (.lst xs)) (hF : F p = none) (hp : p ∉ α) (hB : B.2.2 p = none) (hi : IsL K α F l xs)
    (hne : ∀ (j : Nat) (m : List T), ρ[j]? = some (.own m) → σ.getD j none ≠ some (.ref p)) : Bd K B α F S H (ρ.set i (.own l)) (σ.set i (some (.ref p))) := by
  have L := b.loc
  have gd : ∀ {j : Nat}, i ≠ j → (σ.set i (some (V.ref p))).getD j none = σ.getD j none := fun {j} hj => by
    rw [List.getD_eq_getElem?_getD, List.getElem?_set_ne hj, ← List.getD_eq_getElem?_getD]
  have gi : i < ρ.length → (σ.set i (some (V.ref p))).getD i none = some (.ref p) := fun hl => by
    rw [List.getD_eq_getElem?_getD, List.getElem?_set_self (by rw [← L.len]; exact hl)]; rfl
  have lt : ∀ {s : Slot} {j : Nat}, (ρ.set i s)[j]? ≠ none → j < ρ.length := fun {s j} hn => by
    cases q : (ρ.set i s)[j]? with
    | none => exact absurd q hn
    | some o =>
      have := (List.getElem?_eq_some_iff.mp q).1
      simpa using this
  refine ⟨b.ok, ⟨by simp [L.len], fun j s e => ?_, fun j k m n hjk e1 e2 => ?_⟩, b.st, fun j m a e1 e2 => ?_⟩
  · by_cases hj : i = j
    · subst hj
      have hl := lt (s := .own l) (j := i) (by rw [e]; exact fun z => by cases z)
      rw [List.getElem?_set_self hl] at e
      cases e
      exact ⟨p, xs, gi hl, h, hF, hp, hi⟩
    · rw [List.getElem?_set_ne hj] at e
      rw [gd hj]
      exact L.at_ j s e
  · by_cases hj : i = j
    · subst hj
      have hl := lt (s := .own l) (j := i) (by rw [e1]; exact fun z => by cases z)
      rw [List.getElem?_set_ne hjk] at e2
      rw [gi hl, gd hjk]
      exact fun z => hne k n e2 z.symm
    · rw [List.getElem?_set_ne hj] at e1
      by_cases hk : i = k
      · subst hk
        have hl := lt (s := .own l) (j := i) (by rw [e2]; exact fun z => by cases z)
        rw [gi hl, gd hj]
        exact hne j m e1
      · rw [List.getElem?_set_ne hk] at e2
        rw [gd hj, gd hk]
        exact L.sep j k m n hjk e1 e2
  · by_cases hj : i = j
    · subst hj
      have hl := lt (s := .own l) (j := i) (by rw [e1]; exact fun z => by cases z)
      rw [gi hl] at e2; cases e2; exact hB
    · rw [List.getElem?_set_ne hj] at e1
      rw [gd hj] at e2
      exact b.new j m a e1 e2
theorem set_same {ρ : Env} {i : Nat} {s : Slot} {j : Nat} {u : Slot} (h : (ρ.set i s)[j]? = some u) : (i = j ∧ u = s ∧ i < ρ.length) ∨ (i ≠ j ∧ ρ[j]? = some u) := by
  by_cases hj : i = j
  · subst hj
    have hl : i < ρ.length := by
      have := (List.getElem?_eq_some_iff.mp h).1
      simpa using this
    rw [List.getElem?_set_self hl] at h; cases h
    exact .inl ⟨rfl, rfl, hl⟩
  · rw [List.getElem?_set_ne hj] at h
    exact .inr ⟨hj, h⟩
/-- an own list changed -/
theorem Bd.poke (b : Bd K B α F S H ρ σ) {i : Nat} {l m : List T} {ys : List V} {a : Addr} (h : ρ[i]? = some (.own l)) (ha : σ.getD i none = some (.ref a)) (hm : IsL K α F m ys) :
    Bd K B α F S (upd H a (.lst ys)) (ρ.set i (.own m)) σ := by
  obtain ⟨a', xs, e, h1, h2, h3, h4⟩ := b.loc.at_ i _ h
  rw [ha] at e
  cases e
  refine ⟨b.ok.poke h2 h3, ⟨by simp [b.loc.len], fun j s e => ?_, fun j k l1 l2 hjk e1 e2 => ?_⟩, b.st.poke (b.new i l _ h ha), fun j l1 c e1 e2 => ?_⟩
  · rcases set_same e with ⟨rfl, rfl, _⟩ | ⟨hj, e⟩
    · exact ⟨_, ys, ha, upd_same, h2, h3, hm⟩
    · have := b.loc.at_ j s e
      cases s with
      | none => trivial
      | val t => exact this
      | own l1 =>
        obtain ⟨c, zs, e', k1, k2, k3, k4⟩ := this
        have hc : c ≠ a := fun z => b.loc.sep i j l l1 hj h e (by rw [ha, e', z])
        exact ⟨c, zs, e', by rw [upd_ne hc]; exact k1, k2, k3, k4⟩
  · have fix : ∀ {j : Nat} {l1 : List T}, (ρ.set i (.own m))[j]? = some (.own l1) → ∃ l1', ρ[j]? = some (.own l1') := fun {j l1} e => by
      rcases set_same e with ⟨rfl, _, _⟩ | ⟨_, e⟩
      · exact ⟨_, h⟩
      · exact ⟨_, e⟩
    obtain ⟨_, e1⟩ := fix e1
    obtain ⟨_, e2⟩ := fix e2
    exact b.loc.sep j k _ _ hjk e1 e2
  · rcases set_same e1 with ⟨rfl, _, _⟩ | ⟨_, e1⟩
    · exact b.new i l c h e2
    · exact b.new j l1 c e1 e2
/-- an own list frozen -/
theorem Bd.frz (b : Bd K B α F S H ρ σ) {i : Nat} {l : List T} (h : ρ[i]? = some (.own l)) : ∃ F', Bd K B α F' S H (ρ.set i (.val (.lst l))) σ ∧ Later α F α F' := by
  obtain ⟨a, xs, e, h1, h2, h3, h4⟩ := b.loc.at_ i _ h
  obtain ⟨ok2, sm⟩ := b.ok.frz h1 h2 h3
  refine ⟨upd F a (.lst xs), ⟨ok2, ⟨by simp [b.loc.len], fun j s e' => ?_, fun j k l1 l2 hjk e1 e2 => ?_⟩, b.st.frz (b.new i l _ h e) h2, fun j l1 c e1 e2 => ?_⟩, ⟨[], by simp⟩, sm⟩
  · rcases set_same e' with ⟨rfl, rfl, _⟩ | ⟨hj, e'⟩
    · exact ⟨.ref a, e, a, xs, rfl, upd_same, h4.same sm⟩
    · have := b.loc.at_ j s e'
      cases s with
      | none => trivial
      | val t => obtain ⟨v, q1, q2⟩ := this; exact ⟨v, q1, q2.same sm⟩
      | own l1 =>
        obtain ⟨c, zs, q, k1, k2, k3, k4⟩ := this
        have hc : c ≠ a := fun z => b.loc.sep i j l l1 hj h e' (by rw [e, q, z])
        exact ⟨c, zs, q, k1, by rw [upd_ne hc]; exact k2, k3, k4.same sm⟩
  · rcases set_same e1 with ⟨_, z, _⟩ | ⟨_, e1⟩
    · cases z
    · rcases set_same e2 with ⟨_, z, _⟩ | ⟨_, e2⟩
      · cases z
      · exact b.loc.sep j k l1 l2 hjk e1 e2
  · rcases set_same e1 with ⟨_, z, _⟩ | ⟨_, e1⟩
    · cases z
    · exact b.new j l1 c e1 e2
theorem set_none_all {F : Hp} : True := trivial
/-- a cell's list changed -/
theorem Bd.cell (b : Bd K B α F S H ρ σ) {n : Nat} {l m : List T} {ys : List V} {a : Addr} (h : S[n]? = some (.lst l)) (ha : α[n]? = some a) (hm : IsL K α F m ys) : Bd K B α F (S.set n (.lst m)) (upd H a (.lst ys)) ρ σ := by
  obtain ⟨hF, xs, hH, hx⟩ := b.ok.cell n _ a h ha
  have mem : a ∈ α := List.mem_of_getElem? ha
  obtain ⟨β, eβ, hβ⟩ := b.st.pre
  have noCode : ∀ c q, upd H a (.lst ys) c = some (LamX.CodeO c q) → F c ≠ none := fun c q e => by
    have ne : c ≠ a := fun z => by
      rw [z, upd_same] at e
      have z2 := Option.some.inj e
      unfold LamX.CodeO at z2
      cases z2
    rw [upd_ne ne] at e
    exact b.ok.codes c q e
  refine ⟨⟨fun c x e => ?_, by simp [b.ok.len], b.ok.nd, fun k c d h1 h2 => ?_, noCode⟩, ⟨b.loc.len, fun j s e => ?_, b.loc.sep⟩, ⟨b.st.pre, b.st.ff, b.st.fn, fun c o h1 h2 => ?_, fun c h1 => ?_⟩, b.new⟩
  · have : c ≠ a := fun z => by rw [z, hF] at e; cases e
    rw [upd_ne this]; exact b.ok.sub _ _ e
  · by_cases hk : n = k
    · subst hk
      rw [ha] at h2; cases h2
      have hl : n < S.length := (List.getElem?_eq_some_iff.mp h).1
      rw [List.getElem?_set_self hl] at h1; cases h1
      exact ⟨hF, ys, upd_same, hm⟩
    · rw [List.getElem?_set_ne hk] at h1
      have hd : d ≠ a := fun z => hk (by
        rw [z] at h2
        obtain ⟨x1, x2⟩ := List.getElem?_eq_some_iff.mp ha
        obtain ⟨y1, y2⟩ := List.getElem?_eq_some_iff.mp h2
        exact (List.getElem_inj b.ok.nd).mp (x2.trans y2.symm))
      obtain ⟨q1, q2⟩ := b.ok.cell k c d h1 h2
      refine ⟨q1, ?_⟩
      cases c with
      | lst l' => obtain ⟨zs, z, y⟩ := q2; exact ⟨zs, by rw [upd_ne hd]; exact z, y⟩
      | dct l' => obtain ⟨zs, z, y⟩ := q2; exact ⟨zs, by rw [upd_ne hd]; exact z, y⟩
      | ins _ _ => exact q2
      | tbl _ _ => exact ⟨q2.1, q2.2.mono (Same.refl _) fun o z => by rw [upd_ne hd]; exact z⟩
  · have := b.loc.at_ j s e
    cases s with
    | none => trivial
    | val t => exact this
    | own l1 =>
      obtain ⟨c, zs, q, k1, k2, k3, k4⟩ := this
      have hc : c ≠ a := fun z => k3 (by rw [z]; exact mem)
      exact ⟨c, zs, q, by rw [upd_ne hc]; exact k1, k2, k3, k4⟩
  · have hc : c ≠ a := fun z => by
      subst z
      rw [eβ] at mem
      rcases List.mem_append.mp mem with m' | m'
      · exact h2 m'
      · rw [hβ c m'] at h1; cases h1
    rw [upd_ne hc]; exact b.st.hh c o h1 h2
  · by_cases hc : c = a
    · subst hc; rw [upd_same]; exact fun z => by cases z
    · rw [upd_ne hc]; exact b.st.hx c h1
end
/-! ### some of a body's expressions -/
section
variable {X : Cx} {G : Glob}
theorem strictly_inv {α : Type} {b : Bool} {f : Env → M α} {ρ : Env} {S S' : Store} {a : α} (h : strictly b f ρ S = some (.ok a S')) : b = true ∧ f ρ S = some (.ok a S') := by
  unfold strictly at h
  by_cases hb : b = true
  · rw [if_pos hb] at h; exact ⟨hb, h⟩
  · rw [if_neg hb] at h; exact (fail_inv h).elim
theorem canSet_def (d : DefCtx G X) : CanSet X X.env.scope := by
  intro x hx
  unfold isLoc at hx
  refine ⟨?_, .inl (d.fn x)⟩
  split at hx
  · exact .inl (by assumption)
  · exact .inr (by assumption)
  · cases hx
theorem loc_of (h : isLoc X.env.scope x = true) : L2.Loc X.env.scope x := by
  unfold isLoc at h
  split at h
  · exact .inl (by assumption)
  · exact .inr (by assumption)
  · cases h
/-- the parts of a list comprehension of the text -/
theorem lc_parts (c : CtxOk G X) {tg : Tg} {it : Itr} {co : Oe} {e : Ex} {f : Expr} (h : chkE X.N X.env.scope (.lc tg it co e) f = true) : ∃ g t i ifs scope p, f = .ListComp g [⟨t, i, ifs, 0⟩] scope p ∧ blkC X.N X.env.scope scope (ownOf X.N tg.slots) = true ∧ chkTg X.N scope tg t = true ∧
    PI X t i (tI X.K G it) ∧ goodF i = true ∧ (∀ (s : Shared) (H : Hp) (C : Addr) (cl : List (Str × Addr)) (fp : List Addr), PTs (X.blk s H scope (compEnvC scope cl C X.env) fp) ifs (tTs X.K G co)) ∧
    ∀ (s : Shared) (H : Hp) (C : Addr) (cl : List (Str × Addr)) (fp : List Addr), PE (X.blk s H scope (compEnvC scope cl C X.env) fp) g (tE X.K G e) := by
  cases f with
  | ListComp g gens scope p =>
    match gens, h with
    | [⟨t, i, ifs, n⟩], h =>
      simp only [chkE, Bool.and_eq_true, decide_eq_true_eq] at h
      obtain ⟨⟨⟨⟨⟨h0, h1⟩, h2⟩, h3⟩, h4⟩, h5⟩ := h
      subst h0
      refine ⟨g, t, i, ifs, scope, p, rfl, h1, h2, pi_ev G it X t i _ c h3 (tup_tg h2), goodI_of h3, fun s H C cl fp => ?_, fun s H C cl fp => pe_ev G e (X.blk s H scope (compEnvC scope cl C X.env) fp) g (c.blk ..) h5⟩
      cases co with
      | none =>
        cases ifs with
        | nil => exact ⟨fun pins s σ H Q I ⟨α, F, S, ρ, k, S', b, ok, L, e, hb, q⟩ => by
            obtain ⟨rfl, rfl⟩ := ret_inv e
            cases hb
            exact pts_nil.run pins s σ H Q I (q H α F ok .refl)⟩
        | cons d ds => cases ds <;> simp at h4
      | some ce =>
        cases ifs with
        | nil => simp at h4
        | cons d ds =>
          cases ds with
          | nil =>
            have hd : PT (X.blk s H scope (compEnvC scope cl C X.env) fp) d (tTe X.K G ce) := pt_ev G ce (X.blk s H scope (compEnvC scope cl C X.env) fp) d (c.blk ..) (by have z := h4; simp [chkO] at z; exact z)
            exact ⟨fun pins s σ H Q I ⟨α, F, S, ρ, k, S', b, ok, L, e, hb, q⟩ => by
              simp only [evO] at e
              obtain ⟨x, S1, e1, e⟩ := bnd_inv e
              obtain ⟨rfl, rfl⟩ := ret_inv e
              cases x with
              | bl b' =>
                cases hb
                exact (pts_one hd).run pins s σ H Q I ⟨α, F, S, ρ, _, _, ok, L, e1, q⟩
              | _ => cases hb⟩
          | cons _ _ => simp at h4
    | [], h => simp [chkE] at h
    | _ :: _ :: _, h => simp [chkE] at h
  | _ => simp [chkE] at h
/-- name = e, whatever the model does about the store -/
theorem ps_setT (d : DefCtx G X) {i : Nat} {x : Str} {p : Pos} {g : Expr} {pos : Pos} {te : TE} (h1 : X.N[i]? = some x) (h2 : isLoc X.env.scope x = true) (h5 : swapOk X.env.scope x p g = true) (he : PE X g te)
    (hlc : ∀ f gens sc q, g = .ListComp f gens sc q → X.env.scope.names.lookup x = some .local → swapsWith g (some (.Name x p)) pos.line X.env = pure true → PS X (.Assign [.Name x p] g pos) (tAsg te (gName i))) :
    PS X (.Assign [.Name x p] g pos) (tAsg te (gName i)) := by
  cases g with
  | ListComp f gens sc q =>
    unfold swapOk at h5
    cases z : X.env.scope.names.lookup x with
    | none => rw [z] at h5; simp at h5
    | some k =>
      rw [z] at h5
      cases k with
      | «local» =>
        simp only [Bool.and_eq_true, Bool.not_eq_true'] at h5
        exact hlc f gens sc q rfl z (sw_true d.kind z h5.1 h5.2)
      | cell =>
        refine ps_set d.ctx.nd h1 (loc_of h2) he ?_ (.inl (d.fn x))
        have ky : (X.env.kindOf x == some NameKind.local) = false := by rw [show X.env.kindOf x = some .cell from z]; rfl
        unfold swapsWith
        simp only [ky, Bool.and_false, Bool.false_and]
      | _ => simp at h5
  | DictComp f f2 gens sc q =>
    unfold swapOk at h5
    cases z : X.env.scope.names.lookup x with
    | none => rw [z] at h5; simp at h5
    | some k =>
      rw [z] at h5
      cases k with
      | cell =>
        refine ps_set d.ctx.nd h1 (loc_of h2) he ?_ (.inl (d.fn x))
        have ky : (X.env.kindOf x == some NameKind.local) = false := by rw [show X.env.kindOf x = some .cell from z]; rfl
        unfold swapsWith
        simp only [ky, Bool.and_false, Bool.false_and]
      | _ => simp at h5
  | SetComp f gens sc q => simp [swapOk] at h5
  | _ => exact ps_set d.ctx.nd h1 (loc_of h2) he rfl (.inl (d.fn x))
theorem ps_setE (d : DefCtx G X) {i : Nat} {e : Ex} {x : Str} {p : Pos} {g : Expr} {pos : Pos} (h1 : X.N[i]? = some x) (h2 : isLoc X.env.scope x = true) (h4 : chkE X.N X.env.scope e g = true) (h5 : swapOk X.env.scope x p g = true) :
    PS X (.Assign [.Name x p] g pos) (tAsg (tE X.K G e) (gName i)) := by
  refine ps_setT d h1 h2 h5 (pe_ev G e X g d.ctx h4) fun f gens sc q eg hl hsw => ?_
  subst eg
  cases e with
  | lc tg it co e' =>
    obtain ⟨g', t, i', ifs, scope, p', eg, q1, q2, q3, q4, q5, q6⟩ := lc_parts d.ctx h4
    cases eg
    have base := ps_setLc (i := i) (spos := pos) (g := tG X.K tg) d.ctx.calm d.ctx.nd h1 hl hsw q3 (blkOk_by q1) (fun s H C cl fp => pg_tg (X := X.blk s H sc (compEnvC sc cl C X.env) fp) d.ctx.calm d.ctx.nd canSet_blk q2) q5 q6 (folded_of q4)
    rw [own_slots] at base
    refine ⟨fun pins s σ H D I hq => base.run pins s σ H D I ?_⟩
    obtain ⟨α, F, S, ρ, t, S', ok, L, ee, q⟩ := hq
    refine lc_read ⟨α, F, S, ρ, t, S', ok, L, ee, fun p o H' α' F' ok' st hp hn hF hpa h0 => ?_⟩
    obtain ⟨ok2, sm⟩ := ok'.frz hp hF hpa
    have is2 : Is X.K α' (upd F' p o) t (.ref p) := hn.is sm
    exact q (.ref p) H' α' _ ok2 (st.frz h0 hF) (.inl is2) fun _ => is2
  | cel e => cases e with
    | lc tg it co e' =>
      simp only [chkE, Bool.and_eq_true] at h4
      have h4' : chkE X.N X.env.scope (.lc tg it co e') (.ListComp f gens sc q) = true := by simpa only [chkE, Bool.and_eq_true] using h4.2
      obtain ⟨g', t, i', ifs, scope, p', eg, q1, q2, q3, q4, q5, q6⟩ := lc_parts d.ctx h4'
      cases eg
      have base := ps_setLc (i := i) (spos := pos) (g := tG X.K tg) d.ctx.calm d.ctx.nd h1 hl hsw q3 (blkOk_by q1) (fun s H C cl fp => pg_tg (X := X.blk s H sc (compEnvC sc cl C X.env) fp) d.ctx.calm d.ctx.nd canSet_blk q2) q5 q6 (folded_of q4)
      rw [own_slots] at base
      refine ⟨fun pins s σ H D I hq => base.run pins s σ H D I ?_⟩
      exact lc_read (cel_read hq)
    | _ => simp [chkE, newE] at h4
  | ext x e =>
    simp only [chkE] at h4
    split at h4
    · rename_i z; have := subX_call z; simp [callB] at this
    · cases h4
  | _ => simp [chkE] at h4
theorem ps_setN (d : DefCtx G X) {i : Nat} {e : Ex} {x : Str} {p : Pos} {g : Expr} {pos : Pos} (h1 : X.N[i]? = some x) (h2 : isLoc X.env.scope x = true) (h4 : chkE X.N X.env.scope e g = true) (h5 : swapOk X.env.scope x p g = true) (hn : newE e = true) :
    PS X (.Assign [.Name x p] g pos) (tAsg (tN X.K G e) (gName i)) := by
  refine ps_setT d h1 h2 h5 (pn_ev G e X g hn d.ctx h4) fun f gens sc q eg hl hsw => ?_
  subst eg
  cases e with
  | lc tg it co e' =>
    obtain ⟨g', t, i', ifs, scope, p', eg, q1, q2, q3, q4, q5, q6⟩ := lc_parts d.ctx h4
    cases eg
    have base := ps_setLc (i := i) (spos := pos) (g := tG X.K tg) d.ctx.calm d.ctx.nd h1 hl hsw q3 (blkOk_by q1) (fun s H C cl fp => pg_tg (X := X.blk s H sc (compEnvC sc cl C X.env) fp) d.ctx.calm d.ctx.nd canSet_blk q2) q5 q6 (folded_of q4)
    rw [own_slots] at base
    exact ⟨fun pins s σ H D I hq => base.run pins s σ H D I (lc_read hq)⟩
  | cel e => simp [newE] at hn
  | ext x e =>
    simp only [chkE] at h4
    split at h4
    · rename_i z; have := subX_call z; simp [callB] at this
    · cases h4
  | _ => simp [chkE] at h4
end
end RD

namespace RD
open PySem PySem.Spec PyProof.Rows L2

section
variable {K : PySem.W.Frag} {B : List Addr × Hp × Hp} {α α1 : List Addr} {F F1 H H1 : Hp} {S S1 : Store} {ρ ρ' : Env} {σ : L2.St}
theorem names_okB : ∀ {is : List Nat} {l : List T} {xs : List V} {ρ ρ' : Env} {σ : L2.St} {Q : L2.St → Hp → Prop}, IsL K α F l xs → Bd K B α F S H ρ σ → setAll ρ is l = some ρ' →
    (∀ σ', Bd K B α F S H ρ' σ' → Q σ' H) → gNs is xs σ H Q
  | [], [], _, ρ, ρ', σ, Q, h, L, e, q => by
    cases h; cases e
    exact ⟨rfl, q σ L⟩
  | [], _ :: _, _, _, _, _, _, _, _, e, _ => by simp [setAll] at e
  | _ :: _, [], _, _, _, _, _, _, _, e, _ => by simp [setAll] at e
  | i :: is, t :: ts, _, ρ, ρ', σ, Q, ⟨x, ys, e1, h1, h2⟩, L, e, q => by
    subst e1
    refine ⟨x, ys, rfl, ?_⟩
    show gNs is ys (σ.set i (some x)) H Q
    exact names_okB h2 (L.set h1) (by simpa [setAll] using e) q
theorem setAll_len : ∀ {is : List Nat} {l : List T} {ρ ρ' : Env}, setAll ρ is l = some ρ' → is.length = l.length
  | [], [], _, _, _ => rfl
  | [], _ :: _, _, _, e => by simp [setAll] at e
  | _ :: _, [], _, _, e => by simp [setAll] at e
  | i :: is, t :: ts, _, _, e => by
    have := setAll_len (is := is) (l := ts) (by simpa [setAll] using e)
    simp [this]
theorem bind_okB {tg : Tg} {t : T} {v : V} {Q : L2.St → Hp → Prop} (h : Is K α F t v) (b : Bd K B α F S H ρ σ) (e : bindTg ρ tg t = some ρ')
    (q : ∀ σ', Bd K B α F S H ρ' σ' → Q σ' H) : tG K tg v σ H Q := by
  cases tg with
  | name i =>
    have e' : some (ρ.set i (.val t)) = some ρ' := by cases t <;> exact e
    cases e'
    exact q _ (b.set h)
  | tup is =>
    cases t with
    | tup l =>
      obtain ⟨a, xs, rfl, h1, h2⟩ := h
      exact ⟨a, xs, rfl, sqt_same b.ok.sub h1, by rw [← h2.length, setAll_len e], names_okB h2 b e q⟩
    | _ => simp [bindTg] at e
end
theorem ixN_lt {n : Nat} {i : Int} {j : Nat} (h : ixN n i = some j) : j < n := (ixN_seq h).2.1
section
variable {X : Cx} {G : Glob} {B : List Addr × Hp × Hp}
/-- one target, a name -/
theorem chk_name1 {N : List Str} {sc : Scope} {st : St} {f : Stmt} (hst : (∃ i e, st = .set i e) ∨ ∃ i e, st = .own i e) (h : chkS N sc st f = true) : ∃ x p g pos, f = .Assign [.Name x p] g pos ∧ chkS N sc st (.Assign [.Name x p] g pos) = true := by
  cases f with
  | Assign ts g pos =>
    cases ts with
    | nil => rcases hst with ⟨i, e, rfl⟩ | ⟨i, e, rfl⟩ <;> simp [chkS] at h
    | cons t ts =>
      cases ts with
      | cons _ _ => rcases hst with ⟨i, e, rfl⟩ | ⟨i, e, rfl⟩ <;> simp [chkS] at h
      | nil =>
        cases t with
        | Name x p => exact ⟨x, p, g, pos, rfl, h⟩
        | _ => rcases hst with ⟨i, e, rfl⟩ | ⟨i, e, rfl⟩ <;> simp [chkS] at h
  | _ => rcases hst with ⟨i, e, rfl⟩ | ⟨i, e, rfl⟩ <;> simp [chkS] at h
theorem noComp_sw {g t : Expr} {n : Nat} {env : PySem.Env} (h : noComp g = true) : swapsWithSole [t] g n env = pure false := by
  cases g <;> first
    | rfl
    | (simp [noComp] at h)
theorem noComp_st {g t : Expr} {env : PySem.Env} (h : noComp g = true) : swappedStores [t] g env = pure none := by
  cases g <;> first
    | (simp [noComp] at h; done)
    | (cases t <;> rfl)
theorem parC_sw {g : Expr} {ts : List Expr} {k n : Nat} {p : Pos} {env : PySem.Env} (h : parC env.scope ts g = true) : swapsWithSole [.Tuple ts k p] g n env = pure false := by
  unfold parC at h
  split at h
  · rfl
  · cases h
theorem parC_st {g : Expr} {ts : List Expr} {k : Nat} {p : Pos} {env : PySem.Env} (h : parC env.scope ts g = true) : swappedStores [.Tuple ts k p] g env = pure none := by
  unfold parC at h
  split at h
  · rename_i x px y py a b l pt
    simp only [Bool.not_eq_true', Bool.and_eq_false_iff] at h
    have kx : isLocal env.scope x = false → (env.kindOf x == some .local) = false := fun h => by
      unfold isLocal at h
      have e : env.kindOf x = env.scope.names.lookup x := rfl
      rw [e]
      split at h
      · cases h
      · rename_i hn
        simpa using hn
    have ky : isLocal env.scope y = false → (env.kindOf y == some .local) = false := fun h => by
      unfold isLocal at h
      have e : env.kindOf y = env.scope.names.lookup y := rfl
      rw [e]
      split at h
      · cases h
      · rename_i hn
        simpa using hn
    unfold swappedStores
    simp only [List.length_cons, List.length_nil]
    split
    · rfl
    · have hl : ∀ (q : Expr → Option Str), (q (.Name x px) = none ∨ q (.Name y py) = none) → ([Expr.Name x px, Expr.Name y py].filterMap q).length ≠ 2 := fun q hq => by
        rcases hq with hq | hq
        · simp only [List.filterMap_cons, hq, List.filterMap_nil]
          split <;> simp
        · simp only [List.filterMap_cons, hq, List.filterMap_nil]
          split <;> simp
      have hne := hl (fun | .Name id pos => if env.kindOf id == some .local && pos.line == (([Expr.Name x px, Expr.Name y py].head?.map (·.pos.line)).getD 0) then some id else none | _ => none) (by
        rcases h with h | h
        · left; simp [kx h]
        · right; simp [ky h])
      simp_all
      intro _ _ h3
      exact absurd h3 hne
  · cases h
theorem sub_st {a b : Expr} {p : Pos} {g : Expr} {env : PySem.Env} : swappedStores [.Subscript a b p] g env = pure none := rfl
theorem subs_st {a b c d g h : Expr} {p q r t : Pos} {k l : Nat} {env : PySem.Env} (gg : goodF g = true) (gh : goodF h = true) : swappedStores [.Tuple [.Subscript a b p, .Subscript c d q] k r] (.Tuple [g, h] l t) env = pure none := by
  unfold swappedStores
  simp only [List.length_cons, List.length_nil, List.filterMap_cons, List.filterMap_nil]
  split
  · rfl
  · split
    · rfl
    · simp
theorem par_st {x y : Str} {p q pt pt2 : Pos} {a b : Expr} {k l : Nat} {env : PySem.Env} (hk : env.scope.kind = .function) (hx : env.scope.names.lookup x = some .local) (hy : env.scope.names.lookup y = some .local) (hxy : x ≠ y)
    (hl : (q.line == p.line) = true) (h1 : ([a, b].all (foldedForSure 8)) = false) (h2 : ([a, b].all (constantsAlone 8)) = false) (ga : goodF a = true) (gb : goodF b = true) :
    swappedStores [.Tuple [.Name x p, .Name y q] k pt] (.Tuple [a, b] l pt2) env = pure (some [x, y]) := by
  have kx : env.kindOf x = some .local := hx
  have ky : env.kindOf y = some .local := hy
  have hb : env.blockKind = .function := by unfold Env.blockKind; rw [hk]; rfl
  have hyx : (y == x) = false := by simpa using fun e => hxy e.symm
  have hl' : q.line = p.line := by simpa using hl
  have dd : [x, y].eraseDups = [x, y] := by simp [List.eraseDups_cons, hyx]
  unfold swappedStores
  simp [hb, kx, ky, hl', h1, h2, List.filterMap_cons, Expr.pos, dd]
  rintro (h | h)
  · cases a <;> simp [goodF] at ga h
  · cases b <;> simp [goodF] at gb h

theorem pg_at {X : Cx} {o c : Expr} {to tc : TE} {t : TSet} {p : Pos} (ho : PE X o to) (hc : PE X c tc) (hs : PSet X t) (gc : goodF c = true) : PG X (.Subscript o c p) (gSub to tc t) :=
  pg_sub ho hc hs fun v => by
    cases c <;> first
      | rfl
      | (simp [goodF] at gc)
/-! ### statements -/
def rInsert : V → List V → Hp → VK → Prop := fun x vs H Q => ∃ (l : Addr) (xs : List V) (i : Int) (y : V), x = .ref l ∧ vs = [.int i, y] ∧ H l = some (.lst xs) ∧ xs.length < sizeLine ∧ 0 ≤ i ∧ i < 2 ^ 63 ∧
    Q .non (upd H l (.lst (xs.take i.toNat ++ [y] ++ xs.drop i.toNat)))
theorem mt_ins {X : Cx} : MtR X "list.insert" rInsert := mt_insert
theorem cellL_inv {x : T} {S S2 : Store} {p : Nat × List T} (h : cellL x S = some (.ok p S2)) : ∃ n l, x = .ref n ∧ p = (n, l) ∧ S2 = S ∧ S[n]? = some (.lst l) := by
  cases x with
  | ref n =>
    simp only [cellL] at h
    cases hn : S[n]? with
    | none => simp only [hn] at h; cases h
    | some c =>
      cases c with
      | lst l => simp only [hn] at h; cases h; exact ⟨n, l, rfl, rfl, rfl, hn⟩
      | _ => simp only [hn] at h; cases h
  | _ => cases h
theorem appL_inv {x v : T} {S S2 : Store} {u : Unit} (h : appL x v S = some (.ok u S2)) : ∃ n l, x = .ref n ∧ S[n]? = some (.lst l) ∧ l.length < lim ∧ S2 = S.set n (.lst (l ++ [v])) := by
  cases x with
  | ref n =>
    simp only [appL] at h
    cases hn : S[n]? with
    | none => simp only [hn] at h; cases h
    | some c =>
      cases c with
      | lst l =>
        simp only [hn] at h
        split at h
        · rename_i hl; cases h; exact ⟨n, l, rfl, hn, hl, rfl⟩
        · cases h
      | _ => simp only [hn] at h; cases h
  | _ => cases h
theorem sameC_inv {n : Nat} {l : List T} {S S2 : Store} {u : Unit} (h : sameC n l S = some (.ok u S2)) : S2 = S ∧ S[n]? = some (.lst l) := by
  unfold sameC at h
  split at h
  · rename_i hn; cases h; exact ⟨rfl, hn⟩
  · cases h
theorem forLC_same {n : Nat} {l xs : List T} {f : T → Env → M (Env × Fl)} {ρ : Env} {S S2 : Store} {r : Env × Fl} (h : forLC n l f xs ρ S = some (.ok r S2)) : S[n]? = some (.lst l) := by
  cases xs with
  | nil => simp only [forLC] at h; obtain ⟨u, S1, e1, _⟩ := bnd_inv h; exact (sameC_inv e1).2
  | cons x xs => simp only [forLC] at h; obtain ⟨u, S1, e1, _⟩ := bnd_inv h; exact (sameC_inv e1).2
def tIC (K : PySem.W.Frag) (G : Glob) (e : Ex) : TI := fun σ H R => ∃ α F S ρ n S' l, OkS K α F S H ∧ Loc K α F H ρ σ ∧ ev G e ρ S = some (.ok (.ref n) S') ∧ S'[n]? = some (.lst l) ∧
  ∀ a H' α' F', OkS K α' F' S' H' → Step α F H α' F' H' → α'[n]? = some a → R (Itl K a) H'
theorem pi_cellT {tg : Expr} {e : Ex} {f : Expr} (he : PE X f (tE X.K G e)) : PI X tg f (tIC X.K G e) := by
  refine ⟨fun pins s σ H R I h => ?_⟩
  obtain ⟨α, F, S, ρ, n, S', l, ok, L, ee, hn, q⟩ := h
  refine thn (he.run pins s σ H (fun v H1 => ∃ α1 F1, OkS X.K α1 F1 S' H1 ∧ Step α F H α1 F1 H1 ∧ IsP X.K α1 F1 H1 (.ref n) v) I ⟨α, F, S, ρ, .ref n, S', ok, L, ee, fun v H1 α1 F1 ok1 st1 ip1 _ => ⟨α1, F1, ok1, st1, ip1⟩⟩) fun v s1 ⟨x, H1, I1, r1, α1, F1, ok1, st1, ip1⟩ => ?_
  have i2 : ∃ a, x = .ref a ∧ α1[n]? = some a := by
    rcases ip1 with h | ⟨_, _, _, z, _⟩
    · exact h
    · cases z
  obtain ⟨a, rfl, ha⟩ := i2
  obtain ⟨hF, xs, hH, hxs⟩ := ok1.cell n _ a hn ha
  cases r1
  obtain ⟨its, rv, p, hz⟩ := I1.list (.of hH)
  exact wpAny_pyIter_list p.isList (pi_one' I1 _ (turn_list a _) ⟨_, Heap.get?_push_size _ rfl, rfl, rfl⟩ (q a H1 α1 F1 ok1 st1 ha))
mutual
theorem ps_ev (d : DefCtx G X) : ∀ (st : St) (f : Stmt), chkS X.N X.env.scope st f = true → PS X f (tS X.K B (ex G st))
  | .set i e, f, h => by
    obtain ⟨x, p, g, pos, rfl, h⟩ := chk_name1 (.inl ⟨i, e, rfl⟩) h
    simp only [chkS, Bool.and_eq_true, decide_eq_true_eq] at h
    obtain ⟨⟨⟨⟨h1, h2⟩, h3⟩, h4⟩, h5⟩ := h
    refine ⟨fun pins s σ H D I ⟨α, F, S, ρ, r, S', b, ee, q⟩ => ?_⟩
    simp only [ex] at ee
    obtain ⟨t, S1, e1, ee⟩ := bnd_inv ee
    obtain ⟨hs, e1⟩ := strictly_inv e1
    obtain ⟨rfl, rfl⟩ := ret_inv ee
    exact (ps_setE d h1 h2 h4 h5).run pins s σ H D I ⟨α, F, S, ρ, t, _, b.ok, b.loc, e1, fun v H1 α1 F1 ok1 st1 _ is1 => q _ H1 α1 F1 ((b.step ok1 st1).set (is1 hs)) st1.later⟩
  | .own i e, f, h => by
    obtain ⟨x, p, g, pos, rfl, h⟩ := chk_name1 (.inr ⟨i, e, rfl⟩) h
    simp only [chkS, Bool.and_eq_true, decide_eq_true_eq] at h
    obtain ⟨⟨⟨⟨h1, h2⟩, h3⟩, h4⟩, h5⟩ := h
    refine ⟨fun pins s σ H D I ⟨α, F, S, ρ, r, S', b, ee, q⟩ => ?_⟩
    simp only [ex] at ee
    obtain ⟨t, S1, e1, ee⟩ := bnd_inv ee
    obtain ⟨hs, e1⟩ := strictly_inv e1
    cases t with
    | lst l =>
      obtain ⟨rfl, rfl⟩ := ret_inv ee
      exact (ps_setN d h1 h2 h4 h5 hs).run pins s σ H D I ⟨α, F, S, ρ, .lst l, _, b.ok, b.loc, e1, fun p o H1 α1 F1 ok1 st1 hp ⟨xs, eo, hi⟩ hF hpa h0 => by
        subst eo
        refine q _ H1 α1 F1 ((b.step ok1 st1).setOwn hp hF hpa ?_ hi fun j m ej ez => ?_) st1.later
        · cases z : B.2.2 p with
          | none => rfl
          | some o => exact absurd h0 (b.st.hx p (by rw [z]; exact fun y => by cases y))
        · obtain ⟨a, ys, e', k1, _⟩ := b.loc.at_ j _ ej
          rw [ez] at e'; cases e'
          rw [h0] at k1; cases k1⟩
    | _ => exact (fail_inv ee).elim
  | .unp is e, f, h => by
    rw [chkS.eq_def] at h
    simp only at h
    split at h
    · rename_i ts k p g pos
      simp only [Bool.and_eq_true, decide_eq_true_eq] at h
      obtain ⟨⟨⟨h1, h2⟩, h3⟩, h4⟩ := h
      refine ⟨fun pins s σ H D I ⟨α, F, S, ρ, r, S', b, ee, q⟩ => ?_⟩
      simp only [ex] at ee
      obtain ⟨t, S1, e1, ee⟩ := bnd_inv ee
      obtain ⟨hs, e1⟩ := strictly_inv e1
      cases t with
      | tup l =>
        cases hset : setAll ρ is l with
        | none => simp only [hset] at ee; exact (fail_inv ee).elim
        | some ρ' =>
          simp only [hset] at ee
          obtain ⟨rfl, rfl⟩ := ret_inv ee
          obtain ⟨n1, n2, n3⟩ := pgs_names (X := X) d.ctx.nd (canSet_def d) h1
          exact (ps_asg (pe_ev G e X g d.ctx h3) (pg_tup d.ctx.calm n1 n2 n3) (by rcases Bool.or_eq_true_iff.mp h4 with h4 | h4; exact noComp_sw h4; exact parC_sw h4) (by rcases Bool.or_eq_true_iff.mp h4 with h4 | h4; exact noComp_st h4; exact parC_st h4)).run pins s σ H D I ⟨α, F, S, ρ, _, _, b.ok, b.loc, e1, fun v H1 α1 F1 ok1 st1 _ is1 => by
            exact bind_okB (tg := .tup is) (is1 hs) (b.step ok1 st1) hset fun σ' b' => q σ' H1 α1 F1 b' st1.later⟩
      | _ => exact (fail_inv ee).elim
    · cases h
  | .par is es, f, h => by
    rw [chkS.eq_def] at h
    simp only at h
    split at h
    · rename_i x p y q k pt a b' k2 pt2 pos
      split at h
      · rename_i i j
        simp only [Bool.and_eq_true, decide_eq_true_eq, Bool.not_eq_true'] at h
        obtain ⟨⟨⟨⟨⟨⟨⟨⟨⟨⟨h1, h2⟩, h3⟩, h4⟩, h5⟩, h6⟩, h7⟩, h8⟩, h9⟩, h10⟩, h11⟩ := h
        have lx : X.env.scope.names.lookup x = some .local := by unfold isLocal at h4; split at h4 <;> first | assumption | cases h4
        have ly : X.env.scope.names.lookup y = some .local := by unfold isLocal at h5; split at h5 <;> first | assumption | cases h5
        have gs := goods_of h8
        have hxy : x ≠ y := fun z => h3 (nodup_ix d.ctx.nd (x := x) h1 (by rw [z]; exact h2))
        refine ⟨fun pins s σ H D I ⟨α, F, S, ρ, r, S', b, ee, qq⟩ => ?_⟩
        simp only [ex] at ee
        obtain ⟨l, S1, e1, ee⟩ := bnd_inv ee
        obtain ⟨hs, e1⟩ := strictly_inv e1
        cases hset : setAll ρ [i, j] l with
        | none => simp only [hset] at ee; exact (fail_inv ee).elim
        | some ρ' =>
          simp only [hset] at ee
          obtain ⟨rfl, rfl⟩ := ret_inv ee
          refine (ps_par d.ctx.calm d.ctx.nd h1 h2 h3 lx ly (pa_ev G es X _ d.ctx h8) (par_st d.kind lx ly hxy h9 h10 h11 (gs a (by simp)) (gs b' (by simp)))).run pins s σ H D I ⟨α, F, S, ρ, l, _, b.ok, b.loc, e1, fun vs H1 α1 F1 ok1 st1 _ is1 => ?_⟩
          have hl := setAll_len hset
          match l, hset, hl, is1 hs with
          | [t, u], hset, hl, ⟨v, ws, ev, i1, w, zs, ew, i2, ez⟩ =>
            subst ev ew ez
            cases hset
            exact ⟨v, w, rfl, qq _ H1 α1 F1 (((b.step ok1 st1).set i1).set i2) st1.later⟩
          | [], hset, hl, _ => cases hl
          | [_], hset, hl, _ => cases hl
          | _ :: _ :: _ :: _, hset, hl, _ => cases hl
      · cases h
    · cases h
  | .put o i e, f, h => by
    rw [chkS.eq_def] at h
    simp only at h
    split at h
    · rename_i a c p g pos
      simp only [Bool.and_eq_true, decide_eq_true_eq] at h
      obtain ⟨⟨⟨h1, h2⟩, h3⟩, h4⟩ := h
      refine ⟨fun pins s σ H D I ⟨α, F, S, ρ, r, S', b, ee, q⟩ => ?_⟩
      simp only [ex] at ee
      obtain ⟨v, S1, e1, ee⟩ := bnd_inv ee
      obtain ⟨hs, e1⟩ := strictly_inv e1
      obtain ⟨t, S2, e2, ee⟩ := bnd_inv ee
      obtain ⟨k, S3, e3, ee⟩ := bnd_inv ee
      obtain ⟨u, S4, e4, ee⟩ := bnd_inv ee
      obtain ⟨rfl, rfl⟩ := ret_inv ee
      refine (ps_asg (pe_ev G e X g d.ctx h3) (pg_at (pe_ev G o X a d.ctx h1) (pe_ev G i X c d.ctx h2) set_list (good_of h2)) (noComp_sw h4) sub_st).run pins s σ H D I ⟨α, F, S, ρ, v, S1, b.ok, b.loc, e1, fun w1 H1 α1 F1 ok1 st1 _ is1 => ⟨α1, F1, S1, ρ, t, S2, ok1, (b.step ok1 st1).loc, e2, fun w2 H2 α2 F2 ok2 st2 ip2 _ => ⟨α2, F2, S2, ρ, k, S3, ok2, ((b.step ok1 st1).step ok2 st2).loc, e3, fun w3 H3 α3 F3 ok3 st3 ip3 _ => ?_⟩⟩⟩
      have b3 := ((b.step ok1 st1).step ok2 st2).step ok3 st3
      unfold putC at e4
      cases t with
      | ref n =>
        simp only at e4
        cases hn : S3[n]? with
        | none => simp only [hn] at e4; cases e4
        | some c =>
          cases c with
          | lst l =>
            simp only [hn] at e4
            cases k with
            | int k =>
              simp only at e4
              cases hj : ixN l.length k with
              | none => simp only [hj] at e4; cases e4
              | some j =>
                simp only [hj] at e4
                cases e4
                have i2 : ∃ x, w2 = .ref x ∧ α3[n]? = some x := by
                  rcases ip2.step st3 with h | ⟨_, _, _, z, _⟩
                  · exact h
                  · cases z
                obtain ⟨x, rfl, hx⟩ := i2
                obtain ⟨hF, xs, hH, hxs⟩ := ok3.cell n _ x hn hx
                refine ⟨x, xs, k, j, rfl, ip3.int, hH, by rw [← hxs.length]; exact hj, ?_⟩
                exact q _ _ α3 F3 (b3.cell hn hx (hxs.set j ((st3.is (st2.is (is1 hs)))))) ((st1.later.trans st2.later).trans st3.later)
            | _ => cases e4
          | _ => simp only [hn] at e4; cases e4
      | _ => cases e4
    · cases h
  | .putO j i e, f, h => by
    rw [chkS.eq_def] at h
    simp only at h
    split at h
    · rename_i x px c p g pos
      simp only [Bool.and_eq_true, decide_eq_true_eq] at h
      obtain ⟨⟨⟨⟨⟨h1, h2⟩, h3⟩, h4⟩, h5⟩, h6⟩ := h
      obtain ⟨k1, k2, _⟩ := okN_of h3
      refine ⟨fun pins s σ H D I ⟨α, F, S, ρ, r, S', b, ee, q⟩ => ?_⟩
      simp only [ex] at ee
      obtain ⟨v, S1, e1, ee⟩ := bnd_inv ee
      obtain ⟨hs, e1⟩ := strictly_inv e1
      obtain ⟨k, S2, e2, ee⟩ := bnd_inv ee
      cases ho : getO ρ j with
      | none => simp only [ho] at ee; exact (fail_inv ee).elim
      | some l =>
        cases k with
        | int k =>
          simp only [ho] at ee
          cases hj : ixN l.length k with
          | none => simp only [hj] at ee; exact (fail_inv ee).elim
          | some n =>
            simp only [hj] at ee
            obtain ⟨rfl, rfl⟩ := ret_inv ee
            have hρ : ρ[j]? = some (.own l) := by
              unfold getO at ho
              split at ho
              · rename_i l' z; cases ho; exact z
              · cases ho
            refine (ps_asg (pe_ev G e X g d.ctx h5) (pg_at (pe_var h1 (vis_of h2) k1 k2) (pe_ev G i X c d.ctx h4) set_list (good_of h4)) (noComp_sw h6) sub_st).run pins s σ H D I ⟨α, F, S, ρ, v, S1, b.ok, b.loc, e1, fun w1 H1 α1 F1 ok1 st1 _ is1 => ?_⟩
            have b1 := b.step ok1 st1
            obtain ⟨a, xs, ea, c1, c2, c3, c4⟩ := b1.loc.at_ j _ hρ
            refine ⟨.ref a, getD_some ea, α1, F1, S1, ρ, .int k, _, ok1, b1.loc, e2, fun w3 H3 α3 F3 ok3 st3 ip3 _ => ?_⟩
            have b3 := b1.step ok3 st3
            obtain ⟨a', ys, ea', d1, d2, d3, d4⟩ := b3.loc.at_ j _ hρ
            rw [ea] at ea'; cases ea'
            refine ⟨a, ys, k, n, rfl, ip3.int, d1, by rw [← d4.length]; exact hj, ?_⟩
            exact q _ _ α3 F3 (b3.poke hρ ea (d4.set n (st3.is (is1 hs)))) (st1.later.trans st3.later)
        | _ => simp only [ho] at ee; exact (fail_inv ee).elim
    · cases h
  | .swapO j a b' e f', f, h => by
    rw [chkS.eq_def] at h
    simp only at h
    split at h
    · rename_i x px c p1 y py c2 p2 kk pt g g2 kk2 pt2 pos
      simp only [Bool.and_eq_true, decide_eq_true_eq] at h
      obtain ⟨⟨⟨⟨⟨⟨⟨h1, h2⟩, h3⟩, h4⟩, h5⟩, h6⟩, h7⟩, h8⟩ := h
      subst h2
      obtain ⟨k1, k2, _⟩ := okN_of h4
      have g1 := good_of h7
      have g2' := good_of h8
      refine ⟨fun pins s σ H D I ⟨α, F, S, ρ, r, S', b, ee, q⟩ => ?_⟩
      simp only [ex] at ee
      obtain ⟨v, S1, e1, ee⟩ := bnd_inv ee
      obtain ⟨hs, e1⟩ := strictly_inv e1
      obtain ⟨w, S2, e2, ee⟩ := bnd_inv ee
      obtain ⟨hs2, e2⟩ := strictly_inv e2
      cases ho : getO ρ j with
      | none => simp only [ho] at ee; exact (fail_inv ee).elim
      | some l =>
        have hρ : ρ[j]? = some (.own l) := by
          unfold getO at ho
          split at ho
          · rename_i l' z; cases ho; exact z
          · cases ho
        simp only [ho] at ee
        obtain ⟨k, S3, e3, ee⟩ := bnd_inv ee
        cases k with
        | int k =>
          simp only at ee
          cases hj : ixN l.length k with
          | none => simp only [hj] at ee; exact (fail_inv ee).elim
          | some n =>
            simp only [hj] at ee
            obtain ⟨k', S4, e4, ee⟩ := bnd_inv ee
            cases k' with
            | int k' =>
              simp only at ee
              cases hj2 : ixN l.length k' with
              | none => simp only [hj2] at ee; exact (fail_inv ee).elim
              | some n2 =>
                simp only [hj2] at ee
                obtain ⟨rfl, rfl⟩ := ret_inv ee
                have hpv : PE X (.Name x px) (tVar j) := pe_var h1 (vis_of h3) k1 k2
                have hpv2 : PE X (.Name x py) (tVar j) := pe_var h1 (vis_of h3) k1 k2
                refine (ps_asg (pe_tup (pa_cons (pe_ev G e X g d.ctx h7) (pa_cons (pe_ev G f' X g2 d.ctx h8) pa_nil (star_of g2')) (star_of g1))) (pg_tup (n := 2) d.ctx.calm (pgs_cons (pg_at hpv (pe_ev G a X c d.ctx h5) set_list (good_of h5)) (pgs_cons (pg_at hpv2 (pe_ev G b' X c2 d.ctx h6) set_list (good_of h6)) pgs_nil))) rfl (subs_st g1 g2')).run pins s σ H D I ⟨α, F, S, ρ, v, S1, b.ok, b.loc, e1, fun w1 H1 α1 F1 ok1 st1 _ is1 =>
                  ⟨α1, F1, S1, ρ, w, S2, ok1, (b.step ok1 st1).loc, e2, fun w2 H2 α2 F2 ok2 st2 _ is2 => ⟨by show 2 ≤ sizeLine; exact Nat.le_trans (by decide) line1000, fun p hp => ?_⟩⟩⟩
                have ok3 := ok2.loose (o := .tup [w1, w2]) hp
                have st3 : Step α2 F2 H2 α2 F2 (upd H2 p (.tup [w1, w2])) := .loose hp
                have b3 := ((b.step ok1 st1).step ok2 st2).step ok3 st3
                obtain ⟨a1, xs, ea, c1, c2', c3, c4⟩ := b3.loc.at_ j _ hρ
                refine ⟨p, [w1, w2], rfl, .of upd_same, rfl, w1, [w2], rfl, ⟨.ref a1, getD_some ea, α2, F2, S2, ρ, .int k, S3, ok3, b3.loc, e3, fun w3 H4 α4 F4 ok4 st4 ip4 _ => ?_⟩⟩
                have b4 := b3.step ok4 st4
                obtain ⟨a2, ys, ea2, d1, d2, d3, d4⟩ := b4.loc.at_ j _ hρ
                rw [ea] at ea2; cases ea2
                refine ⟨a1, ys, k, n, rfl, ip4.int, d1, by rw [← d4.length]; exact hj, ?_⟩
                have b5 := b4.poke hρ ea (d4.set n (st4.is (st3.is (st2.is (is1 hs)))))
                have hρ2 : (ρ.set j (.own (l.set n v)))[j]? = some (.own (l.set n v)) := by
                  rw [List.getElem?_set_self (List.getElem?_eq_some_iff.mp hρ).1]
                refine ⟨w2, [], rfl, ⟨.ref a1, getD_some ea, α4, F4, S3, _, .int k', _, b5.ok, b5.loc, e4, fun w6 H6 α6 F6 ok6 st6 ip6 _ => ?_⟩⟩
                have b6 := b5.step ok6 st6
                obtain ⟨a3, zs, ea3, f1, f2, f3, f4⟩ := b6.loc.at_ j _ hρ2
                rw [ea] at ea3; cases ea3
                refine ⟨a1, zs, k', n2, rfl, ip6.int, f1, by rw [← f4.length, List.length_set]; exact hj2, rfl, ?_⟩
                have b7 := b6.poke hρ2 ea (f4.set n2 (st6.is (st4.is (st3.is (is2 hs2)))))
                rw [List.set_set] at b7
                exact q _ _ α6 F6 b7 ((((st1.later.trans st2.later).trans st3.later).trans st4.later).trans st6.later)
            | _ => exact (fail_inv ee).elim
        | _ => exact (fail_inv ee).elim
    · cases h
  | .aug i o e, f, h => by
    rw [chkS.eq_def] at h
    simp only at h
    split at h
    · rename_i x px o' g pos
      simp only [Bool.and_eq_true, decide_eq_true_eq] at h
      obtain ⟨⟨⟨⟨h1, h2⟩, h3⟩, h4⟩, h5⟩ := h
      subst h4
      refine ⟨fun pins s σ H D I ⟨α, F, S, ρ, r, S', b, ee, q⟩ => ?_⟩
      simp only [ex] at ee
      cases hg : getV ρ i with
      | none => simp only [hg] at ee; exact (fail_inv ee).elim
      | some t =>
        cases t with
        | int a =>
          simp only [hg] at ee
          obtain ⟨y, S1, e1, ee⟩ := bnd_inv ee
          obtain ⟨v0, ev0, iv0⟩ := b.loc.var hg
          cases o with
          | add =>
            cases y with
            | int c =>
              obtain ⟨rfl, rfl⟩ := ret_inv ee
              exact (ps_aug d.ctx.nd h1 (loc_of h2) (pe_ev G e X g d.ctx h5) ip_add (.inl (d.fn x))).run pins s σ H D I ⟨v0, ev0, α, F, S, ρ, _, _, b.ok, b.loc, e1, fun v H1 α1 F1 ok1 st1 ip1 _ => ⟨a, c, iv0, ip1.int, q _ H1 α1 F1 ((b.step ok1 st1).set rfl) st1.later⟩⟩
            | _ => exact (fail_inv ee).elim
          | sub =>
            cases y with
            | int c =>
              obtain ⟨rfl, rfl⟩ := ret_inv ee
              exact (ps_aug d.ctx.nd h1 (loc_of h2) (pe_ev G e X g d.ctx h5) ip_sub (.inl (d.fn x))).run pins s σ H D I ⟨v0, ev0, α, F, S, ρ, _, _, b.ok, b.loc, e1, fun v H1 α1 F1 ok1 st1 ip1 _ => ⟨a, c, iv0, ip1.int, q _ H1 α1 F1 ((b.step ok1 st1).set rfl) st1.later⟩⟩
            | _ => exact (fail_inv ee).elim
          | _ => exact (fail_inv ee).elim
        | _ => simp only [hg] at ee; exact (fail_inv ee).elim
    · cases h
  | .app i e, f, h => by
    rw [chkS.eq_def] at h
    simp only at h
    split at h
    · rename_i x px m qp g rp pos
      simp only [Bool.and_eq_true, decide_eq_true_eq] at h
      obtain ⟨⟨⟨⟨⟨h1, h2⟩, h3⟩, h4⟩, h5⟩, h6⟩ := h
      subst h4
      obtain ⟨k1, k2, _⟩ := okN_of h3
      have gg := good_of h5
      refine ⟨fun pins s σ H D I ⟨α, F, S, ρ, r, S', b, ee, q⟩ => ?_⟩
      simp only [ex] at ee
      obtain ⟨v, S1, e1, ee⟩ := bnd_inv ee
      obtain ⟨hs, e1⟩ := strictly_inv e1
      cases ho : getO ρ i with
      | none => simp only [ho] at ee; exact (fail_inv ee).elim
      | some l =>
        have hρ : ρ[i]? = some (.own l) := by
          unfold getO at ho
          split at ho
          · rename_i l' z; cases ho; exact z
          · cases ho
        simp only [ho] at ee
        by_cases hl : l.length < lim
        · rw [if_pos hl] at ee
          obtain ⟨rfl, rfl⟩ := ret_inv ee
          have hfew : ((backTo rp (starEach [g] X.env)).all (fun x => !x.1) && (backToKw rp (keywordEach [] X.env)).all (fun x => x.1.isSome) && decide ([g].length + ([] : List Keyword).length + (if ([] : List Keyword).isEmpty then 0 else 1) < 30)) = true := by
            rw [star_of gg]; rfl
          have base : PE X (.Call (.Attribute (.Name x px) "append" qp) [g] [] rp) (tBM X.K "list" rAppend (tVar i) (tCons (tE X.K G e) tNil)) :=
            pe_bm PySem.F.plainAttrs_list PySem.F.slot_list_append PySem.F.type_list_append mt_append (pe_var h1 (vis_of h2) k1 k2) (pa_cons (pe_ev G e X g d.ctx h5) pa_nil (star_of gg)) rfl hfew h6 (star_of gg) rfl
          obtain ⟨a, xs, ea, c1, c2, c3, c4⟩ := b.loc.at_ i _ hρ
          refine (ps_expr base rfl).run pins s σ H D I ⟨.ref a, getD_some ea, .inl ⟨rfl, _, .inl (.inl c1)⟩, α, F, S, ρ, v, _, b.ok, b.loc, e1, fun w H1 α1 F1 ok1 st1 _ is1 => ?_⟩
          have b1 := b.step ok1 st1
          obtain ⟨a', ys, ea', d1, d2, d3, d4⟩ := b1.loc.at_ i _ hρ
          rw [ea] at ea'; cases ea'
          exact ⟨a, ys, w, rfl, rfl, d1, by rw [← d4.length]; exact lim_line (Nat.le_of_lt hl), q _ _ α1 F1 (b1.poke hρ ea (d4.snoc (is1 hs))) st1.later⟩
        · rw [if_neg hl] at ee; exact (fail_inv ee).elim
    · cases h
  | .forC tg e body, f, h => by
    rw [chkS.eq_def] at h
    simp only at h
    split at h
    · rename_i t g xs pos
      simp only [Bool.and_eq_true] at h
      obtain ⟨⟨h1, h2⟩, h3⟩ := h
      have hb := pss_ev d body xs h3
      refine ⟨fun pins s σ H D I ⟨α, F, S, ρ, r, S', b, ee, q⟩ => ?_⟩
      simp only [ex] at ee
      obtain ⟨x0, S1, e1, ee1⟩ := bnd_inv ee
      clear ee
      obtain ⟨p0, S2, e2, ee2⟩ := bnd_inv ee1
      clear ee1
      obtain ⟨n, l, ex0, ep0, eS2, hn⟩ := cellL_inv e2
      subst ex0 ep0 eS2
      refine (ps_for d.own d.ctx.calm (pi_cellT (pe_ev G e X g d.ctx h2)) (pg_tg d.ctx.calm d.ctx.nd (canSet_def d) h1) hb (folded_of (good_of h2))).run pins s σ H D I ⟨α, F, S, ρ, n, S2, l, b.ok, b.loc, e1, hn, fun a H1 α1 F1 ok1 st1 ha => ?_⟩
      refine ⟨fun i m σ' H3 => ∃ α3 F3 Si ρi, m = l.length - i ∧ i ≤ l.length ∧ Bd X.K B α3 F3 Si H3 ρi σ' ∧ Later α1 F1 α3 F3 ∧ forLC n l (forF tg (exs G body)) (l.drop i) ρi Si = some (.ok r S'), ⟨_, α1, F1, S2, ρ, rfl, Nat.zero_le _, b.step ok1 st1, .refl, by simpa using ee2⟩, ?_⟩
      rintro i m σ3 H3 ⟨α3, F3, Si, ρi, rfl, hil, b3, la3, e3⟩
      have hcell : Si[n]? = some (.lst l) := forLC_same e3
      have ha3 : α3[n]? = some a := by
        obtain ⟨⟨β, eβ⟩, _⟩ := la3
        rw [eβ, List.getElem?_append_left (List.getElem?_eq_some_iff.mp ha).1]
        exact ha
      obtain ⟨hF3, ys, hH3, hys⟩ := b3.ok.cell n _ a hcell ha3
      have hlen := hys.length
      by_cases hlt : i < l.length
      · refine .inr ⟨⟨ys, ys[i]'(by omega), .of hH3, by simp⟩, fun σ' H' => ∃ α3 F3 Si ρi, Bd X.K B α3 F3 Si H' ρi σ' ∧ Later α1 F1 α3 F3 ∧ forLC n l (forF tg (exs G body)) (l.drop (i + 1)) ρi Si = some (.ok r S'), fun σ' H' hN => ?_, fun x H4 hy => ?_⟩
        · obtain ⟨α4, F4, Sj, ρj, h⟩ := hN
          exact ⟨l.length - (i + 1), by omega, α4, F4, Sj, ρj, rfl, hlt, h⟩
        · obtain ⟨eH, hy⟩ := hy
          subst eH
          obtain ⟨t4, et, is4⟩ := hys.get' (hy ys (.of hH3))
          have dr : l.drop i = t4 :: l.drop (i + 1) := by
            obtain ⟨_, hx⟩ := List.getElem?_eq_some_iff.mp et
            rw [← hx]
            exact List.drop_eq_getElem_cons hlt
          rw [dr] at e3
          simp only [forLC] at e3
          obtain ⟨_, S4, e4, e3'⟩ := bnd_inv e3
          clear e3
          obtain ⟨eS4, _⟩ := sameC_inv e4
          subst eS4
          obtain ⟨r5, S5, e5, e6⟩ := bnd_inv e3'
          clear e3'
          unfold forF at e5
          cases hbind : bindTg ρi tg t4 with
          | none => rw [hbind] at e5; exact (fail_inv e5).elim
          | some ρ' =>
            rw [hbind] at e5
            refine bind_okB is4 b3 hbind fun σ5 b5 => ⟨α3, F3, _, ρ', r5, S5, b5, e5, ?_⟩
            obtain ⟨ρ5, fl⟩ := r5
            cases fl with
            | next => exact fun σ' H' α' F' b' l' => ⟨α', F', S5, ρ5, b', la3.trans l', e6⟩
            | cont => exact fun σ' H' α' F' b' l' => ⟨α', F', S5, ρ5, b', la3.trans l', e6⟩
            | brk =>
              obtain ⟨rfl, rfl⟩ := ret_inv e6
              exact fun σ' H' α' F' b' l' => q σ' H' α' F' b' ((st1.later.trans la3).trans l')
            | ret t =>
              obtain ⟨rfl, rfl⟩ := ret_inv e6
              exact q
      · have hi : i = l.length := by omega
        subst hi
        refine .inl ⟨⟨ys, .of hH3, by omega⟩, ?_⟩
        rw [List.drop_length] at e3
        simp only [forLC] at e3
        obtain ⟨_, S4, e4, e3'⟩ := bnd_inv e3
        clear e3
        obtain ⟨eS4, _⟩ := sameC_inv e4
        subst eS4
        obtain ⟨rfl, rfl⟩ := ret_inv e3'
        exact q σ3 H3 α3 F3 b3 (st1.later.trans la3)
    · cases h
  | .appC i e, f, h => by
    rw [chkS.eq_def] at h
    simp only at h
    split at h
    · rename_i x px m qp g rp pos
      simp only [Bool.and_eq_true, decide_eq_true_eq] at h
      obtain ⟨⟨⟨⟨⟨h1, h2⟩, h3⟩, h4⟩, h5⟩, h6⟩ := h
      subst h4
      obtain ⟨k1, k2, _⟩ := okN_of h3
      have gg := good_of h5
      refine ⟨fun pins s σ H D I ⟨α, F, S, ρ, r, S', b, ee, q⟩ => ?_⟩
      simp only [ex] at ee
      cases ho : getV ρ i with
      | none => simp only [ho] at ee; exact (fail_inv ee).elim
      | some t =>
        have hρ : ρ[i]? = some (.val t) := by
          unfold getV at ho
          split at ho
          · rename_i l' z; cases ho; exact z
          · cases ho
        simp only [ho] at ee
        obtain ⟨p0, S0, e0, ee1⟩ := bnd_inv ee
        clear ee
        obtain ⟨n, l0, et, _, eS0, hn0⟩ := cellL_inv e0
        subst et eS0
        obtain ⟨v, S1, e1', ee2⟩ := bnd_inv ee1
        obtain ⟨hs, e1⟩ := strictly_inv e1'
        obtain ⟨u, S2, e2, ee3⟩ := bnd_inv ee2
        obtain ⟨rfl, rfl⟩ := ret_inv ee3
        obtain ⟨n', l, en, hn, hl, eS2⟩ := appL_inv e2
        cases en
        subst eS2
        have hfew : ((backTo rp (starEach [g] X.env)).all (fun x => !x.1) && (backToKw rp (keywordEach [] X.env)).all (fun x => x.1.isSome) && decide ([g].length + ([] : List Keyword).length + (if ([] : List Keyword).isEmpty then 0 else 1) < 30)) = true := by
          rw [star_of gg]; rfl
        have base : PE X (.Call (.Attribute (.Name x px) "append" qp) [g] [] rp) (tBM X.K "list" rAppend (tVar i) (tCons (tE X.K G e) tNil)) :=
          pe_bm PySem.F.plainAttrs_list PySem.F.slot_list_append PySem.F.type_list_append mt_append (pe_var h1 (vis_of h2) k1 k2) (pa_cons (pe_ev G e X g d.ctx h5) pa_nil (star_of gg)) rfl hfew h6 (star_of gg) rfl
        obtain ⟨xv, ea, a, exv, ha⟩ := b.loc.at_ i _ hρ
        subst exv
        obtain ⟨hF0, xs0, hH0, hx0⟩ := b.ok.cell n _ a hn0 ha
        refine (ps_expr base rfl).run pins s σ H D I ⟨.ref a, getD_some ea, .inl ⟨rfl, _, .inl (.inl hH0)⟩, α, F, _, ρ, v, _, b.ok, b.loc, e1, fun w H1 α1 F1 ok1 st1 _ is1 => ?_⟩
        have b1 := b.step ok1 st1
        have ha1 : α1[n]? = some a := by
          obtain ⟨⟨β, eβ⟩, _⟩ := st1.later
          rw [eβ, List.getElem?_append_left (List.getElem?_eq_some_iff.mp ha).1]
          exact ha
        obtain ⟨hF1, ys, hH1, hys⟩ := ok1.cell n _ a hn ha1
        exact ⟨a, ys, w, rfl, rfl, hH1, by rw [← hys.length]; exact lim_line (Nat.le_of_lt hl), q _ _ α1 F1 (b1.cell hn ha1 (hys.snoc (is1 hs))) st1.later⟩
    · cases h
  | .any, f, h => ⟨fun pins s σ H D I ⟨α, F, S, ρ, r, S', b, ee, q⟩ => by simp only [ex] at ee; exact (fail_inv ee).elim⟩
  | .ins i a e, f, h => by
    rw [chkS.eq_def] at h
    simp only at h
    split at h
    · rename_i x px m qp g0 g rp pos
      simp only [Bool.and_eq_true, decide_eq_true_eq] at h
      obtain ⟨⟨⟨⟨⟨⟨h1, h2⟩, h3⟩, h4⟩, h50⟩, h5⟩, h6⟩ := h
      subst h4
      obtain ⟨k1, k2, _⟩ := okN_of h3
      have gg := good_of h5
      have gg0 := good_of h50
      refine ⟨fun pins s σ H D I ⟨α, F, S, ρ, r, S', b, ee, q⟩ => ?_⟩
      simp only [ex] at ee
      obtain ⟨kk, S0, e0, ee⟩ := bnd_inv ee
      obtain ⟨v, S1, e1, ee⟩ := bnd_inv ee
      obtain ⟨hs, e1⟩ := strictly_inv e1
      cases ho : getO ρ i with
      | none => simp only [ho] at ee; exact (fail_inv ee).elim
      | some l =>
       cases kk with
       | int k =>
        have hρ : ρ[i]? = some (.own l) := by
          unfold getO at ho
          split at ho
          · rename_i l' z; cases ho; exact z
          · cases ho
        simp only [ho] at ee
        by_cases hl : l.length < lim ∧ 0 ≤ k ∧ k < 1000000
        · rw [if_pos hl] at ee
          obtain ⟨rfl, rfl⟩ := ret_inv ee
          have hst : starEach [g0, g] X.env = (false, eval g0 X.env) :: starEach [g] X.env := star_of gg0
          have hfew : ((backTo rp (starEach [g0, g] X.env)).all (fun x => !x.1) && (backToKw rp (keywordEach [] X.env)).all (fun x => x.1.isSome) && decide ([g0, g].length + ([] : List Keyword).length + (if ([] : List Keyword).isEmpty then 0 else 1) < 30)) = true := by
            rw [star_of gg0, star_of gg]; rfl
          have base : PE X (.Call (.Attribute (.Name x px) "insert" qp) [g0, g] [] rp) (tBM X.K "list" rInsert (tVar i) (tCons (tE X.K G a) (tCons (tE X.K G e) tNil))) :=
            pe_bm PySem.F.plainAttrs_list PySem.F.slot_list_insert PySem.F.type_list_insert mt_ins (pe_var h1 (vis_of h2) k1 k2) (pa_cons (pe_ev G a X g0 d.ctx h50) (pa_cons (pe_ev G e X g d.ctx h5) pa_nil (star_of gg)) (star_of gg0)) rfl hfew h6 (star_of gg0) (by rw [star_of gg]; rfl)
          obtain ⟨ad, xs, ea, c1, c2, c3, c4⟩ := b.loc.at_ i _ hρ
          refine (ps_expr base rfl).run pins s σ H D I ⟨.ref ad, getD_some ea, .inl ⟨rfl, _, .inl (.inl c1)⟩, α, F, S, ρ, _, S0, b.ok, b.loc, e0, fun w0 H0 α0 F0 ok0 st0 ip0 _ => ?_⟩
          have b0 := b.step ok0 st0
          refine ⟨α0, F0, S0, ρ, v, _, b0.ok, b0.loc, e1, fun w H1 α1 F1 ok1 st1 _ is1 => ?_⟩
          have b1 := b0.step ok1 st1
          obtain ⟨a', ys, ea', d1, d2, d3, d4⟩ := b1.loc.at_ i _ hρ
          rw [ea] at ea'; cases ea'
          have hk : w0 = V.int k := ip0.int
          refine ⟨ad, ys, k, w, rfl, by rw [hk], d1, by rw [← d4.length]; exact lim_line (Nat.le_of_lt hl.1), hl.2.1, by omega, ?_⟩
          exact q _ _ α1 F1 (b1.poke hρ ea (((d4.take _).app (.one (is1 hs))).app (d4.drop _))) (st0.later.trans st1.later)
        · rw [if_neg hl] at ee; exact (fail_inv ee).elim
       | _ => simp only [ho] at ee; exact (fail_inv ee).elim
    · cases h
  | .expr e, f, h => by
    rw [chkS.eq_def] at h
    simp only at h
    split at h
    · rename_i g pos
      simp only [Bool.and_eq_true] at h
      obtain ⟨h1, h2⟩ := h
      have sw : swapsWith g none pos.line X.env = pure false := by
        cases g <;> first
          | rfl
          | (simp at h2)
      refine ⟨fun pins s σ H D I ⟨α, F, S, ρ, r, S', b, ee, q⟩ => ?_⟩
      simp only [ex] at ee
      obtain ⟨v, S1, e1, ee⟩ := bnd_inv ee
      obtain ⟨rfl, rfl⟩ := ret_inv ee
      exact (ps_expr (pe_ev G e X g d.ctx h1) sw).run pins s σ H D I ⟨α, F, S, ρ, v, _, b.ok, b.loc, e1, fun w H1 α1 F1 ok1 st1 _ _ => q _ H1 α1 F1 (b.step ok1 st1) st1.later⟩
    · cases h
  | .ret e, f, h => by
    rw [chkS.eq_def] at h
    simp only at h
    split at h
    · rename_i g pos
      refine ⟨fun pins s σ H D I ⟨α, F, S, ρ, r, S', b, ee, q⟩ => ?_⟩
      simp only [ex] at ee
      obtain ⟨v, S1, e1, ee⟩ := bnd_inv ee
      obtain ⟨hs, e1⟩ := strictly_inv e1
      obtain ⟨rfl, rfl⟩ := ret_inv ee
      exact (ps_ret (pe_ev G e X g d.ctx h)).run pins s σ H D I ⟨α, F, S, ρ, v, _, b.ok, b.loc, e1, fun w H1 α1 F1 ok1 st1 _ is1 => q w H1 α1 F1 ok1 (b.st.trans st1) (is1 hs)⟩
    · cases h
  | .retN, f, h => by
    rw [chkS.eq_def] at h
    simp only at h
    split at h
    · refine ⟨fun pins s σ H D I ⟨α, F, S, ρ, r, S', b, ee, q⟩ => ?_⟩
      obtain ⟨rfl, rfl⟩ := ret_inv ee
      exact ps_retN.run pins s σ H D I (q .non H α F b.ok b.st rfl)
    · cases h
  | .pass, f, h => by
    rw [chkS.eq_def] at h
    simp only at h
    split at h
    · refine ⟨fun pins s σ H D I ⟨α, F, S, ρ, r, S', b, ee, q⟩ => ?_⟩
      obtain ⟨rfl, rfl⟩ := ret_inv ee
      exact ps_pass.run pins s σ H D I (q σ H α F b .refl)
    · cases h
  | .brk, f, h => by
    rw [chkS.eq_def] at h
    simp only at h
    split at h
    · refine ⟨fun pins s σ H D I ⟨α, F, S, ρ, r, S', b, ee, q⟩ => ?_⟩
      obtain ⟨rfl, rfl⟩ := ret_inv ee
      exact ps_break.run pins s σ H D I (q σ H α F b .refl)
    · cases h
  | .cont, f, h => by
    rw [chkS.eq_def] at h
    simp only at h
    split at h
    · refine ⟨fun pins s σ H D I ⟨α, F, S, ρ, r, S', b, ee, q⟩ => ?_⟩
      obtain ⟨rfl, rfl⟩ := ret_inv ee
      exact ps_continue.run pins s σ H D I (q σ H α F b .refl)
    · cases h
  | .ite c a b', f, h => by
    rw [chkS.eq_def] at h
    simp only at h
    split at h
    · rename_i g xs ys pos
      simp only [Bool.and_eq_true] at h
      obtain ⟨⟨h1, h2⟩, h3⟩ := h
      have ha := pss_ev d a xs h2
      have hb := pss_ev d b' ys h3
      refine ⟨fun pins s σ H D I ⟨α, F, S, ρ, r, S', b, ee, q⟩ => ?_⟩
      simp only [ex] at ee
      obtain ⟨x, S1, e1, ee⟩ := bnd_inv ee
      cases x with
      | bl k =>
        refine (ps_if (pt_ev G c X g d.ctx h1) ha hb).run pins s σ H D I ⟨α, F, S, ρ, k, S1, b.ok, b.loc, e1, fun H1 α1 F1 ok1 st1 => ?_⟩
        cases k with
        | true =>
          simp only [if_true] at ee ⊢
          exact ⟨α1, F1, S1, ρ, r, S', b.step ok1 st1, ee, q.later st1.later⟩
        | false =>
          simp only [Bool.false_eq_true, if_false] at ee ⊢
          exact ⟨α1, F1, S1, ρ, r, S', b.step ok1 st1, ee, q.later st1.later⟩
      | _ => exact (fail_inv ee).elim
    · cases h
  | .forr tg it body, f, h => by
    rw [chkS.eq_def] at h
    simp only at h
    split at h
    · rename_i t g xs pos
      simp only [Bool.and_eq_true] at h
      obtain ⟨⟨h1, h2⟩, h3⟩ := h
      have hb := pss_ev d body xs h3
      refine ⟨fun pins s σ H D I ⟨α, F, S, ρ, r, S', b, ee, q⟩ => ?_⟩
      simp only [ex] at ee
      obtain ⟨items, S1, e1, ee⟩ := bnd_inv ee
      obtain ⟨hs, e1⟩ := strictly_inv e1
      refine (ps_for d.own d.ctx.calm (pi_ev G it X t g _ d.ctx h2 (tup_tg h1)) (pg_tg d.ctx.calm d.ctx.nd (canSet_def d) h1) hb (folded_of (goodI_of h2))).run pins s σ H D I ⟨α, F, S, ρ, items, S1, b.ok, b.loc, e1, fun J H1 α1 F1 ok1 st1 _ WL => ?_⟩
      have W := WL hs
      refine ⟨fun i m σ' H3 => ∃ α3 F3 Si ρi, m = items.length - i ∧ i ≤ items.length ∧ Bd X.K B α3 F3 Si H3 ρi σ' ∧ Later α1 F1 α3 F3 ∧ forL (forF tg (exs G body)) (items.drop i) ρi Si = some (.ok r S'), ⟨_, α1, F1, S1, ρ, rfl, Nat.zero_le _, b.step ok1 st1, .refl, by simpa using ee⟩, ?_⟩
      rintro i m σ3 H3 ⟨α3, F3, Si, ρi, rfl, hil, b3, la3, e3⟩
      by_cases hlt : i < items.length
      · refine .inr ⟨W.goes i α3 F3 H3 Si b3.ok la3 hlt, fun σ' H' => ∃ α3 F3 Si ρi, Bd X.K B α3 F3 Si H' ρi σ' ∧ Later α1 F1 α3 F3 ∧ forL (forF tg (exs G body)) (items.drop (i + 1)) ρi Si = some (.ok r S'), fun σ' H' hN => ?_, fun x H4 hy => ?_⟩
        · obtain ⟨α4, F4, Sj, ρj, h⟩ := hN
          exact ⟨items.length - (i + 1), by omega, α4, F4, Sj, ρj, rfl, hlt, h⟩
        · obtain ⟨F4, t4, et, ok4, st4, is4⟩ := W.yields i α3 F3 H3 Si x H4 b3.ok la3 hlt hy
          have dr : items.drop i = t4 :: items.drop (i + 1) := by
            obtain ⟨_, hx⟩ := List.getElem?_eq_some_iff.mp et
            rw [← hx]
            exact List.drop_eq_getElem_cons hlt
          rw [dr] at e3
          simp only [forL] at e3
          obtain ⟨r5, S5, e5, e6⟩ := bnd_inv e3
          unfold forF at e5
          cases hbind : bindTg ρi tg t4 with
          | none => rw [hbind] at e5; exact (fail_inv e5).elim
          | some ρ' =>
            rw [hbind] at e5
            refine bind_okB is4 (b3.step ok4 st4) hbind fun σ5 b5 => ⟨α3, F4, Si, ρ', r5, S5, b5, e5, ?_⟩
            obtain ⟨ρ5, fl⟩ := r5
            cases fl with
            | next => exact fun σ' H' α' F' b' l' => ⟨α', F', S5, ρ5, b', (la3.trans st4.later).trans l', e6⟩
            | cont => exact fun σ' H' α' F' b' l' => ⟨α', F', S5, ρ5, b', (la3.trans st4.later).trans l', e6⟩
            | brk =>
              obtain ⟨rfl, rfl⟩ := ret_inv e6
              exact fun σ' H' α' F' b' l' => q σ' H' α' F' b' (((st1.later.trans la3).trans st4.later).trans l')
            | ret t =>
              obtain ⟨rfl, rfl⟩ := ret_inv e6
              exact q
      · have hi : i = items.length := by omega
        subst hi
        refine .inl ⟨W.stops α3 F3 H3 Si b3.ok la3, ?_⟩
        rw [List.drop_length] at e3
        obtain ⟨rfl, rfl⟩ := ret_inv e3
        exact q σ3 H3 α3 F3 b3 (st1.later.trans la3)
    · cases h
  | .whl c body, f, h => by
    rw [chkS.eq_def] at h
    simp only at h
    split at h
    · rename_i g xs pos
      simp only [Bool.and_eq_true] at h
      obtain ⟨h1, h2⟩ := h
      have hb := pss_ev d body xs h2
      refine ⟨fun pins s σ H D I ⟨α, F, S, ρ, r, S', b, ee, q⟩ => ?_⟩
      simp only [ex] at ee
      refine (ps_while d.own (pt_ev G c X g d.ctx h1) hb).run pins s σ H D I ⟨fun m σ' H3 => ∃ α3 F3 Si ρi, Bd X.K B α3 F3 Si H3 ρi σ' ∧ Later α F α3 F3 ∧ whL (ev G c) (exs G body) m ρi Si = some (.ok r S'), ⟨_, α, F, S, ρ, b, .refl, ee⟩, ?_⟩
      rintro m σ3 H3 ⟨α3, F3, Si, ρi, b3, la3, e3⟩
      cases m with
      | zero => exact (fail_inv e3).elim
      | succ m =>
        simp only [whL] at e3
        obtain ⟨x, S4, e4, e3⟩ := bnd_inv e3
        cases x with
        | bl k =>
          refine ⟨α3, F3, Si, ρi, k, S4, b3.ok, b3.loc, e4, fun H4 α4 F4 ok4 st4 => ?_⟩
          cases k with
          | true =>
            simp only [if_true]
            simp only at e3
            obtain ⟨r5, S5, e5, e6⟩ := bnd_inv e3
            refine ⟨fun σ' H' => ∃ α3 F3 Si ρi, Bd X.K B α3 F3 Si H' ρi σ' ∧ Later α F α3 F3 ∧ whL (ev G c) (exs G body) m ρi Si = some (.ok r S'), fun σ' H' hN => ⟨m, Nat.lt_succ_self m, hN⟩, α4, F4, S4, ρi, r5, S5, b3.step ok4 st4, e5, ?_⟩
            obtain ⟨ρ5, fl⟩ := r5
            cases fl with
            | next => exact fun σ' H' α' F' b' l' => ⟨α', F', S5, ρ5, b', (la3.trans st4.later).trans l', e6⟩
            | cont => exact fun σ' H' α' F' b' l' => ⟨α', F', S5, ρ5, b', (la3.trans st4.later).trans l', e6⟩
            | brk =>
              obtain ⟨rfl, rfl⟩ := ret_inv e6
              exact fun σ' H' α' F' b' l' => q σ' H' α' F' b' ((la3.trans st4.later).trans l')
            | ret t =>
              obtain ⟨rfl, rfl⟩ := ret_inv e6
              exact q
          | false =>
            simp only [Bool.false_eq_true, if_false]
            obtain ⟨rfl, rfl⟩ := ret_inv e3
            exact q σ3 H4 α4 F4 (b3.step ok4 st4) (la3.trans st4.later)
        | _ => exact (fail_inv e3).elim
    · cases h
  | .frz i, f, h => by simp [chkS] at h
theorem pss_ev (d : DefCtx G X) : ∀ (ss : Sts) (fs : List Stmt), chkSs X.N X.env.scope ss fs = true → PSs X fs (tS X.K B (exs G ss))
  | .nil, fs, h => by
    cases fs with
    | nil =>
      refine ⟨fun pins s σ H D I ⟨α, F, S, ρ, r, S', b, ee, q⟩ => ?_⟩
      obtain ⟨rfl, rfl⟩ := ret_inv ee
      exact pss_nil.run pins s σ H D I (q σ H α F b .refl)
    | cons _ _ => simp [chkSs] at h
  | .cons st ss, fs, h => by
    by_cases hf : ∃ i, st = .frz i
    · obtain ⟨i, rfl⟩ := hf
      have h' : chkSs X.N X.env.scope ss fs = true := by simpa only [chkSs] using h
      have hr := pss_ev d ss fs h'
      refine ⟨fun pins s σ H D I ⟨α, F, S, ρ, r, S', b, ee, q⟩ => ?_⟩
      simp only [exs, andThen, ex] at ee
      obtain ⟨r1, S1, e1, e2⟩ := bnd_inv ee
      cases hi : ρ[i]? with
      | none => rw [hi] at e1; exact (fail_inv e1).elim
      | some sl =>
        cases sl with
        | none => rw [hi] at e1; exact (fail_inv e1).elim
        | val t =>
          rw [hi] at e1
          obtain ⟨rfl, rfl⟩ := ret_inv e1
          exact hr.run pins s σ H D I ⟨α, F, _, ρ, r, S', b, e2, q⟩
        | own l =>
          rw [hi] at e1
          obtain ⟨rfl, rfl⟩ := ret_inv e1
          obtain ⟨F', b', la⟩ := b.frz hi
          exact hr.run pins s σ H D I ⟨α, F', _, _, r, S', b', e2, q.later la⟩
    · have h' : ∃ f fs', fs = f :: fs' ∧ chkS X.N X.env.scope st f = true ∧ chkSs X.N X.env.scope ss fs' = true := by
        cases fs with
        | nil => cases st <;> first
          | exact absurd ⟨_, rfl⟩ hf
          | (simp [chkSs] at h)
        | cons f fs' => cases st <;> first
          | exact absurd ⟨_, rfl⟩ hf
          | (simp only [chkSs, Bool.and_eq_true] at h; exact ⟨f, fs', rfl, h⟩)
      obtain ⟨f, fs', rfl, h1, h2⟩ := h'
      have ha := ps_ev d st f h1
      have hb := pss_ev d ss fs' h2
      refine ⟨fun pins s σ H D I ⟨α, F, S, ρ, r, S', b, ee, q⟩ => ?_⟩
      simp only [exs, andThen] at ee
      obtain ⟨r1, S1, e1, e2⟩ := bnd_inv ee
      refine (pss_cons ha hb).run pins s σ H D I ⟨α, F, S, ρ, r1, S1, b, e1, ?_⟩
      obtain ⟨ρ1, fl⟩ := r1
      cases fl with
      | next => exact fun σ' H' α' F' b' l' => ⟨α', F', S1, ρ1, r, S', b', e2, q.later l'⟩
      | cont => obtain ⟨rfl, rfl⟩ := ret_inv e2; exact q
      | brk => obtain ⟨rfl, rfl⟩ := ret_inv e2; exact q
      | ret t => obtain ⟨rfl, rfl⟩ := ret_inv e2; exact q
end
end
end RD

namespace RD
open PySem PySem.Spec PyProof.Rows L2
theorem zip_find {ps : List Str} : ∀ {us : List Value}, ps.Nodup → us.length = ps.length → ps.filterMap (fun n => ((ps.zip us).lookup n).map (n, ·)) = ps.zip us := by
  have key : ∀ (ps : List Str) (us : List Value) (m : Str → Option Value), ps.Nodup → us.length = ps.length → (∀ n ∈ ps, m n = (ps.zip us).lookup n) → ps.filterMap (fun n => (m n).map (n, ·)) = ps.zip us := by
    intro ps
    induction ps with
    | nil => intro us m _ _ _; rfl
    | cons p ps ih =>
      intro us m nd hl hm
      cases us with
      | nil => cases hl
      | cons u us =>
        have h1 : m p = some u := by rw [hm p (by simp)]; simp [List.lookup]
        rw [List.filterMap_cons, h1]
        simp only [Option.map_some, List.zip_cons_cons]
        rw [ih us m (List.nodup_cons.mp nd).2 (by simpa using hl) fun n hn => ?_]
        rw [hm n (List.mem_cons_of_mem _ hn)]
        have : (n == p) = false := by
          have := (List.nodup_cons.mp nd).1
          simpa using fun e : n = p => this (e ▸ hn)
        simp [List.lookup, this]
  exact fun {us} nd hl => key ps us _ nd hl fun _ _ => rfl
theorem zip_some {ps : List Str} {us : List Value} (hl : us.length = ps.length) {n : Str} (h : n ∈ ps) : ((ps.zip us).lookup n).isNone = false := by
  induction ps generalizing us with
  | nil => cases h
  | cons p ps ih =>
    cases us with
    | nil => cases hl
    | cons u us =>
      by_cases e : n = p
      · subst e; simp [List.lookup]
      · have e' : (n == p) = false := by simpa using e
        simp only [List.zip_cons_cons, List.lookup, e']
        exact ih (by simpa using hl) (by simpa [e] using h)
theorem bind_plain {x qual : Str} {params : Arguments} {body : List Stmt} {scope : Scope} {kV doc pm cdv ct : Value} {an : Option Addr} {ps : List Str} {us : List Value} (h : plainA ps params = true) (hl : us.length = ps.length) :
    bindArgs (PySem.W.fnOf x qual params body scope .none kV doc pm an cdv ct) ⟨us, []⟩ = pure (ps.zip us) := by
  obtain ⟨po, as, va, ko, kd, kw, df⟩ := params
  simp only [plainA, Bool.and_eq_true, decide_eq_true_eq, List.isEmpty_iff, Option.isNone_iff_eq_none] at h
  obtain ⟨⟨⟨⟨⟨rfl, rfl⟩, rfl⟩, rfl⟩, rfl⟩, nd⟩ := h
  have hm : (as.map (·.arg)).filter (fun n => (((as.map (·.arg)).zip us).lookup n).isNone) = [] := by
    rw [List.filter_eq_nil_iff]
    intro n hn
    rw [zip_some hl hn]; exact fun z => by cases z
  have hl' : us.length = as.length := by simpa using hl
  have z : notAStandIn Value.none = pure () := rfl
  have q := zip_find nd hl
  rw [List.filterMap_map] at q
  have ht : List.take as.length (List.map (fun x => x.arg) as) = List.map (fun x => x.arg) as := List.take_of_length_le (by simp)
  simp [bindArgs, PySem.W.fnOf, seqItems?, hl', hm, z, ht, q]
/-! ### a table of defs -/
structure Dn where
  name : Str
  ps : List Str
  N : List Str
  body : Sts
  tab : Option Nat
def startE (N : List Str) (ts : List T) : Env := ts.map Slot.val ++ List.replicate (N.length - ts.length) .none
noncomputable def runB (G : Glob) (d : Dn) (ts : List T) : M T := if ts.length = d.ps.length then bnd (exs G d.body (startE d.N ts)) fun r => match r.2 with
  | .next => RD.ret .non
  | .ret t => RD.ret t
  | _ => fail else fail
noncomputable def callK (cst : Str → Option T) (fuel : Nat) (ds : List Dn) : Nat → Str → List T → M T
  | 0, _, _ => fail
  | k + 1, f, ts => match ds.find? fun d => decide (d.name = f) with
    | some d => runB ⟨callK cst fuel ds k, cst, fuel, f, d.tab⟩ d ts
    | none => fail
def tabOf (ds : List Dn) (f : Str) : Option Nat := (ds.find? fun d => decide (d.name = f)).bind (·.tab)
noncomputable def gl (cst : Str → Option T) (fuel : Nat) (ds : List Dn) (k : Nat) (f : Str) : Glob := ⟨callK cst fuel ds k, cst, fuel, f, tabOf ds f⟩
def scopeB (N P : List Str) (sc : Scope) : Bool := (match sc.kind with | .function => true | _ => false) && !sc.isCoroutine && !sc.isGenerator && decide N.Nodup && decide (N.take P.length = P) &&
  P.all (fun x => match sc.names.lookup x with | some .local => true | some .cell => true | _ => false) && sc.names.all (fun y => match y.2 with | .free => false | _ => true)
theorem scope_ok {N P : List Str} {sc : Scope} (h : scopeB N P sc = true) : FnScope N P sc := by
  simp only [scopeB, Bool.and_eq_true, decide_eq_true_eq, Bool.not_eq_true'] at h
  obtain ⟨⟨⟨⟨⟨⟨h1, h2⟩, h3⟩, h4⟩, h5⟩, h6⟩, h7⟩ := h
  refine ⟨?_, h2, h3, h4, h5, fun x hx => ?_, fun y hy => ?_⟩
  · split at h1
    · assumption
    · cases h1
  · have := List.all_eq_true.mp h6 x hx
    split at this
    · exact .inl (by assumption)
    · exact .inr (by assumption)
    · cases this
  · have := List.all_eq_true.mp h7 y hy
    split at this
    · cases this
    · rename_i hn; exact hn
def dnB (d : Dn) (st : Stmt) : Bool := plainA d.ps (defArgs st) && scopeB d.N d.ps (defScope st) && chkSs d.N (defScope st) d.body (defBody st)
def defOf (p : Dn × Stmt) : He.DefD := ⟨(p.1.name, none), p.1.name, p.1.name, defArgs p.2, defBody p.2, defScope p.2, [], []⟩
section
variable {P : Program} {w : World} {K : PySem.W.Frag} {mg : Str → Option Value} {base : Heap}
/-- a def stands as its text says -/
structure DnAt (K : PySem.W.Frag) (mg : Str → Option Value) (p : Dn × Stmt) (a : Addr) (fd : FuncData) : Prop where
  fun_ : FunD K p.1.name p.1.name (defArgs p.2) (defBody p.2) (defScope p.2) [] [] a fd
  at_ : mg p.1.name = some (.ref a)
  ok : dnB p.1 p.2 = true
def CstOk (mg : Str → Option Value) (cst : Str → Option T) : Prop := ∀ x t, cst x = some t → ∃ u v, mg x = some u ∧ RelV v u ∧ ((∃ i, t = .int i ∧ v = .int i) ∨ ∃ z, t = .str z ∧ v = .str z)
theorem start_loc {α : List Addr} {F H : Hp} {N : List Str} {ts : List T} {vs : List V} (h : IsL K α F ts vs) : Loc K α F H (startE N ts) (L2.start N vs) := by
  have hl := h.length
  have noown : ∀ (i : Nat) (l : List T), (startE N ts)[i]? ≠ some (.own l) := by
    intro i l e
    unfold startE at e
    by_cases hi : i < (ts.map Slot.val).length
    · rw [List.getElem?_append_left hi, List.getElem?_map] at e
      cases q : ts[i]? with
      | none => rw [q] at e; cases e
      | some t => rw [q] at e; cases e
    · rw [List.getElem?_append_right (by omega), List.getElem?_replicate] at e
      split at e <;> cases e
  refine ⟨by simp [startE, L2.start, hl], fun i s e => ?_, fun i j l m _ e _ => absurd e (noown i l)⟩
  unfold startE at e
  by_cases hi : i < (ts.map Slot.val).length
  · rw [List.getElem?_append_left hi, List.getElem?_map] at e
    cases q : ts[i]? with
    | none => rw [q] at e; cases e
    | some t =>
      rw [q] at e; cases e
      obtain ⟨x, e1, e2⟩ := h.get q
      refine ⟨x, ?_, e2⟩
      unfold L2.start
      rw [List.getD_eq_getElem?_getD, List.getElem?_append_left (by simpa [← hl] using hi), List.getElem?_map, e1]; rfl
  · rw [List.getElem?_append_right (by omega), List.getElem?_replicate] at e
    split at e
    · cases e; trivial
    · cases e
theorem runB_inv {G : Glob} {d : Dn} {ts : List T} {S S' : Store} {t : T} (h : runB G d ts S = some (.ok t S')) : ts.length = d.ps.length ∧ ∃ r, exs G d.body (startE d.N ts) S = some (.ok r S') ∧ ((r.2 = .next ∧ t = .non) ∨ r.2 = .ret t) := by
  unfold runB at h
  by_cases hl : ts.length = d.ps.length
  · rw [if_pos hl] at h
    refine ⟨hl, ?_⟩
    obtain ⟨r, S1, e1, e2⟩ := bnd_inv h
    obtain ⟨ρ, fl⟩ := r
    cases fl with
    | next => obtain ⟨rfl, rfl⟩ := ret_inv e2; exact ⟨_, e1, .inl ⟨rfl, rfl⟩⟩
    | ret u => obtain ⟨rfl, rfl⟩ := ret_inv e2; exact ⟨_, e1, .inr rfl⟩
    | brk => exact (fail_inv e2).elim
    | cont => exact (fail_inv e2).elim
  · rw [if_neg hl] at h; exact (fail_inv h).elim
theorem callK_inv {cst : Str → Option T} {fuel : Nat} {ds : List Dn} {k : Nat} {f : Str} {ts : List T} {S S' : Store} {t : T} (h : callK cst fuel ds k f ts S = some (.ok t S')) :
    ∃ j d, k = j + 1 ∧ d ∈ ds ∧ d.name = f ∧ ds.find? (fun d => decide (d.name = f)) = some d ∧ runB (gl cst fuel ds j f) d ts S = some (.ok t S') := by
  cases k with
  | zero => exact (fail_inv h).elim
  | succ j =>
    unfold callK at h
    cases q : ds.find? fun d => decide (d.name = f) with
    | none => rw [q] at h; exact (fail_inv h).elim
    | some d =>
      rw [q] at h
      have eg : gl cst fuel ds j f = ⟨callK cst fuel ds j, cst, fuel, f, d.tab⟩ := by unfold gl tabOf; rw [q]; rfl
      exact ⟨j, d, rfl, List.mem_of_find?_eq_some q, by simpa using List.find?_some q, rfl, by rw [eg]; exact h⟩
/-- a def that makes lambdas: its code object, and the table where theirs lie -/
def TabOk (K : PySem.W.Frag) (mg : Str → Option Value) (base : Heap) (d : Dn) : Prop := ∀ P, d.tab = some P → ∀ a oc od fd sl, mg d.name = some (.ref a) → K.lookup a = some ⟨oc, od, .func fd, sl⟩ → ∃ c, fd.code = .ref c ∧ LamX.TabB base mg c P
/-- EVERY DEF KEEPS ITS PROMISE: what its text is worth -/
theorem defs_ok {dt : List (Dn × Stmt)} {cst : Str → Option T} {fuel : Nat} (hat : ∀ p ∈ dt, ∃ a fd, DnAt K mg p a fd) (hc : CstOk mg cst) (hfree : ∀ x ∈ freeNames, mg x = none) (htab : ∀ p ∈ dt, TabOk K mg base p.1) :
    ∀ (k : Nat) (p : Dn × Stmt) (a : Addr) (fd : FuncData), p ∈ dt → (dt.map (·.1)).find? (fun d => decide (d.name = p.1.name)) = some p.1 → DnAt K mg p a fd → FnOk P w K mg base CX0 k a fd p.1.ps (spF K p.1.ps.length (callK cst fuel (dt.map (·.1)) k p.1.name)) := by
  intro k
  induction k with
  | zero =>
    intro p a fd hp hfi D
    refine ⟨fun vs H Q E h => ?_, fun A outer s H args us vs Q E _ _ _ _ h => ?_⟩
    · obtain ⟨α, F, S, ts, t, S', hl, _⟩ := h; exact hl
    · obtain ⟨α, F, S, ts, t, S', hl, ok, hv, e, q⟩ := h
      exact (fail_inv e).elim
  | succ k ih =>
    intro p a fd hp hfi D
    have hB := D.ok
    simp only [dnB, Bool.and_eq_true] at hB
    obtain ⟨⟨b1, b2⟩, b3⟩ := hB
    have SC := scope_ok b2
    obtain ⟨oc, od, dV, kV, doc, pm, an, cdv, ct, osl, efd, lk, hcd, _, _⟩ := D.fun_.ex
    have tabs : ∀ P, tabOf (dt.map (·.1)) p.1.name = some P → ∃ c, cdv = .ref c ∧ LamX.TabB base mg c P := fun P e => by
      unfold tabOf at e
      rw [hfi] at e
      obtain ⟨c, e1, e2⟩ := htab p hp P e a _ _ _ _ D.at_ lk
      rw [efd] at e1
      exact ⟨c, e1, e2⟩
    rw [efd] at lk ⊢
    refine fn_of lk hcd SC (fun vs H Q E h => ?_) fun A outer s H vs Q E hr h => ?_
    · obtain ⟨α, F, S, ts, t, S', hl, _⟩ := h; exact hl
    · obtain ⟨α, F, S, ts, t, S', hl, ok, hv, e, q⟩ := h
      obtain ⟨j, d, ej, hd, hn, hf, e⟩ := callK_inv e
      cases ej
      rw [hfi] at hf; cases hf
      obtain ⟨hlen, r, e1, hr2⟩ := runB_inv e
      have hctx : DefCtx (gl cst fuel (dt.map (·.1)) k p.1.name) (cxOf CX0 P w K mg base p.1.N p.1.name (defScope p.2) a cdv A outer s H E).nox := by
        refine ⟨⟨rfl, SC.nd, ?_, hc, hfree, fun f hf => ?_, hr.depth, fun P e => ⟨rfl, tabs P e⟩⟩, fun _ => rfl, PassesOwn.never, SC.kind⟩
        · have := hr.un
          show (A.deeper _).units + 200 < cLine
          omega
        · obtain ⟨us, S1, t1, S2, ef⟩ := hf
          obtain ⟨j, d, ek, hd, hn, hfd, e'⟩ := callK_inv ef
          obtain ⟨p', hp', rfl⟩ := List.mem_map.mp hd
          obtain ⟨a', fd', D'⟩ := hat p' hp'
          have hn' : p'.1.name = f := hn
          refine ⟨⟨a', fd', p'.1.ps, k, by rw [← hn']; exact D'.at_, D'.fun_.kp, ?_, hr, D'.fun_.bindsN fun _ _ _ _ _ _ us hl => ?_, fun ts S t S' e => ?_⟩⟩
          · have := ih p' a' fd' hp' (by rw [hn']; exact hfd) D'
            rw [hn'] at this
            exact this
          · have hb' := D'.ok
            simp only [dnB, Bool.and_eq_true] at hb'
            exact bind_plain hb'.1.1 hl
          · obtain ⟨j2, d2, ek2, hd2, hn2, hfd2, e2⟩ := callK_inv e
            rw [hfd] at hfd2; cases hfd2
            exact (runB_inv e2).1
      have hbd : PSs (cxOf CX0 P w K mg base p.1.N p.1.name (defScope p.2) a cdv A outer s H E) (defBody p.2) (tS K (α, F, H) (exs (gl cst fuel (dt.map (·.1)) k p.1.name) p.1.body)) := (pss_ev (B := (α, F, H)) hctx p.1.body _ b3).nox
      refine ⟨_, hbd, α, F, S, startE p.1.N ts, r, S', ⟨ok, start_loc hv, .refl, fun i l a' ei _ => ?_⟩, e1, ?_⟩
      · have L := start_loc (H := H) (N := p.1.N) hv
        have := L.at_ i _ ei
        exfalso
        unfold startE at ei
        by_cases hi : i < (ts.map Slot.val).length
        · rw [List.getElem?_append_left hi, List.getElem?_map] at ei
          cases q : ts[i]? with
          | none => rw [q] at ei; cases ei
          | some t => rw [q] at ei; cases ei
        · rw [List.getElem?_append_right (by omega), List.getElem?_replicate] at ei
          split at ei <;> cases ei
      · obtain ⟨ρ, fl⟩ := r
        rcases hr2 with ⟨h1, rfl⟩ | h1
        · simp only at h1; subst h1
          exact fun σ' H' α' F' b' l' => q .non H' α' F' b'.ok b'.st rfl
        · simp only at h1; subst h1
          exact fun v H' α' F' ok' st' is' => q v H' α' F' ok' st' is'
end
end RD

/-! Plain reasoning about what the evaluator gives. -/
namespace RD
open PySem

def Y {α : Type} (m : Option (Res α)) (P : α → Store → Prop) : Prop := ∃ a S, m = some (.ok a S) ∧ P a S
section
variable {α β : Type} {S : Store} {P : α → Store → Prop}
theorem Y.mono {m : Option (Res α)} {Q : α → Store → Prop} (h : Y m P) (k : ∀ a S, P a S → Q a S) : Y m Q := by
  obtain ⟨a, S, e, p⟩ := h
  exact ⟨a, S, e, k a S p⟩
@[simp] theorem y_some {a : α} : Y (some (.ok a S)) P ↔ P a S := ⟨fun ⟨_, _, e, p⟩ => by cases e; exact p, fun p => ⟨_, _, rfl, p⟩⟩
@[simp] theorem y_none : Y (none : Option (Res α)) P ↔ False := ⟨fun ⟨_, _, e, _⟩ => (nomatch e), False.elim⟩
@[simp] theorem y_ret {a : α} : Y (RD.ret a S) P ↔ P a S := y_some
@[simp] theorem y_fail : Y ((fail : M α) S) P ↔ False := y_none
@[simp] theorem y_bnd {m : M β} {f : β → M α} : Y (bnd m f S) P ↔ Y (m S) fun a S' => Y (f a S') P := by
  constructor
  · rintro ⟨a, S', e, p⟩
    obtain ⟨b, S1, e1, e2⟩ := bnd_inv e
    exact ⟨b, S1, e1, a, S', e2, p⟩
  · rintro ⟨b, S1, e1, a, S', e2, p⟩
    exact ⟨a, S', by rw [bnd_ok e1]; exact e2, p⟩
@[simp] theorem y_opt {o : Option α} : Y (opt o S) P ↔ ∃ a, o = some a ∧ P a S := by
  cases o with
  | none => simp [opt]
  | some a => simp [opt]
@[simp] theorem y_look {f : Store → Option α} : Y (look f S) P ↔ ∃ a, f S = some a ∧ P a S := by
  unfold look
  cases f S with
  | none => simp
  | some a => simp
@[simp] theorem y_str {b : Bool} {f : Env → M α} {ρ : Env} : Y (strictly b f ρ S) P ↔ b = true ∧ Y (f ρ S) P := by
  unfold strictly
  cases b <;> simp
theorem y_of {m : Option (Res α)} {a : α} (h : m = some (.ok a S)) (p : P a S) : Y m P := ⟨a, S, h, p⟩
end
section
variable {S : Store}
/-- a comprehension without a change of the store -/
theorem mapL_exact {f : T → M (List T)} {g : T → List T} : ∀ {l : List T}, (∀ x ∈ l, f x S = some (.ok (g x) S)) → mapL f l S = some (.ok (l.flatMap g) S)
  | [], _ => rfl
  | x :: xs, h => by
    unfold mapL
    rw [bnd_ok (h x (by simp)), bnd_ok (mapL_exact (l := xs) fun y hy => h y (List.mem_cons_of_mem _ hy))]
    rfl
theorem y_mapL {f : T → M (List T)} {I : Store → Prop} {R : T → Prop} {P : List T → Store → Prop} : ∀ {l : List T} {S : Store}, (∀ x ∈ l, ∀ S, I S → Y (f x S) fun ys S' => I S' ∧ ∀ y ∈ ys, R y) → I S →
    (∀ r S', I S' → (∀ y ∈ r, R y) → P r S') → Y (mapL f l S) P
  | [], S, _, i, q => y_ret.mpr (q [] S i (by simp))
  | x :: xs, S, h, i, q => by
    unfold mapL
    refine y_bnd.mpr ((h x (by simp) S i).mono fun ys S1 ⟨i1, r1⟩ => y_bnd.mpr ?_)
    refine y_mapL (l := xs) (fun y hy => h y (List.mem_cons_of_mem _ hy)) i1 fun r S' i2 r2 => y_ret.mpr (q _ S' i2 fun y hy => ?_)
    rcases List.mem_append.mp hy with hy | hy
    · exact r1 y hy
    · exact r2 y hy
/-- one value a turn, each related to its item -/
inductive All2 {α β : Type} (R : α → β → Prop) : List α → List β → Prop
  | nil : All2 R [] []
  | cons {a b l m} : R a b → All2 R l m → All2 R (a :: l) (b :: m)
theorem All2.len {α β : Type} {R : α → β → Prop} {l : List α} {m : List β} (h : All2 R l m) : l.length = m.length := by
  induction h with
  | nil => rfl
  | cons _ _ ih => simp [ih]
theorem All2.right {α β : Type} {Q : β → Prop} {l : List α} {m : List β} (h : All2 (fun _ y => Q y) l m) : ∀ y ∈ m, Q y := by
  induction h with
  | nil => intro y hy; cases hy
  | cons h _ ih =>
    intro y hy
    rcases List.mem_cons.mp hy with rfl | hy
    · exact h
    · exact ih y hy
theorem y_mapL1 {f : T → M (List T)} {I : Store → Prop} {R : T → T → Prop} {P : List T → Store → Prop} : ∀ {l : List T} {S : Store}, (∀ x ∈ l, ∀ S, I S → Y (f x S) fun ys S' => I S' ∧ ∃ y, ys = [y] ∧ R x y) → I S →
    (∀ r S', I S' → All2 R l r → P r S') → Y (mapL f l S) P
  | [], S, _, i, q => y_ret.mpr (q [] S i .nil)
  | x :: xs, S, h, i, q => by
    unfold mapL
    refine y_bnd.mpr ((h x (by simp) S i).mono fun ys S1 ⟨i1, y, e, r1⟩ => y_bnd.mpr ?_)
    subst e
    exact y_mapL1 (l := xs) (fun y hy => h y (List.mem_cons_of_mem _ hy)) i1 fun r S' i2 r2 => y_ret.mpr (q _ S' i2 (.cons r1 r2))
theorem y_forL {f : T → Env → M (Env × Fl)} {J : List T → Env → Store → Prop} {P : Env × Fl → Store → Prop} (ht : ∀ x xs ρ S, J (x :: xs) ρ S → Y (f x ρ S) fun r S' => match r.2 with
      | .next => J xs r.1 S'
      | .cont => J xs r.1 S'
      | .brk => P (r.1, .next) S'
      | .ret t => P (r.1, .ret t) S')
    (hd : ∀ ρ S, J [] ρ S → P (ρ, .next) S) : ∀ {l : List T} {ρ : Env} {S : Store}, J l ρ S → Y (forL f l ρ S) P
  | [], ρ, S, h => y_ret.mpr (hd ρ S h)
  | x :: xs, ρ, S, h => by
    unfold forL
    refine y_bnd.mpr ((ht x xs ρ S h).mono fun r S1 q => ?_)
    obtain ⟨ρ1, fl⟩ := r
    cases fl with
    | next => exact y_forL ht hd q
    | cont => exact y_forL ht hd q
    | brk => exact y_ret.mpr q
    | ret t => exact y_ret.mpr q
/-- a def of this body stands in the table under this name (its locals may be called otherwise) -/
def Has (ds : List Dn) (d : Dn) : Prop := ∃ e, (ds.find? fun e => decide (e.name = d.name)) = some e ∧ e.body = d.body ∧ e.ps.length = d.ps.length ∧ e.N.length = d.N.length
theorem y_callK {cst : Str → Option T} {fuel : Nat} {ds : List Dn} {k : Nat} {f : Str} {d : Dn} {ts : List T} {P : T → Store → Prop} (hf : Has ds d) (hl : ts.length = d.ps.length)
    (h : Y (exs (gl cst fuel ds k d.name) d.body (startE d.N ts) S) fun r S' => match r.2 with
      | .next => P .non S'
      | .ret t => P t S'
      | _ => False) (hn : d.name = f := by rfl) : Y (callK cst fuel ds (k + 1) f ts S) P := by
  subst hn
  obtain ⟨e', hf, hb, hps, hN⟩ := hf
  have e : callK cst fuel ds (k + 1) d.name ts = runB (gl cst fuel ds k d.name) e' ts := by
    have eg : gl cst fuel ds k d.name = ⟨callK cst fuel ds k, cst, fuel, d.name, e'.tab⟩ := by unfold gl tabOf; rw [hf]; rfl
    rw [eg]
    conv => lhs; unfold callK
    rw [hf]
  rw [e]
  unfold runB
  rw [if_pos (by rw [hps]; exact hl), hb]
  have eN : startE e'.N ts = startE d.N ts := by unfold startE; rw [hN]
  rw [eN]
  refine y_bnd.mpr (h.mono fun r S1 q => ?_)
  obtain ⟨ρ, fl⟩ := r
  cases fl with
  | next => exact y_ret.mpr q
  | ret t => exact y_ret.mpr q
  | brk => exact q.elim
  | cont => exact q.elim
end
end RD

/-! Steps of the evaluator, as equivalences for simp: the term's head alone is looked at. -/
namespace RD
open PySem

section
variable {G : Glob} {ρ : Env} {S : Store} {P : T → Store → Prop}
theorem map_ex {α β : Type} {o : Option α} {f : α → β} {Q : β → Prop} : (∃ a, o.map f = some a ∧ Q a) ↔ ∃ r, o = some r ∧ Q (f r) := by
  cases o with
  | none => exact ⟨fun ⟨_, e, _⟩ => (nomatch e), fun ⟨_, e, _⟩ => (nomatch e)⟩
  | some a => exact ⟨fun ⟨_, e, q⟩ => by cases e; exact ⟨a, rfl, q⟩, fun ⟨_, e, q⟩ => by cases e; exact ⟨_, rfl, q⟩⟩
@[simp] theorem ye_int {i : Int} : Y (ev G (.int i) ρ S) P ↔ P (.int i) S := by simp [ev]
@[simp] theorem ye_bl {i : Bool} : Y (ev G (.bl i) ρ S) P ↔ P (.bl i) S := by simp [ev]
@[simp] theorem ye_non : Y (ev G .non ρ S) P ↔ P .non S := by simp [ev]
@[simp] theorem ye_strc {i : Str} : Y (ev G (.str i) ρ S) P ↔ P (.str i) S := by simp [ev]
@[simp] theorem ye_var {i : Nat} : Y (ev G (.var i) ρ S) P ↔ ∃ t, getV ρ i = some t ∧ P t S := by simp [ev]
@[simp] theorem ye_peek {i : Nat} : Y (ev G (.peek i) ρ S) P ↔ ∃ t, getP ρ i = some t ∧ P t S := by simp [ev]
@[simp] theorem ye_glb {x : Str} : Y (ev G (.glb x) ρ S) P ↔ ∃ t, G.cst x = some t ∧ P t S := by simp [ev]
@[simp] theorem ye_not {a : Ex} : Y (ev G (.not a) ρ S) P ↔ Y (ev G a ρ S) fun x S1 => ∃ c, x = .bl c ∧ P (.bl (!c)) S1 := by
  simp only [ev, y_bnd]
  constructor <;> refine fun h => h.mono fun x S1 q => ?_
  · cases x with
    | bl c => exact ⟨c, rfl, y_ret.mp q⟩
    | _ => exact (y_fail.mp q).elim
  · obtain ⟨c, rfl, q⟩ := q
    exact y_ret.mpr q
theorem y_iff {α : Type} {m : Option (Res α)} {P Q : α → Store → Prop} (h : ∀ a S, P a S ↔ Q a S) : Y m P ↔ Y m Q := ⟨fun z => z.mono fun a S => (h a S).mp, fun z => z.mono fun a S => (h a S).mpr⟩
@[simp] theorem ye_neg {a : Ex} : Y (ev G (.neg a) ρ S) P ↔ Y (ev G a ρ S) fun x S1 => ∃ r, negT x = some r ∧ P r S1 := by simp [ev]
@[simp] theorem ye_ext {o : Xop} {a : Ex} : Y (ev G (.ext o a) ρ S) P ↔ Y (ev G a ρ S) fun x S1 => ∃ x', view S1 x = some x' ∧ ∃ r, extT G S1 o x' = some r ∧ P r S1 := by
  simp only [ev, y_bnd]
  refine y_iff fun x S1 => y_look.trans ?_
  cases view S1 x <;> simp
@[simp] theorem ext_lrng {x : T} : extT G S .lrng x = xopT .lrng x := rfl
@[simp] theorem ext_rev {x : T} : extT G S .rev x = xopT .rev x := rfl
@[simp] theorem ext_upper {x : T} : extT G S .upper x = xopT .upper x := rfl
@[simp] theorem ext_strOf {x : T} : extT G S .strOf x = xopT .strOf x := rfl
@[simp] theorem ext_lset {x : T} : extT G S .lset x = xopT .lset x := rfl
@[simp] theorem ext_lsc {x : T} : extT G S .lsc x = xopT .lsc x := rfl
@[simp] theorem ext_dzip {x : T} : extT G S .dzip x = xopT .dzip x := rfl
@[simp] theorem ye_met {m : Mop} {a b : Ex} : Y (ev G (.met m a b) ρ S) P ↔ Y (ev G a ρ S) fun x S1 => Y (ev G b ρ S1) fun y S2 => ∃ y', view S2 y = some y' ∧ ∃ r, mopT m x y' = some r ∧ P r S2 := by
  simp only [ev, y_bnd]
  refine y_iff fun x S1 => y_iff fun y S2 => y_look.trans ?_
  cases view S2 y <;> simp
@[simp] theorem ye_bin {o : Bop} {a b : Ex} : Y (ev G (.bin o a b) ρ S) P ↔ Y (ev G a ρ S) fun x S1 => Y (ev G b ρ S1) fun y S2 => ∃ x', view S2 x = some x' ∧ ∃ y', view S2 y = some y' ∧ ∃ r, opr o x' y' = some r ∧ P r S2 := by
  simp only [ev, y_bnd]
  refine y_iff fun x S1 => y_iff fun y S2 => y_look.trans ?_
  cases view S2 x <;> cases view S2 y <;> simp
@[simp] theorem ye_cmp {o : Cop} {a b : Ex} : Y (ev G (.cmp o a b) ρ S) P ↔ Y (ev G a ρ S) fun x S1 => Y (ev G b ρ S1) fun y S2 => ∃ x', view S2 x = some x' ∧ ∃ y', view S2 y = some y' ∧ ∃ r, cmpT o x' y' = some r ∧ P (.bl r) S2 := by
  simp only [ev, y_bnd]
  refine y_iff fun x S1 => y_iff fun y S2 => y_look.trans ?_
  cases view S2 x with
  | none => simp
  | some x' => cases view S2 y with
    | none => simp
    | some y' =>
      refine map_ex.trans ⟨fun q => ⟨x', rfl, y', rfl, q⟩, fun ⟨_, e1, _, e2, q⟩ => ?_⟩
      cases e1; cases e2
      exact q
@[simp] theorem ye_isN {n : Bool} {a : Ex} : Y (ev G (.isN n a) ρ S) P ↔ Y (ev G a ρ S) fun x S1 => P (.bl (if n = true then !isNon x else isNon x)) S1 := by simp [ev]
@[simp] theorem ye_ite {c a b : Ex} : Y (ev G (.ite c a b) ρ S) P ↔ Y (ev G c ρ S) fun x S1 => ∃ k, x = .bl k ∧ (if k = true then a.strict = true ∧ Y (ev G a ρ S1) P else b.strict = true ∧ Y (ev G b ρ S1) P) := by
  simp only [ev, y_bnd]
  refine y_iff fun x S1 => ?_
  cases x with
  | bl k =>
    cases k with
    | true => cases a.strict <;> simp
    | false => cases b.strict <;> simp
  | _ => simp
@[simp] theorem ye_isa {a : Ex} {ts : List Ty} : Y (ev G (.isa a ts) ρ S) P ↔ Y (ev G a ρ S) fun x S1 => ∃ b, anyTy x ts = some b ∧ P (.bl b) S1 := by simp only [ev, y_bnd, y_opt, map_ex]
@[simp] theorem ye_idx {a b : Ex} : Y (ev G (.idx a b) ρ S) P ↔ Y (ev G a ρ S) fun x S1 => Y (ev G b ρ S1) fun y S2 => ∃ x', view S2 x = some x' ∧ ∃ r, idxT x' y = some r ∧ P r S2 := by
  simp only [ev, y_bnd]
  refine y_iff fun x S1 => y_iff fun y S2 => y_look.trans ?_
  cases view S2 x <;> simp
@[simp] theorem ye_slice {a : Ex} {lo hi : Oe} : Y (ev G (.slice a lo hi) ρ S) P ↔ Y (ev G a ρ S) fun x S1 => Y (evO G lo ρ S1) fun l S2 => Y (evO G hi ρ S2) fun h S3 => ∃ l', partT l = some l' ∧ ∃ h', partT h = some h' ∧ ∃ x', view S3 x = some x' ∧ ∃ r, sliceT x' l' h' = some r ∧ P r S3 := by
  simp only [ev, y_bnd, y_opt]
  refine y_iff fun x S1 => y_iff fun y S2 => y_iff fun z S3 => ?_
  refine exists_congr fun l' => and_congr_right fun _ => exists_congr fun h' => and_congr_right fun _ => y_look.trans ?_
  cases view S3 x <;> simp
@[simp] theorem ye_tup {es : Exs} : Y (ev G (.tup es) ρ S) P ↔ strictAll es = true ∧ Y (evs G es ρ S) fun l S1 => P (.tup l) S1 := by
  simp only [ev]
  cases strictAll es <;> simp
@[simp] theorem ye_lst {es : Exs} : Y (ev G (.lst es) ρ S) P ↔ strictAll es = true ∧ Y (evs G es ρ S) fun l S1 => P (.lst l) S1 := by
  simp only [ev]
  cases strictAll es <;> simp
@[simp] theorem ye_blt {b : Bt} {es : Exs} : Y (ev G (.blt b es) ρ S) P ↔ Y (evs G es ρ S) fun l S1 => ∃ l', viewAll S1 l = some l' ∧ ∃ r, btT b l' = some r ∧ P r S1 := by
  simp only [ev, y_bnd]
  refine y_iff fun x S1 => y_look.trans ?_
  cases viewAll S1 x <;> simp
@[simp] theorem ye_call {f : Str} {es : Exs} : Y (ev G (.call f es) ρ S) P ↔ strictAll es = true ∧ Y (evs G es ρ S) fun l S1 => Y (G.fn f l S1) P := by
  simp only [ev]
  cases strictAll es <;> simp
@[simp] theorem ye_lc {tg : Tg} {it : Itr} {c : Oe} {e : Ex} : Y (ev G (.lc tg it c e) ρ S) P ↔ Y (evI G it ρ S) fun l S1 => Y (mapL (lcF (evO G c) (strictly e.strict (ev G e)) tg ρ) l S1) fun r S2 => P (.lst r) S2 := by simp [ev]
@[simp] theorem ye_dc {tg : Tg} {it : Itr} {k v : Ex} : Y (ev G (.dc tg it k v) ρ S) P ↔ Y (evI G it ρ S) fun l S1 => Y (foldD (dcF (ev G k) (strictly v.strict (ev G v)) tg ρ) l [] S1) fun r S2 => P (.dct r) S2 := by simp [ev]
@[simp] theorem ye_cel {e : Ex} : Y (ev G (.cel e) ρ S) P ↔ Y (ev G e ρ S) fun x S1 => Y (newC x S1) P := by simp [ev]
@[simp] theorem ye_sset {e : Ex} : Y (ev G (.sset e) ρ S) P ↔ Y (ev G e ρ S) fun x S1 => ∃ l, ssetT x = some l ∧ P (.lst l) S1 := by simp only [ev, y_bnd, y_opt, map_ex]
@[simp] theorem ye_chain {o p : Cop} {a b c : Ex} : Y (ev G (.chain o p a b c) ρ S) P ↔ Y (ev G a ρ S) fun x S1 => Y (ev G b ρ S1) fun y S2 => ∃ k, cmpT o x y = some k ∧ (if k = true then Y (ev G c ρ S2) fun z S3 => ∃ k', cmpT p y z = some k' ∧ P (.bl k') S3 else P (.bl false) S2) := by
  simp only [ev, y_bnd, y_opt]
  refine y_iff fun x S1 => y_iff fun y S2 => exists_congr fun k => and_congr_right fun _ => ?_
  cases k <;> simp
@[simp] theorem ye_and {es : Exs} : Y (ev G (.bop true es) ρ S) P ↔ Y (evAnd G es ρ S) P := by simp [ev]
@[simp] theorem ye_or {es : Exs} : Y (ev G (.bop false es) ρ S) P ↔ Y (evOr G es ρ S) P := by simp [ev]
@[simp] theorem yand1 {e : Ex} : Y (evAnd G (.cons e .nil) ρ S) P ↔ e.strict = true ∧ Y (ev G e ρ S) P := by
  simp only [evAnd]
  cases e.strict <;> simp
@[simp] theorem yand2 {e f : Ex} {es : Exs} : Y (evAnd G (.cons e (.cons f es)) ρ S) P ↔ Y (ev G e ρ S) fun x S1 => ∃ k, x = .bl k ∧ (if k = true then Y (evAnd G (.cons f es) ρ S1) P else P (.bl false) S1) := by
  rw [evAnd, y_bnd]
  refine y_iff fun x S1 => ?_
  cases x with
  | bl k => cases k <;> simp
  | _ => simp
@[simp] theorem yor1 {e : Ex} : Y (evOr G (.cons e .nil) ρ S) P ↔ e.strict = true ∧ Y (ev G e ρ S) P := by
  simp only [evOr]
  cases e.strict <;> simp
@[simp] theorem yor2 {e f : Ex} {es : Exs} : Y (evOr G (.cons e (.cons f es)) ρ S) P ↔ Y (ev G e ρ S) fun x S1 => ∃ k, x = .bl k ∧ (if k = true then P (.bl true) S1 else Y (evOr G (.cons f es) ρ S1) P) := by
  rw [evOr, y_bnd]
  refine y_iff fun x S1 => ?_
  cases x with
  | bl k => cases k <;> simp
  | _ => simp
end
section
variable {G : Glob} {ρ : Env} {S : Store}
@[simp] theorem ys_nil {P : List T → Store → Prop} : Y (evs G .nil ρ S) P ↔ P [] S := by simp [evs]
@[simp] theorem ys_cons {P : List T → Store → Prop} {e : Ex} {es : Exs} : Y (evs G (.cons e es) ρ S) P ↔ Y (ev G e ρ S) fun x S1 => Y (evs G es ρ S1) fun xs S2 => P (x :: xs) S2 := by simp [evs]
@[simp] theorem yo_none {P : Option T → Store → Prop} : Y (evO G .none ρ S) P ↔ P none S := by simp [evO]
@[simp] theorem yo_some {P : Option T → Store → Prop} {e : Ex} : Y (evO G (.some e) ρ S) P ↔ Y (ev G e ρ S) fun x S1 => P (some x) S1 := by simp [evO]
variable {P : List T → Store → Prop}
@[simp] theorem yi_seq {e : Ex} : Y (evI G (.seq e) ρ S) P ↔ Y (ev G e ρ S) fun x S1 => ∃ l, itemsT x = some l ∧ P l S1 := by simp [evI]
@[simp] theorem yi_rng1 {e : Ex} : Y (evI G (.rng1 e) ρ S) P ↔ Y (ev G e ρ S) fun x S1 => ∃ j, x = .int j ∧ (okR j ∧ j ≤ lim) ∧ P (rngT 0 j.toNat) S1 := by
  simp only [evI, y_bnd]
  refine y_iff fun x S1 => ?_
  cases x with
  | int j =>
    show Y ((if okR j ∧ j ≤ lim then RD.ret (rngT 0 j.toNat) else fail : M (List T)) S1) P ↔ _
    by_cases h : okR j ∧ j ≤ lim
    · rw [if_pos h]; exact ⟨fun q => ⟨j, rfl, h, y_ret.mp q⟩, fun ⟨_, e, _, q⟩ => by cases e; exact y_ret.mpr q⟩
    · rw [if_neg h]; exact ⟨fun q => (y_fail.mp q).elim, fun ⟨_, e, h', _⟩ => by cases e; exact (h h').elim⟩
  | _ => simp
@[simp] theorem yi_rng2 {e f : Ex} : Y (evI G (.rng2 e f) ρ S) P ↔ Y (ev G e ρ S) fun x S1 => Y (ev G f ρ S1) fun y S2 => ∃ i j, x = .int i ∧ y = .int j ∧ (okR i ∧ okR j ∧ j - i ≤ lim) ∧ P (rngT i (j - i).toNat) S2 := by
  simp only [evI, y_bnd]
  refine y_iff fun x S1 => y_iff fun y S2 => ?_
  cases x with
  | int i => cases y with
    | int j =>
      show Y ((if okR i ∧ okR j ∧ j - i ≤ lim then RD.ret (rngT i (j - i).toNat) else fail : M (List T)) S2) P ↔ _
      by_cases h : okR i ∧ okR j ∧ j - i ≤ lim
      · rw [if_pos h]; exact ⟨fun q => ⟨i, j, rfl, rfl, h, y_ret.mp q⟩, fun ⟨_, _, e, e2, _, q⟩ => by cases e; cases e2; exact y_ret.mpr q⟩
      · rw [if_neg h]; exact ⟨fun q => (y_fail.mp q).elim, fun ⟨_, _, e, e2, h', _⟩ => by cases e; cases e2; exact (h h').elim⟩
    | _ => simp
  | _ => simp
@[simp] theorem yi_enum {e : Ex} : Y (evI G (.enum e) ρ S) P ↔ Y (ev G e ρ S) fun x S1 => ∃ l, seqT x = some l ∧ P (enumT l) S1 := by simp only [evI, y_bnd, y_opt, map_ex]
@[simp] theorem yi_zip2 {e f : Ex} : Y (evI G (.zip2 e f) ρ S) P ↔ Y (ev G e ρ S) fun x S1 => Y (ev G f ρ S1) fun y S2 => ∃ l, seqT x = some l ∧ ∃ r, seqT y = some r ∧ P (zip2T l r) S2 := by
  simp only [evI, y_bnd]
  refine y_iff fun x S1 => y_iff fun y S2 => ?_
  cases seqT x <;> cases seqT y <;> simp
@[simp] theorem yi_zip3 {e f g : Ex} : Y (evI G (.zip3 e f g) ρ S) P ↔ Y (ev G e ρ S) fun x S1 => Y (ev G f ρ S1) fun y S2 => Y (ev G g ρ S2) fun z S3 => ∃ l, seqT x = some l ∧ ∃ r, seqT y = some r ∧ ∃ q, seqT z = some q ∧ P (zip3T l r q) S3 := by
  simp only [evI, y_bnd]
  refine y_iff fun x S1 => y_iff fun y S2 => y_iff fun z S3 => ?_
  cases seqT x <;> cases seqT y <;> cases seqT z <;> simp
end
section
variable {G : Glob} {ρ : Env} {S : Store} {P : Env × Fl → Store → Prop}
@[simp] theorem yx_nil : Y (exs G .nil ρ S) P ↔ P (ρ, .next) S := by simp [exs]
@[simp] theorem yx_cons {s : St} {ss : Sts} : Y (exs G (.cons s ss) ρ S) P ↔ Y (ex G s ρ S) fun r S1 => match r.2 with
    | .next => Y (exs G ss r.1 S1) P
    | .ret t => P (r.1, .ret t) S1
    | .brk => P (r.1, .brk) S1
    | .cont => P (r.1, .cont) S1 := by
  simp only [exs, andThen, y_bnd]
  refine y_iff fun r S1 => ?_
  obtain ⟨ρ1, fl⟩ := r
  cases fl <;> simp
@[simp] theorem yx_set {i : Nat} {e : Ex} : Y (ex G (.set i e) ρ S) P ↔ e.strict = true ∧ Y (ev G e ρ S) fun t S1 => P (ρ.set i (.val t), .next) S1 := by simp [ex]
@[simp] theorem yx_own {i : Nat} {e : Ex} : Y (ex G (.own i e) ρ S) P ↔ newE e = true ∧ Y (ev G e ρ S) fun t S1 => ∃ l, t = .lst l ∧ P (ρ.set i (.own l), .next) S1 := by
  simp only [ex, y_bnd, y_str]
  refine and_congr_right fun _ => y_iff fun t S1 => ?_
  cases t <;> simp
@[simp] theorem yx_unp {is : List Nat} {e : Ex} : Y (ex G (.unp is e) ρ S) P ↔ e.strict = true ∧ Y (ev G e ρ S) fun t S1 => ∃ l, t = .tup l ∧ ∃ ρ', setAll ρ is l = some ρ' ∧ P (ρ', .next) S1 := by
  simp only [ex, y_bnd, y_str]
  refine and_congr_right fun _ => y_iff fun t S1 => ?_
  cases t with
  | tup l => cases h : setAll ρ is l <;> simp [h]
  | _ => simp
@[simp] theorem yx_par {is : List Nat} {es : Exs} : Y (ex G (.par is es) ρ S) P ↔ strictAll es = true ∧ Y (evs G es ρ S) fun l S1 => ∃ ρ', setAll ρ is l = some ρ' ∧ P (ρ', .next) S1 := by
  simp only [ex, y_bnd, y_str]
  refine and_congr_right fun _ => y_iff fun l S1 => ?_
  cases h : setAll ρ is l <;> simp [h]
@[simp] theorem yx_put {o i e : Ex} : Y (ex G (.put o i e) ρ S) P ↔ e.strict = true ∧ Y (ev G e ρ S) fun v S1 => Y (ev G o ρ S1) fun t S2 => Y (ev G i ρ S2) fun k S3 => Y (putC t k v S3) fun _ S4 => P (ρ, .next) S4 := by simp [ex]
@[simp] theorem yx_putO {j : Nat} {i e : Ex} : Y (ex G (.putO j i e) ρ S) P ↔ e.strict = true ∧ Y (ev G e ρ S) fun v S1 => Y (ev G i ρ S1) fun k S2 => ∃ l, getO ρ j = some l ∧ ∃ n, k = .int n ∧ ∃ p, L2.ixN l.length n = some p ∧ P (ρ.set j (.own (l.set p v)), .next) S2 := by
  simp only [ex, y_bnd, y_str]
  refine and_congr_right fun _ => y_iff fun v S1 => y_iff fun k S2 => ?_
  cases h : getO ρ j with
  | none => simp
  | some l => cases k with
    | int n => cases h2 : L2.ixN l.length n <;> simp [h2]
    | _ => simp
@[simp] theorem yx_aug {i : Nat} {o : Bop} {e : Ex} : Y (ex G (.aug i o e) ρ S) P ↔ ∃ a, getV ρ i = some (.int a) ∧ Y (ev G e ρ S) fun y S1 => ∃ b, y = .int b ∧ ((o = .add ∧ P (ρ.set i (.val (.int (a + b))), .next) S1) ∨ (o = .sub ∧ P (ρ.set i (.val (.int (a - b))), .next) S1)) := by
  simp only [ex]
  cases h : getV ρ i with
  | none => simp
  | some t => cases t with
    | int a =>
      simp only [y_bnd, Option.some.injEq, T.int.injEq, exists_eq_left']
      refine y_iff fun y S1 => ?_
      cases o <;> cases y <;> simp
    | _ => simp
@[simp] theorem yx_app {i : Nat} {e : Ex} : Y (ex G (.app i e) ρ S) P ↔ e.strict = true ∧ Y (ev G e ρ S) fun v S1 => ∃ l, getO ρ i = some l ∧ l.length < lim ∧ P (ρ.set i (.own (l ++ [v])), .next) S1 := by
  simp only [ex, y_bnd, y_str]
  refine and_congr_right fun _ => y_iff fun v S1 => ?_
  cases h : getO ρ i with
  | none => simp
  | some l => by_cases hl : l.length < lim <;> simp [hl]
@[simp] theorem yx_ins {i : Nat} {a e : Ex} : Y (ex G (.ins i a e) ρ S) P ↔ Y (ev G a ρ S) fun kk S0 => e.strict = true ∧ Y (ev G e ρ S0) fun v S1 => ∃ l, getO ρ i = some l ∧ ∃ k, kk = .int k ∧ (l.length < lim ∧ 0 ≤ k ∧ k < 1000000) ∧ P (ρ.set i (.own (l.take k.toNat ++ [v] ++ l.drop k.toNat)), .next) S1 := by
  simp only [ex, y_bnd, y_str]
  refine y_iff fun kk S0 => and_congr_right fun _ => y_iff fun v S1 => ?_
  cases h : getO ρ i with
  | none => simp
  | some l => cases kk with
    | int k => by_cases hl : l.length < lim ∧ 0 ≤ k ∧ k < 1000000 <;> simp [hl]
    | _ => simp
@[simp] theorem yx_any : Y (ex G .any ρ S) P ↔ False := by simp [ex]
@[simp] theorem yx_expr {e : Ex} : Y (ex G (.expr e) ρ S) P ↔ Y (ev G e ρ S) fun _ S1 => P (ρ, .next) S1 := by simp [ex]
@[simp] theorem yx_ret {e : Ex} : Y (ex G (.ret e) ρ S) P ↔ e.strict = true ∧ Y (ev G e ρ S) fun t S1 => P (ρ, .ret t) S1 := by simp [ex]
@[simp] theorem yx_retN : Y (ex G .retN ρ S) P ↔ P (ρ, .ret .non) S := by simp [ex]
@[simp] theorem yx_pass : Y (ex G .pass ρ S) P ↔ P (ρ, .next) S := by simp [ex]
@[simp] theorem yx_brk : Y (ex G .brk ρ S) P ↔ P (ρ, .brk) S := by simp [ex]
@[simp] theorem yx_cont : Y (ex G .cont ρ S) P ↔ P (ρ, .cont) S := by simp [ex]
@[simp] theorem yx_ite {c : Ex} {a b : Sts} : Y (ex G (.ite c a b) ρ S) P ↔ Y (ev G c ρ S) fun x S1 => ∃ k, x = .bl k ∧ (if k = true then Y (exs G a ρ S1) P else Y (exs G b ρ S1) P) := by
  simp only [ex, y_bnd]
  refine y_iff fun x S1 => ?_
  cases x with
  | bl k => cases k <;> simp
  | _ => simp
@[simp] theorem yx_forC {tg : Tg} {e : Ex} {b : Sts} : Y (ex G (.forC tg e b) ρ S) P ↔ Y (ev G e ρ S) fun x S1 => ∃ n l, x = .ref n ∧ S1[n]? = some (.lst l) ∧ Y (forLC n l (forF tg (exs G b)) l ρ S1) P := by
  simp only [ex, y_bnd]
  refine ⟨fun h => h.mono fun x S1 q => ?_, fun h => h.mono fun x S1 ⟨n, l, ex, hn, q⟩ => ?_⟩
  · obtain ⟨p, S2, e2, q⟩ := q
    obtain ⟨n, l, ex, ep, eS, hn⟩ := cellL_inv e2
    subst ex ep eS
    exact ⟨n, l, rfl, hn, q⟩
  · subst ex
    exact ⟨(n, l), S1, by simp [cellL, hn], q⟩
@[simp] theorem yx_appC {i : Nat} {e : Ex} : Y (ex G (.appC i e) ρ S) P ↔ ∃ n l0, getV ρ i = some (.ref n) ∧ S[n]? = some (.lst l0) ∧ e.strict = true ∧ Y (ev G e ρ S) fun v S1 => ∃ l, S1[n]? = some (.lst l) ∧ l.length < lim ∧ P (ρ, .next) (S1.set n (.lst (l ++ [v]))) := by
  simp only [ex]
  constructor
  · intro h
    cases hv : getV ρ i with
    | none => simp [hv] at h
    | some t =>
      simp only [hv, y_bnd] at h
      obtain ⟨p, S2, e2, q⟩ := h
      obtain ⟨n, l, et, ep, eS, hn⟩ := cellL_inv e2
      subst et ep eS
      refine ⟨n, l, rfl, hn, ?_⟩
      rw [y_str] at q
      refine ⟨q.1, q.2.mono fun v S1 q => ?_⟩
      obtain ⟨u, S3, e3, q⟩ := q
      obtain ⟨n', l', en, hn', hl, eS3⟩ := appL_inv e3
      cases en
      subst eS3
      exact ⟨l', hn', hl, y_ret.mp q⟩
  · rintro ⟨n, l0, hv, hn, hs, h⟩
    simp only [hv, y_bnd]
    refine ⟨(n, l0), S, by simp [cellL, hn], ?_⟩
    refine y_str.mpr ⟨hs, h.mono fun v S1 ⟨l, hn', hl, q⟩ => ?_⟩
    exact ⟨(), _, by simp [appL, hn', hl], y_ret.mpr q⟩
@[simp] theorem yx_for {tg : Tg} {it : Itr} {b : Sts} : Y (ex G (.forr tg it b) ρ S) P ↔ it.strict = true ∧ Y (evI G it ρ S) fun l S1 => Y (forL (forF tg (exs G b)) l ρ S1) P := by simp [ex]
@[simp] theorem yx_frz {i : Nat} : Y (ex G (.frz i) ρ S) P ↔ (∃ l, ρ[i]? = some (.own l) ∧ P (ρ.set i (.val (.lst l)), .next) S) ∨ ∃ t, ρ[i]? = some (.val t) ∧ P (ρ, .next) S := by
  simp only [ex]
  cases h : ρ[i]? with
  | none => simp
  | some s => cases s <;> simp
end
/-! ### plain values -/
section
variable {S : Store}
@[simp] theorem view_int {i : Int} : view S (.int i) = some (.int i) := rfl
@[simp] theorem view_bl {i : Bool} : view S (.bl i) = some (.bl i) := rfl
@[simp] theorem view_non : view S .non = some .non := rfl
@[simp] theorem view_strv {i : Str} : view S (.str i) = some (.str i) := rfl
@[simp] theorem view_tup {l : List T} : view S (.tup l) = some (.tup l) := rfl
@[simp] theorem view_lst {l : List T} : view S (.lst l) = some (.lst l) := rfl
@[simp] theorem view_dct {l : List (Key × T)} : view S (.dct l) = some (.dct l) := rfl
@[simp] theorem view_scr {l : List Int} : view S (.scr l) = some (.scr l) := rfl
theorem view_refL {n : Nat} {l : List T} (h : S[n]? = some (.lst l)) : view S (.ref n) = some (.lst l) := by simp [view, h]
theorem view_refD {n : Nat} {l : List (Key × T)} (h : S[n]? = some (.dct l)) : view S (.ref n) = some (.dct l) := by simp [view, h]
@[simp] theorem viewAll_nil : viewAll S [] = some [] := rfl
@[simp] theorem viewAll_cons {t : T} {ts r : List T} : viewAll S (t :: ts) = some r ↔ ∃ a, view S t = some a ∧ ∃ b, viewAll S ts = some b ∧ a :: b = r := by
  rw [viewAll]
  cases view S t <;> cases viewAll S ts <;> simp
@[simp] theorem opr_addI {i j : Int} : opr .add (.int i) (.int j) = some (.int (i + j)) := rfl
@[simp] theorem opr_subI {i j : Int} : opr .sub (.int i) (.int j) = some (.int (i - j)) := rfl
@[simp] theorem opr_mulI {i j : Int} : opr .mul (.int i) (.int j) = if wideB i j = true then some (.int (i * j)) else none := rfl
@[simp] theorem opr_divI {i j : Int} : opr .fdiv (.int i) (.int j) = if 0 < j ∧ j < 2 ^ 200 then some (.int (i / j)) else none := rfl
@[simp] theorem opr_modI {i j : Int} : opr .mod (.int i) (.int j) = if 0 < j then some (.int (i % j)) else none := rfl
@[simp] theorem opr_powI {i j : Int} : opr .pow (.int i) (.int j) = if 0 ≤ j ∧ j ≤ 1000 ∧ i.natAbs < 2 ^ 64 then some (.int (i ^ j.toNat)) else none := rfl
@[simp] theorem opr_addS {x y : Str} : opr .add (.str x) (.str y) = if x.length + y.length ≤ lim then some (.str (x ++ y)) else none := rfl
@[simp] theorem opr_addT {l r : List T} : opr .add (.tup l) (.tup r) = if l.length + r.length ≤ lim then some (.tup (l ++ r)) else none := rfl
@[simp] theorem opr_addL {l r : List T} : opr .add (.lst l) (.lst r) = if l.length + r.length ≤ lim then some (.lst (l ++ r)) else none := rfl
@[simp] theorem opr_mulL {l : List T} {k : Int} : opr .mul (.lst l) (.int k) = if 0 ≤ k ∧ k < 1000000 ∧ l.length * k.toNat ≤ lim then some (.lst (List.replicate k.toNat l).flatten) else none := rfl
@[simp] theorem cmp_eq {a b : T} : cmpT .eq a b = eqT a b := rfl
@[simp] theorem cmp_ne {a b : T} : cmpT .ne a b = (eqT a b).map (!·) := rfl
@[simp] theorem cmp_ltI {i j : Int} : cmpT .lt (.int i) (.int j) = some (decide (i < j)) := rfl
@[simp] theorem cmp_leI {i j : Int} : cmpT .le (.int i) (.int j) = some (decide (i ≤ j)) := rfl
@[simp] theorem cmp_gtI {i j : Int} : cmpT .gt (.int i) (.int j) = some (decide (j < i)) := rfl
@[simp] theorem cmp_geI {i j : Int} : cmpT .ge (.int i) (.int j) = some (decide (j ≤ i)) := rfl
@[simp] theorem cmp_isb {i j : Bool} : cmpT .isb (.bl i) (.bl j) = some (decide (i = j)) := rfl
@[simp] theorem cmp_isnb {i j : Bool} : cmpT .isnb (.bl i) (.bl j) = some (!decide (i = j)) := rfl
@[simp] theorem neg_int {i : Int} : negT (.int i) = some (.int (-i)) := rfl
@[simp] theorem neg_bl {b : Bool} : negT (.bl b) = some (.int (-(if b = true then 1 else 0))) := rfl
@[simp] theorem opr_addB {b : Bool} {j : Int} : opr .add (.bl b) (.int j) = some (.int ((if b = true then 1 else 0) + j)) := rfl
@[simp] theorem opr_subB {b : Bool} {j : Int} : opr .sub (.bl b) (.int j) = some (.int ((if b = true then 1 else 0) - j)) := rfl
@[simp] theorem xop_lrng {j : Int} : xopT .lrng (.int j) = if 0 ≤ j ∧ j ≤ 1000000 then some (.lst ((List.range j.toNat).map fun (i : Nat) => T.int (i : Int))) else none := rfl
@[simp] theorem xop_rev {l : List T} : xopT .rev (.lst l) = some (.lst l.reverse) := rfl
@[simp] theorem xop_revT {l : List T} : xopT .rev (.tup l) = some (.tup l.reverse) := rfl
@[simp] theorem xop_upper {z : Str} : xopT .upper (.str z) = if z.length ≤ 1000000 then some (.str (Txt.upper z)) else none := rfl
@[simp] theorem xop_strI {i : Int} : xopT .strOf (.int i) = if i.natAbs.log2 < 1920 then some (.str (toString i)) else none := rfl
@[simp] theorem xop_strB {b : Bool} : xopT .strOf (.bl b) = some (.str (if b then "True" else "False")) := rfl
@[simp] theorem xop_strS {z : Str} : xopT .strOf (.str z) = some (.str z) := rfl
@[simp] theorem bt_minL {l : List T} : btT .min [.lst l] = minT l := rfl
@[simp] theorem bt_maxT {l : List T} : btT .max [.tup l] = (match intsT l with | some ns => (maxI ns).map .int | none => none) := rfl
@[simp] theorem cmp_in {a b : T} : cmpT .isin a b = inT a b := rfl
@[simp] theorem cmp_nin {a b : T} : cmpT .notin a b = (inT a b).map (!·) := rfl
@[simp] theorem idx_tup {l : List T} {i : Int} : idxT (.tup l) (.int i) = L2.atI l i := rfl
@[simp] theorem idx_lst {l : List T} {i : Int} : idxT (.lst l) (.int i) = L2.atI l i := rfl
@[simp] theorem idx_scr {l : List Int} {i : Int} : idxT (.scr l) (.int i) = (L2.atI l i).map .int := rfl
@[simp] theorem idx_dctS {l : List (Key × T)} {x : Str} : idxT (.dct l) (.str x) = valT l (.inr x) := rfl
@[simp] theorem idx_dctI {l : List (Key × T)} {x : Int} : idxT (.dct l) (.int x) = valT l (.inl x) := rfl
theorem atI_nat {α : Type} {l : List α} {k : Nat} {a : α} (h : l[k]? = some a) : L2.atI l (k : Int) = some a := by
  have hk := (List.getElem?_eq_some_iff.mp h).1
  unfold L2.atI L2.ixN
  rw [if_pos (by omega), if_pos (by omega)]
  simpa using h
theorem atI_of {α : Type} {l : List α} {i : Int} (h0 : 0 ≤ i) (h1 : i < l.length) : ∃ a, L2.atI l i = some a ∧ a ∈ l := by
  obtain ⟨k, rfl⟩ := Int.eq_ofNat_of_zero_le h0
  have hk : k < l.length := by omega
  exact ⟨l[k], atI_nat (List.getElem?_eq_getElem hk), List.getElem_mem hk⟩
@[simp] theorem atI0 {α : Type} {a : α} {l : List α} : L2.atI (a :: l) 0 = some a := atI_nat (k := 0) rfl
@[simp] theorem atI1 {α : Type} {a b : α} {l : List α} : L2.atI (a :: b :: l) 1 = some b := atI_nat (k := 1) rfl
@[simp] theorem atI2 {α : Type} {a b c : α} {l : List α} : L2.atI (a :: b :: c :: l) 2 = some c := atI_nat (k := 2) rfl
@[simp] theorem atI3 {α : Type} {a b c d : α} {l : List α} : L2.atI (a :: b :: c :: d :: l) 3 = some d := atI_nat (k := 3) rfl
@[simp] theorem atI4 {α : Type} {a b c d e : α} {l : List α} : L2.atI (a :: b :: c :: d :: e :: l) 4 = some e := atI_nat (k := 4) rfl
@[simp] theorem atI5 {α : Type} {a b c d e f : α} {l : List α} : L2.atI (a :: b :: c :: d :: e :: f :: l) 5 = some f := atI_nat (k := 5) rfl
@[simp] theorem bt_len {t : T} : btT .len [t] = (lenT t).map fun n => .int (n : Int) := by simp only [btT]; cases lenT t <;> rfl
@[simp] theorem bt_list {t : T} : btT .list [t] = (seqT t).map .lst := by simp only [btT]
@[simp] theorem bt_tuple {t : T} : btT .tuple [t] = (seqT t).map .tup := by simp only [btT]
@[simp] theorem bt_sorted {l : List T} : btT .sorted [.lst l] = (sortT l).map .lst := rfl
@[simp] theorem bt_sortedT {l : List T} : btT .sorted [.tup l] = (sortT l).map .lst := rfl
@[simp] theorem bt_dict {l : List T} : btT .dict [.lst l] = (pairsT l).map fun kvs => .dct (mergeT [] kvs) := rfl
@[simp] theorem bt_dictD {l : List (Key × T)} : btT .dict [.dct l] = some (.dct l) := rfl
@[simp] theorem bt_abs {i : Int} : btT .abs [.int i] = some (.int (if i < 0 then -i else i)) := rfl
@[simp] theorem bt_all {l : List T} : btT .all [.lst l] = (blsT l).map fun bs => .bl (bs.all id) := rfl
@[simp] theorem bt_any' {l : List T} : btT .any [.lst l] = (blsT l).map fun bs => .bl (bs.any id) := rfl
@[simp] theorem bt_max2 {i j : Int} : btT .max [.int i, .int j] = some (.int (if j > i then j else i)) := rfl
@[simp] theorem bt_min2 {i j : Int} : btT .min [.int i, .int j] = some (.int (if j < i then j else i)) := rfl
@[simp] theorem bt_maxL {l : List T} : btT .max [.lst l] = (match intsT l with | some ns => (maxI ns).map .int | none => none) := rfl
@[simp] theorem seq_tup {l : List T} : seqT (.tup l) = some l := rfl
@[simp] theorem seq_lst {l : List T} : seqT (.lst l) = some l := rfl
@[simp] theorem items_tup {l : List T} : itemsT (.tup l) = some l := rfl
@[simp] theorem items_lst {l : List T} : itemsT (.lst l) = some l := rfl
@[simp] theorem len_tup {l : List T} : lenT (.tup l) = some l.length := rfl
@[simp] theorem len_lst {l : List T} : lenT (.lst l) = some l.length := rfl
@[simp] theorem len_scr {l : List Int} : lenT (.scr l) = some l.length := rfl
@[simp] theorem part_none : partT none = some none := rfl
@[simp] theorem part_int {i : Int} : partT (some (.int i)) = some (some i) := rfl
@[simp] theorem y_newL {l : List T} {P : T → Store → Prop} : Y (newC (.lst l) S) P ↔ P (.ref S.length) (S ++ [.lst l]) := by simp [newC]
theorem y_putL {n : Nat} {l : List T} {i : Int} {j : Nat} {v : T} {P : Unit → Store → Prop} (h : S[n]? = some (.lst l)) (hj : L2.ixN l.length i = some j) : Y (putC (.ref n) (.int i) v S) P ↔ P () (S.set n (.lst (l.set j v))) := by
  simp [putC, h, hj]
@[simp] theorem y_put {n : Nat} {i : Int} {v : T} {P : Unit → Store → Prop} : Y (putC (.ref n) (.int i) v S) P ↔ ∃ l, S[n]? = some (.lst l) ∧ ∃ j, L2.ixN l.length i = some j ∧ P () (S.set n (.lst (l.set j v))) := by
  simp only [putC]
  cases h : S[n]? with
  | none => simp
  | some c => cases c with
    | lst l => cases h2 : L2.ixN l.length i <;> simp [h2]
    | _ => simp
@[simp] theorem ixN20 : L2.ixN 2 0 = some 0 := rfl
@[simp] theorem ixN21 : L2.ixN 2 1 = some 1 := rfl
theorem view_setL {n : Nat} {l : List T} (h : n < S.length) : view (S.set n (.lst l)) (.ref n) = some (.lst l) := view_refL (by simp [h])
@[simp] theorem ex_cond {α : Type} {c : Prop} {a : α} {Q : α → Prop} : (∃ r, (c ∧ a = r) ∧ Q r) ↔ c ∧ Q a := ⟨fun ⟨_, ⟨h, e⟩, q⟩ => by subst e; exact ⟨h, q⟩, fun ⟨h, q⟩ => ⟨a, ⟨h, rfl⟩, q⟩⟩
theorem wide_of {i j : Int} (h : -(2 ^ 64) < j) (h2 : j < 2 ^ 64) : wideB i j = true := by simp [wideB]; omega
theorem wide_of' {i j : Int} (h : -(2 ^ 64) < i) (h2 : i < 2 ^ 64) : wideB i j = true := by simp [wideB]; omega
end
end RD

/-! The end: from the head's facts to the law's promise. -/
namespace RD
open PySem PySem.Spec PyProof.Rows L2

theorem has_mk {ds : List Dn} {d : Dn} (h : (ds.find? fun e => decide (e.name = d.name)).map (fun e => (e.body, e.ps.length, e.N.length)) = some (d.body, d.ps.length, d.N.length)) : Has ds d := by
  obtain ⟨e, h1, h2⟩ := Option.map_eq_some_iff.mp h
  simp only [Prod.mk.injEq] at h2
  exact ⟨e, h1, h2.1, h2.2.1, h2.2.2⟩
def fnT (dt : List (Dn × Stmt)) : List He.DefD := dt.map defOf
def cfa (p : Str × T) : He.Fa := match p.2 with
  | .int i => .int p.1 i
  | .str z => .str p.1 z
  | _ => .free p.1
def faT (dt : List (Dn × Stmt)) (cl : List (Str × T)) : List He.Fa := (dt.map fun p => He.Fa.glo p.1.name) ++ (freeNames.map He.Fa.free ++ cl.map cfa)
def cstOf (cl : List (Str × T)) (x : Str) : Option T := (cl.find? fun p => decide (p.1 = x)).map (·.2)
def clB (cl : List (Str × T)) : Bool := cl.all fun p => match p.2 with
  | .int _ => true
  | .str _ => true
  | _ => false
section
variable {dt : List (Dn × Stmt)} {cl : List (Str × T)} {P : Program} {w : World} {K : PySem.W.Frag} {mg : Str → Option Value} {h : Heap}
theorem hat_of (hok : (dt.all fun p => dnB p.1 p.2) = true) (X : K.In h) (G : h.Ns mainGlobals mg) (c : He.SaysD (faT dt cl) (fnT dt) K) : ∀ p ∈ dt, ∃ a fd, DnAt K mg p a fd := fun p hp => by
  obtain ⟨fd, F⟩ := c.defs (d := defOf p) (List.mem_map.mpr ⟨p, hp, rfl⟩)
  exact ⟨_, fd, F, He.glo_ok X G (c.facts (f := .glo p.1.name) (List.mem_append.mpr (.inl (List.mem_map.mpr ⟨p, hp, rfl⟩)))), List.all_eq_true.mp hok p hp⟩
theorem free_of (X : K.In h) (G : h.Ns mainGlobals mg) (c : He.SaysD (faT dt cl) (fnT dt) K) : ∀ x ∈ freeNames, mg x = none := fun x hx =>
  He.free_ok X G (c.facts (f := .free x) (List.mem_append.mpr (.inr (List.mem_append.mpr (.inl (List.mem_map.mpr ⟨x, hx, rfl⟩))))))
theorem cst_of (hcl : clB cl = true) (X : K.In h) (G : h.Ns mainGlobals mg) (c : He.SaysD (faT dt cl) (fnT dt) K) : CstOk mg (cstOf cl) := fun x t e => by
  unfold cstOf at e
  rw [Option.map_eq_some_iff] at e
  obtain ⟨p, hp, rfl⟩ := e
  have hm := List.mem_of_find?_eq_some hp
  have hx : p.1 = x := by simpa using List.find?_some hp
  subst hx
  have hf : cfa p ∈ faT dt cl := List.mem_append.mpr (.inr (List.mem_append.mpr (.inr (List.mem_map.mpr ⟨p, hm, rfl⟩))))
  have hb := List.all_eq_true.mp hcl p hm
  obtain ⟨x, t⟩ := p
  cases t with
  | int i =>
    obtain ⟨u, hu⟩ := He.int_ok X G (c.facts (f := .int x i) hf)
    exact ⟨_, .int i, hu, ⟨u, rfl⟩, .inl ⟨i, rfl, rfl⟩⟩
  | str z =>
    obtain ⟨u, hu⟩ := He.str_ok X G (c.facts (f := .str x z) hf)
    exact ⟨_, .str z, hu, ⟨u, rfl⟩, .inr ⟨z, rfl, rfl⟩⟩
  | _ => cases hb
theorem ok_start {K : PySem.W.Frag} {H : Hp} : OkS K [] H [] H := ⟨Same.refl _, rfl, List.nodup_nil, fun n c a h _ => by simp at h, fun c q e z => by rw [e] at z; cases z⟩
/-- what the law's def promises -/
theorem law_end {k fuel : Nat} {d : Dn} {st : Stmt} (hok : (dt.all fun p => dnB p.1 p.2) = true) (hcl : clB cl = true) (hnt : (dt.all fun p => p.1.tab.isNone) = true) (hp : (d, st) ∈ dt) (hfi : ((dt.map (·.1)).find? fun e => decide (e.name = d.name)) = some d) (hps : d.ps = [("script" : Str)])
    (hlaw : ∀ ns : List Int, ns.length ≤ 63 → Y (callK (cstOf cl) fuel (dt.map (·.1)) k d.name [.scr ns] []) fun t _ => t = .bl true) (X : K.In h) (G : h.Ns mainGlobals mg) {fa : Addr} (hfa : mg d.name = some (.ref fa)) (c : He.SaysD (faT dt cl) (fnT dt) K) :
    ∃ (fd : FuncData) (sp : Sp), (∀ (s : Shared) (u : Value), BindsTo s fd ⟨[u], []⟩ [(("script" : Str), u)]) ∧
      (∀ (H : Hp) (a : Addr) (ns : List Int), ns.length ≤ 63 → Only H → SqL K H a (ns.map V.int) → sp [.ref a] H (fun v _ => v = .bl true) fun _ _ _ => False) ∧
      ∀ base : Heap, K.In base → base.Ns mainGlobals mg → FnOk P w K mg base CX0 k fa fd [("script" : Str)] sp := by
  obtain ⟨a, fd, D⟩ := hat_of hok X G c (d, st) hp
  have e := hfa.symm.trans D.at_
  cases e
  have hb := D.ok
  simp only [dnB, Bool.and_eq_true] at hb
  have b := FunD.bindsA (ps := [("script" : Str)]) D.fun_ fun _ _ _ _ _ _ us hl => bind_plain (by rw [← hps]; exact hb.1.1) hl
  refine ⟨fd, spF K 1 (callK (cstOf cl) fuel (dt.map (·.1)) k d.name), fun s v => b s [v] rfl, fun H a ns hn hO hS => ?_, fun base _ _ => ?_⟩
  · obtain ⟨t, S', e, rfl⟩ := hlaw ns hn
    exact ⟨[], H, [], [.scr ns], _, S', rfl, ok_start, ⟨_, _, rfl, ⟨a, rfl, hS⟩, rfl⟩, e, fun v H' α' F' ok' st' is' => is'⟩
  · have := defs_ok (P := P) (w := w) (base := base) (fuel := fuel) (hat_of hok X G c) (cst_of hcl X G c) (free_of X G c) (fun p hp P e => by have := List.all_eq_true.mp hnt p hp; rw [e] at this; cases this) k (d, st) _ fd hp hfi D
    rw [hps] at this
    exact this
/-! ### a law with tables of code objects -/
/-- a def with its table's address -/
def withT (ta : List (Str × Nat)) (d : Dn) : Dn := { d with tab := ta.lookup d.name }
def dtT (ta : List (Str × Nat)) (dt : List (Dn × Stmt)) : List (Dn × Stmt) := dt.map fun p => (withT ta p.1, p.2)
/-- the tables, as cells -/
def tabS (ta : List (Str × Nat)) : Store := ta.map fun p => .tbl p.2 (p.1 ++ (".<locals>." : Str) ++ ("<lambda>" : Str))
def taOf (K : PySem.W.Frag) (tn : List Str) : List (Str × Nat) := tn.map fun n => (n, (He.cT K (n, none)).2)
def tfOf (tn : List Str) : List He.Defn := tn.map fun n => (n, none)
def exT (tn : List Str) (K : PySem.W.Frag) : Bool := decide ((tn.map fun n => (He.cT K (n, none)).2).Nodup)
def noTab (H : Hp) : Hp := fun b => match H b with
  | some (.tbl _) => none
  | o => o
theorem noTab_some {H : Hp} {b : Addr} {o : HO} (h : noTab H b = some o) : H b = some o := by
  unfold noTab at h
  split at h
  · cases h
  · exact h
theorem noTab_of {H : Hp} {b : Addr} {o : HO} (h : H b = some o) (n : ∀ ps, o ≠ .tbl ps) : noTab H b = some o := by
  unfold noTab
  rw [h]
  split
  · rename_i ps e; cases e; exact absurd rfl (n ps)
  · rfl
theorem ok_startT {K : PySem.W.Frag} {H : Hp} {ta : List (Str × Nat)} (nd : (ta.map (·.2)).Nodup) (hT : ∀ p ∈ ta, H p.2 = some (.tbl #[])) : OkS K (ta.map (·.2)) (noTab H) (tabS ta) H := by
  refine ⟨fun b o e => noTab_some e, by simp [tabS], nd, fun n c a h1 h2 => ?_, fun c q e z => ?_⟩
  · simp only [tabS, List.getElem?_map, Option.map_eq_some_iff] at h1 h2
    obtain ⟨p, e1, rfl⟩ := h1
    obtain ⟨p', e2, rfl⟩ := h2
    rw [e1] at e2; cases e2
    have hp := hT p (List.mem_of_getElem? e1)
    refine ⟨by unfold noTab; rw [hp], rfl, #[], hp, trivial, fun pos cv z => ?_⟩
    have z' : codeAmong pos [] = some cv := z
    simp [codeAmong] at z'
  · rw [noTab_of e fun ps => LamX.codeO_ne ps] at z; cases z
theorem sqL_noTab {K : PySem.W.Frag} {H : Hp} {a : Addr} {xs : List V} (h : SqL K H a xs) : SqL K (noTab H) a xs :=
  h.imp (fun r => r.imp (fun z => noTab_of z fun _ y => nomatch y) fun ⟨o, z⟩ => ⟨o, noTab_of z fun _ y => nomatch y⟩) id
theorem lookup_map {f : Str → Nat} : ∀ {tn : List Str} {x : Str} {P : Nat}, (tn.map fun n => (n, f n)).lookup x = some P → x ∈ tn ∧ P = f x
  | [], _, _, h => by cases h
  | n :: tn, x, P, h => by
    by_cases e : x = n
    · subst e
      simp [List.lookup] at h
      exact ⟨by simp, h.symm⟩
    · have e' : (x == n) = false := by simpa using e
      simp only [List.map_cons, List.lookup, e'] at h
      obtain ⟨a, b⟩ := lookup_map h
      exact ⟨List.mem_cons_of_mem _ a, b⟩
theorem tab_ok {base : Heap} {tn : List Str} (X : K.In h) (G : h.Ns mainGlobals mg) (c : He.SaysD (faT dt cl) (fnT dt) K) (TB : ∀ p ∈ (tfOf tn).map (He.cT K), LamX.TabB base mg p.1 p.2) : ∀ p ∈ dtT (taOf K tn) dt, TabOk K mg base p.1 := by
  intro p hp P e a oc od fd sl ha hl
  obtain ⟨p, hq, rfl⟩ := List.mem_map.mp hp
  obtain ⟨m, rfl⟩ := lookup_map (show (taOf K tn).lookup p.1.name = some P from e)
  obtain ⟨fd', F⟩ := c.defs (d := defOf p) (List.mem_map.mpr ⟨p, hq, rfl⟩)
  have g := He.glo_ok X G (c.facts (f := .glo p.1.name) (List.mem_append.mpr (.inl (List.mem_map.mpr ⟨p, hq, rfl⟩))))
  have ha' : mg p.1.name = some (.ref a) := ha
  rw [g] at ha'
  cases ha'
  obtain ⟨oc', od', dV, kV, doc, pm, an, cdv, ct, osl, efd, lk, hcd, _, _⟩ := F.ex
  have e1 := lk.symm.trans hl
  cases e1
  obtain ⟨b, eb⟩ := He.codeIn_ref hcd
  have ec : fd.code = .ref b := by rw [efd, ← eb]
  have co : He.codeOf K (p.1.name, none) = b := He.codeOf_eq hl ec
  refine ⟨b, ec, ?_⟩
  have := TB (He.cT K (p.1.name, none)) (List.mem_map.mpr ⟨(p.1.name, none), List.mem_map.mpr ⟨_, m, rfl⟩, rfl⟩)
  have e1 : (He.cT K (p.1.name, none)).1 = b := co
  rw [e1] at this
  exact this
theorem ta_one {f : Str} {ta : List (Str × Nat)} (h : ta.map (·.1) = [f]) : ∃ P, ta = [(f, P)] := by
  match ta, h with
  | [(g, P)], h => simp at h; subst h; exact ⟨P, rfl⟩
/-- what the law's def promises, its defs' tables known -/
theorem law_endT {l : PySem.W.OpenLaw} {ts : List He.Tab} {tn : List Str} {k fuel : Nat} {d : Dn} {st : Stmt} (hok : (dt.all fun p => dnB p.1 p.2) = true) (hcl : clB cl = true) (hp : (d, st) ∈ dt) (hfi : ∀ ta, ((dtT ta dt).map (·.1)).find? (fun e => decide (e.name = d.name)) = some (withT ta d)) (hps : d.ps = [("script" : Str)])
    (hlaw : ∀ ta : List (Str × Nat), ta.map (·.1) = tn → ∀ ns : List Int, ns.length ≤ 63 → Y (callK (cstOf cl) fuel ((dtT ta dt).map (·.1)) k d.name [.scr ns] (tabS ta)) fun t _ => t = .bl true) (X : K.In h) (G : h.Ns mainGlobals mg) {fa : Addr} (hfa : mg d.name = some (.ref fa))
    (c : He.SaysX (faT dt cl) (fnT dt) ts (tfOf tn) (exT tn) w h K) : LamX.LawAtS l w K CX0 k 63 ("script" : Str) mg fa h := by
  have cd := c.t.d
  obtain ⟨a, fd, D⟩ := hat_of hok X G cd (d, st) hp
  have e := hfa.symm.trans D.at_
  cases e
  have hb := D.ok
  simp only [dnB, Bool.and_eq_true] at hb
  have b := FunD.bindsA (ps := [("script" : Str)]) D.fun_ fun _ _ _ _ _ _ us hl => bind_plain (by rw [← hps]; exact hb.1.1) hl
  have mem : ∀ p ∈ (tfOf tn).map (He.cT K), ∃ q ∈ tfOf tn, He.cT K q = p := fun p hp => List.mem_map.mp hp
  have names : (taOf K tn).map (·.1) = tn := by simp [taOf, Function.comp_def]
  have places : (taOf K tn).map (·.2) = tn.map fun n => (He.cT K (n, none)).2 := by simp [taOf, Function.comp_def]
  refine ⟨fd, (tfOf tn).map (He.cT K), spF K 1 (callK (cstOf cl) fuel ((dtT (taOf K tn) dt).map (·.1)) k d.name), ?_, ?_, ?_, fun s v => b s [v] rfl, fun H a ns hn _ hT hS => ?_, fun base _ _ TB => ?_⟩
  · intro p hp
    obtain ⟨q, hq, rfl⟩ := mem p hp
    exact c.empty q hq
  · intro p hp
    obtain ⟨q, hq, rfl⟩ := mem p hp
    exact c.out q hq
  · intro p hp
    obtain ⟨q, hq, rfl⟩ := mem p hp
    exact PySem.W.codeHd_of_K X (c.hd q hq)
  · obtain ⟨t, S', e, rfl⟩ := hlaw (taOf K tn) names ns hn
    have nd : ((taOf K tn).map (·.2)).Nodup := by rw [places]; exact of_decide_eq_true c.more
    have ok := ok_startT (K := K) (H := H) nd fun p hp => by
      obtain ⟨n, hn, rfl⟩ := List.mem_map.mp hp
      exact hT (He.cT K (n, none)) (List.mem_map.mpr ⟨(n, none), List.mem_map.mpr ⟨n, hn, rfl⟩, rfl⟩)
    exact ⟨_, _, _, [.scr ns], _, S', rfl, ok, ⟨_, _, rfl, ⟨a, rfl, sqL_noTab hS⟩, rfl⟩, e, fun v H' α' F' ok' st' is' => is'⟩
  · have hat : ∀ p ∈ dtT (taOf K tn) dt, ∃ a fd, DnAt K mg p a fd := fun p hp => by
      obtain ⟨p, hq, rfl⟩ := List.mem_map.mp hp
      obtain ⟨a, fd, D⟩ := hat_of hok X G cd p hq
      exact ⟨a, fd, D.fun_, D.at_, D.ok⟩
    have hD : DnAt K mg (withT (taOf K tn) d, st) _ fd := ⟨D.fun_, D.at_, D.ok⟩
    have := defs_ok (P := l.prog) (w := w) (base := base) (fuel := fuel) hat (cst_of hcl X G cd) (free_of X G cd) (tab_ok X G cd TB) k (withT (taOf K tn) d, st) _ fd (List.mem_map.mpr ⟨(d, st), hp, rfl⟩) (hfi _) hD
    have e : (withT (taOf K tn) d).ps = [("script" : Str)] := hps
    rw [e] at this
    exact this
end
end RD

namespace RD
open PySem
def d__law_bag : Dn := ⟨"_law_bag", ["script", "k"], ["script", "k", "cell"],
  (.cons (.set 2 (.int 0)) (.cons (.ite (.cmp .lt (.var 1) (.blt .len (.cons (.var 0) .nil)))
    (.cons (.set 2 (.blt .abs (.cons (.idx (.var 0) (.var 1)) .nil))) .nil)
    .nil) (.cons (.ite (.cmp .lt (.var 2) (.bin .pow (.int 10) (.int 18)))
    (.cons (.ret (.cel (.lst (.cons (.int 0) (.cons (.bin .add (.int 1) (.bin .mod (.bin .add (.bin .mul (.var 2) (.int 7919)) (.bin .mul (.int 104729) (.var 1))) (.int 2147483646))) .nil))))) .nil)
    .nil) (.cons (.ret (.cel (.lst (.cons (.var 2) (.cons (.bin .add (.int 1) (.bin .mod (.bin .add (.var 2) (.var 1)) (.int 2147483646))) .nil))))) .nil)))), .none⟩
def d__law_case : Dn := ⟨"_law_case", ["bag", "house", "name"], ["bag", "house", "name", "usual", "longest", "team", "places", "first", "turn"],
  (.cons (.set 3 (.bin .add (.int 1) (.call "_law_take" (.cons (.var 0) (.cons (.idx (.lst (.cons (.int 4) (.cons (.int 30) (.cons (.int 200) .nil)))) (.call "_law_take" (.cons (.var 0) (.cons (.int 3) .nil)))) .nil))))) (.cons (.set 4 (.bin .add (.var 3) (.idx (.lst (.cons (.int 0) (.cons (.call "_law_take" (.cons (.var 0) (.cons (.int 10) .nil))) (.cons (.call "_law_take" (.cons (.var 0) (.cons (.bin .add (.bin .sub (.int 400) (.var 3)) (.int 1)) .nil))) .nil)))) (.call "_law_take" (.cons (.var 0) (.cons (.int 3) .nil)))))) (.cons (.set 5 (.sset (.lc (.name 8) (.rng1 (.call "_law_take" (.cons (.var 0) (.cons (.int 3) .nil)))) (.some (.cmp .ne (.idx (.var 1) (.int 1)) (.tup .nil))) (.call "_law_of" (.cons (.var 0) (.cons (.idx (.var 1) (.int 1)) .nil)))))) (.cons (.set 6 (.sset (.lc (.name 8) (.rng1 (.bin .add (.int 1) (.call "_law_take" (.cons (.var 0) (.cons (.int 3) .nil))))) .none (.call "_law_take" (.cons (.var 0) (.cons (.idx (.var 1) (.int 0)) .nil)))))) (.cons (.set 7 (.idx (.lst (.cons (.int 0) (.cons (.int 0) (.cons (.call "_law_take" (.cons (.var 0) (.cons (.int 20) .nil))) (.cons (.call "_law_take" (.cons (.var 0) (.cons (.int 601) .nil))) .nil))))) (.call "_law_take" (.cons (.var 0) (.cons (.int 4) .nil))))) (.cons (.ret (.tup (.cons (.var 2) (.cons (.var 3) (.cons (.var 4) (.cons (.blt .tuple (.cons (.var 5) .nil)) (.cons (.blt .tuple (.cons (.var 6) .nil)) (.cons (.var 7) .nil)))))))) .nil)))))), .none⟩
def d__law_cases : Dn := ⟨"_law_cases", ["bag", "house", "most"], ["bag", "house", "most", "names", "name"],
  (.cons (.set 3 (.slice (.lst (.cons (.str "ada") (.cons (.str "bel") (.cons (.str "cid") (.cons (.str "dot") (.cons (.str "eve") (.cons (.str "fin") (.cons (.str "gil") (.cons (.str "hob") .nil))))))))) .none (.some (.call "_law_take" (.cons (.var 0) (.cons (.bin .add (.var 2) (.int 1)) .nil)))))) (.cons (.ret (.blt .tuple (.cons (.lc (.name 4) (.seq (.var 3)) .none (.call "_law_case" (.cons (.var 0) (.cons (.var 1) (.cons (.var 4) .nil))))) .nil))) .nil)), .none⟩
def d__law_dealt : Dn := ⟨"_law_dealt", ["cases", "plan", "many"], ["cases", "plan", "many", "known", "rows", "ends_so", "at", "one", "row", "usual", "longest", "begins", "count", "case", "place"],
  (.cons (.set 3 (.blt .dict (.cons (.lc (.name 13) (.seq (.var 0)) .none (.tup (.cons (.idx (.var 13) (.int 0)) (.cons (.var 13) .nil)))) .nil))) (.cons (.set 4 (.call "_law_leans" (.cons (.var 0) (.cons (.var 1) .nil)))) (.cons (.own 5 (.lst .nil)) (.cons (.forr (.tup [6, 7]) (.enum (.var 1))
    (.cons (.own 8 (.lst .nil)) (.cons (.unp [9, 10] (.slice (.idx (.var 3) (.idx (.var 7) (.int 1))) (.some (.int 1)) (.some (.int 3)))) (.cons (.set 11 (.lc (.name 12) (.rng1 (.bin .add (.var 2) (.int 1))) .none (.blt .max (.cons (.bin .add (.lst (.cons (.idx (.var 7) (.int 0)) .nil)) (.lc (.name 14) (.seq (.idx (.var 4) (.var 6))) .none (.idx (.idx (.peek 5) (.var 14)) (.var 12)))) .nil)))) (.cons (.forr (.name 12) (.rng1 (.bin .add (.var 2) (.int 1)))
    (.cons (.app 8 (.blt .max (.cons (.bin .add (.idx (.var 11) (.var 12)) (.var 9)) (.cons (.ite (.cmp .gt (.var 12) (.int 0)) (.bin .add (.idx (.var 11) (.blt .max (.cons (.int 0) (.cons (.bin .sub (.var 12) (.int 1)) .nil)))) (.var 10)) (.int 0)) .nil)))) .nil)) (.cons (.frz 8) (.cons (.app 5 (.var 8)) .nil))))))) (.cons (.ret (.blt .max (.cons (.bin .add (.lc (.name 8) (.seq (.peek 5)) .none (.idx (.peek 8) (.var 2))) (.lst (.cons (.int 0) .nil))) .nil))) .nil))))), .none⟩
def d__law_drawn : Dn := ⟨"_law_drawn", ["bag", "most"], ["bag", "most", "house", "cases"],
  (.cons (.set 2 (.call "_law_house" (.cons (.var 0) .nil))) (.cons (.set 3 (.call "_law_cases" (.cons (.var 0) (.cons (.var 2) (.cons (.var 1) .nil))))) (.cons (.ret (.tup (.cons (.var 2) (.cons (.var 3) (.cons (.call "_law_plan" (.cons (.var 0) (.cons (.var 3) .nil))) .nil))))) .nil))), .none⟩
def d__law_house : Dn := ⟨"_law_house", ["bag"], ["bag", "people", "turn"],
  (.cons (.set 1 (.sset (.lc (.name 2) (.rng1 (.call "_law_take" (.cons (.var 0) (.cons (.int 6) .nil)))) .none (.call "_law_of" (.cons (.var 0) (.cons (.lst (.cons (.str "ann") (.cons (.str "bo") (.cons (.str "cy") (.cons (.str "dee") (.cons (.str "eli") .nil)))))) .nil)))))) (.cons (.ret (.tup (.cons (.bin .add (.int 1) (.call "_law_take" (.cons (.var 0) (.cons (.int 4) .nil)))) (.cons (.blt .tuple (.cons (.var 1) .nil)) .nil)))) .nil)), .none⟩
def d__law_later : Dn := ⟨"_law_later", ["bag", "cases", "plan", "many"], ["bag", "cases", "plan", "many", "known", "rows", "found", "at", "one", "row", "count", "least", "place", "usual", "longest", "case"],
  (.cons (.set 4 (.blt .dict (.cons (.lc (.name 15) (.seq (.var 1)) .none (.tup (.cons (.idx (.var 15) (.int 0)) (.cons (.var 15) .nil)))) .nil))) (.cons (.set 5 (.call "_law_leans" (.cons (.var 1) (.cons (.var 2) .nil)))) (.cons (.own 6 (.lst .nil)) (.cons (.forr (.tup [7, 8]) (.enum (.var 2))
    (.cons (.own 9 (.lst .nil)) (.cons (.forr (.name 10) (.rng1 (.bin .add (.var 3) (.int 1)))
    (.cons (.set 11 (.idx (.var 8) (.int 0))) (.cons (.forr (.name 12) (.seq (.idx (.var 5) (.var 7)))
    (.cons (.unp [13, 14] (.slice (.idx (.var 4) (.idx (.idx (.var 2) (.var 12)) (.int 1))) (.some (.int 1)) (.some (.int 3)))) (.cons (.set 11 (.blt .max (.cons (.var 11) (.cons (.bin .add (.idx (.idx (.peek 6) (.var 12)) (.var 10)) (.var 13)) .nil)))) (.cons (.ite (.cmp .gt (.var 10) (.int 0))
    (.cons (.set 11 (.blt .max (.cons (.var 11) (.cons (.bin .add (.idx (.idx (.peek 6) (.var 12)) (.bin .sub (.var 10) (.int 1))) (.var 14)) .nil)))) .nil)
    .nil) .nil)))) (.cons (.app 9 (.bin .add (.var 11) (.idx (.lst (.cons (.int 0) (.cons (.int 0) (.cons (.call "_law_take" (.cons (.var 0) (.cons (.int 50) .nil))) .nil)))) (.call "_law_take" (.cons (.var 0) (.cons (.int 3) .nil)))))) .nil)))) (.cons (.app 6 (.blt .tuple (.cons (.peek 9) .nil))) .nil)))) (.cons (.ret (.blt .tuple (.cons (.peek 6) .nil))) .nil))))), .none⟩
def d__law_leans : Dn := ⟨"_law_leans", ["cases", "plan"], ["cases", "plan", "known", "found", "at", "one", "row", "place", "both", "case", "person"],
  (.cons (.set 2 (.blt .dict (.cons (.lc (.name 9) (.seq (.var 0)) .none (.tup (.cons (.idx (.var 9) (.int 0)) (.cons (.var 9) .nil)))) .nil))) (.cons (.own 3 (.lst .nil)) (.cons (.forr (.tup [4, 5]) (.enum (.var 1))
    (.cons (.own 6 (.lst .nil)) (.cons (.forr (.name 7) (.rng1 (.var 4))
    (.cons (.set 8 (.lc (.name 10) (.seq (.idx (.idx (.var 2) (.idx (.var 5) (.int 1))) (.int 3))) (.some (.cmp .isin (.var 10) (.idx (.idx (.var 2) (.idx (.idx (.var 1) (.var 7)) (.int 1))) (.int 3)))) (.var 10))) (.cons (.ite (.bop false (.cons (.cmp .eq (.idx (.var 5) (.int 2)) (.idx (.idx (.var 1) (.var 7)) (.int 2))) (.cons (.cmp .ne (.var 8) (.lst .nil)) .nil)))
    (.cons (.app 6 (.var 7)) .nil)
    .nil) .nil))) (.cons (.app 3 (.blt .tuple (.cons (.peek 6) .nil))) .nil)))) (.cons (.frz 3) (.cons (.ret (.var 3)) .nil))))), .none⟩
def d__law_lots : Dn := ⟨"_law_lots", ["man1", "most"], ["man1", "most", "found", "at", "lot"],
  (.cons (.set 2 (.lst (.cons (.tup .nil) .nil))) (.cons (.forr (.name 3) (.rng1 (.var 0))
    (.cons (.set 2 (.bin .add (.var 2) (.lc (.name 4) (.seq (.var 2)) (.some (.cmp .lt (.blt .len (.cons (.var 4) .nil)) (.var 1))) (.bin .add (.var 4) (.tup (.cons (.var 3) .nil)))))) .nil)) (.cons (.ret (.var 2)) .nil))), .none⟩
def d__law_lots_v1 : Dn := ⟨"_law_lots", ["many", "most"], ["many", "most", "found", "at", "lot"],
  (.cons (.set 2 (.lst (.cons (.tup .nil) .nil))) (.cons (.forr (.name 3) (.rng1 (.var 0))
    (.cons (.set 2 (.bin .add (.var 2) (.lc (.name 4) (.seq (.var 2)) (.some (.cmp .lt (.blt .len (.cons (.var 4) .nil)) (.var 1))) (.bin .add (.var 4) (.tup (.cons (.var 3) .nil)))))) .nil)) (.cons (.ret (.var 2)) .nil))), .none⟩
def d__law_minutes : Dn := ⟨"_law_minutes", ["cases", "plan", "lot"], ["cases", "plan", "lot", "known", "case", "at", "one"],
  (.cons (.set 3 (.blt .dict (.cons (.lc (.name 4) (.seq (.var 0)) .none (.tup (.cons (.idx (.var 4) (.int 0)) (.cons (.var 4) .nil)))) .nil))) (.cons (.ret (.blt .tuple (.cons (.lc (.tup [5, 6]) (.enum (.var 1)) .none (.idx (.idx (.var 3) (.idx (.var 6) (.int 1))) (.ite (.cmp .isin (.var 5) (.var 2)) (.int 2) (.int 1)))) .nil))) .nil)), .none⟩
def d__law_mixed : Dn := ⟨"_law_mixed", ["bag", "names"], ["bag", "names", "found", "name"],
  (.cons (.own 2 (.lst .nil)) (.cons (.forr (.name 3) (.seq (.var 1))
    (.cons (.ins 2 (.call "_law_take" (.cons (.var 0) (.cons (.bin .add (.blt .len (.cons (.peek 2) .nil)) (.int 1)) .nil))) (.var 3)) .nil)) (.cons (.ret (.blt .tuple (.cons (.peek 2) .nil))) .nil))), .none⟩
def d__law_no_earlier : Dn := ⟨"_law_no_earlier", ["one", "two"], ["one", "two", "late", "row"],
  (.cons (.set 2 (.blt .dict (.cons (.lc (.name 3) (.seq (.var 1)) .none (.tup (.cons (.idx (.var 3) (.int 0)) (.cons (.var 3) .nil)))) .nil))) (.cons (.forr (.name 3) (.seq (.var 0))
    (.cons (.ite (.bop true (.cons (.cmp .isin (.idx (.var 3) (.int 0)) (.var 2)) (.cons (.bop false (.cons (.cmp .lt (.idx (.idx (.var 2) (.idx (.var 3) (.int 0))) (.int 1)) (.idx (.var 3) (.int 1))) (.cons (.cmp .lt (.idx (.idx (.var 2) (.idx (.var 3) (.int 0))) (.int 2)) (.idx (.var 3) (.int 2))) .nil))) .nil)))
    (.cons (.ret (.bl false)) .nil)
    .nil) .nil)) (.cons (.ret (.bl true)) .nil))), .none⟩
def d__law_of : Dn := ⟨"_law_of", ["bag", "some"], ["bag", "some"],
  (.cons (.ret (.idx (.var 1) (.call "_law_take" (.cons (.var 0) (.cons (.blt .len (.cons (.var 1) .nil)) .nil))))) .nil), .none⟩
def d__law_plan : Dn := ⟨"_law_plan", ["bag", "cases"], ["bag", "cases", "found", "far", "case"],
  (.cons (.own 2 (.lst .nil)) (.cons (.set 3 (.idx (.lst (.cons (.int 1) (.cons (.int 10) (.cons (.int 60) (.cons (.int 400) .nil))))) (.call "_law_take" (.cons (.var 0) (.cons (.int 4) .nil))))) (.cons (.forr (.name 4) (.seq (.var 1))
    (.cons (.ite (.cmp .gt (.call "_law_take" (.cons (.var 0) (.cons (.int 8) .nil))) (.int 0))
    (.cons (.app 2 (.tup (.cons (.bin .add (.idx (.var 4) (.int 5)) (.call "_law_take" (.cons (.var 0) (.cons (.var 3) .nil)))) (.cons (.idx (.var 4) (.int 0)) (.cons (.call "_law_of" (.cons (.var 0) (.cons (.idx (.var 4) (.int 4)) .nil))) .nil))))) .nil)
    .nil) .nil)) (.cons (.ret (.blt .tuple (.cons (.blt .sorted (.cons (.peek 2) .nil)) .nil))) .nil)))), .none⟩
def d__law_take : Dn := ⟨"_law_take", ["bag", "many"], ["bag", "many", "found"],
  (.cons (.ite (.cmp .gt (.idx (.var 0) (.int 0)) (.int 0))
    (.cons (.set 2 (.bin .mod (.idx (.var 0) (.int 0)) (.var 1))) (.cons (.put (.var 0) (.int 0) (.bin .fdiv (.idx (.var 0) (.int 0)) (.var 1))) (.cons (.ret (.var 2)) .nil)))
    .nil) (.cons (.put (.var 0) (.int 1) (.bin .mod (.bin .mul (.idx (.var 0) (.int 1)) (.int 48271)) (.int 2147483647))) (.cons (.ret (.bin .mod (.bin .fdiv (.bin .mod (.bin .mul (.idx (.var 0) (.int 1)) (.idx (.var 0) (.int 1))) (.int 2147483629)) (.int 64)) (.var 1))) .nil))), .none⟩
def d__law_told_day : Dn := ⟨"_law_told_day", ["cases", "plan", "minutes"], ["cases", "plan", "minutes", "found", "rows", "at", "one", "begin", "place"],
  (.cons (.own 3 (.lst .nil)) (.cons (.set 4 (.call "_law_leans" (.cons (.var 0) (.cons (.var 1) .nil)))) (.cons (.forr (.tup [5, 6]) (.enum (.var 1))
    (.cons (.set 7 (.idx (.var 6) (.int 0))) (.cons (.forr (.name 8) (.seq (.idx (.var 4) (.var 5)))
    (.cons (.set 7 (.blt .max (.cons (.var 7) (.cons (.idx (.idx (.peek 3) (.var 8)) (.int 2)) .nil)))) .nil)) (.cons (.app 3 (.tup (.cons (.idx (.var 6) (.int 1)) (.cons (.var 7) (.cons (.bin .add (.var 7) (.idx (.var 2) (.var 5))) .nil))))) .nil)))) (.cons (.frz 3) (.cons (.ret (.var 3)) .nil))))), .none⟩
def d__law_within_day : Dn := ⟨"_law_within_day", ["bag", "cases", "plan", "many"], ["bag", "cases", "plan", "many", "known", "order", "over", "found", "at", "one", "usual", "longest", "most", "case"],
  (.cons (.set 4 (.blt .dict (.cons (.lc (.name 13) (.seq (.var 1)) .none (.tup (.cons (.idx (.var 13) (.int 0)) (.cons (.var 13) .nil)))) .nil))) (.cons (.set 5 (.call "_law_mixed" (.cons (.var 0) (.cons (.ext .lrng (.blt .len (.cons (.var 2) .nil))) .nil)))) (.cons (.set 6 (.slice (.blt .list (.cons (.var 5) .nil)) .none (.some (.var 3)))) (.cons (.own 7 (.lst .nil)) (.cons (.forr (.tup [8, 9]) (.enum (.var 2))
    (.cons (.unp [10, 11] (.slice (.idx (.var 4) (.idx (.var 9) (.int 1))) (.some (.int 1)) (.some (.int 3)))) (.cons (.set 12 (.ite (.cmp .isin (.var 8) (.var 6)) (.var 11) (.var 10))) (.cons (.app 7 (.idx (.lst (.cons (.var 12) (.cons (.var 12) (.cons (.bin .add (.int 1) (.call "_law_take" (.cons (.var 0) (.cons (.var 12) .nil)))) .nil)))) (.call "_law_take" (.cons (.var 0) (.cons (.int 3) .nil))))) .nil)))) (.cons (.ret (.blt .tuple (.cons (.peek 7) .nil))) .nil)))))), .none⟩
def d__law_worst : Dn := ⟨"_law_worst", ["cases", "plan", "many"], ["cases", "plan", "many", "begins", "ends_so", "lot", "day", "old", "row", "one", "begin", "end"],
  (.cons (.set 3 (.bin .mul (.lst (.cons (.int 0) .nil)) (.blt .len (.cons (.var 1) .nil)))) (.cons (.set 4 (.bin .mul (.lst (.cons (.int 0) .nil)) (.blt .len (.cons (.var 1) .nil)))) (.cons (.forr (.name 5) (.seq (.call "_law_lots" (.cons (.blt .len (.cons (.var 1) .nil)) (.cons (.var 2) .nil))))
    (.cons (.set 6 (.call "_law_told_day" (.cons (.var 0) (.cons (.var 1) (.cons (.call "_law_minutes" (.cons (.var 0) (.cons (.var 1) (.cons (.var 5) .nil)))) .nil))))) (.cons (.set 3 (.lc (.tup [7, 8]) (.zip2 (.var 3) (.var 6)) .none (.blt .max (.cons (.var 7) (.cons (.idx (.var 8) (.int 1)) .nil))))) (.cons (.set 4 (.lc (.tup [7, 8]) (.zip2 (.var 4) (.var 6)) .none (.blt .max (.cons (.var 7) (.cons (.idx (.var 8) (.int 2)) .nil))))) .nil)))) (.cons (.ret (.lc (.tup [9, 10, 11]) (.zip3 (.var 1) (.var 3) (.var 4)) .none (.tup (.cons (.idx (.var 9) (.int 1)) (.cons (.var 10) (.cons (.var 11) .nil)))))) .nil)))), .none⟩
def d_are_rising : Dn := ⟨"are_rising", ["some"], ["some", "one", "other"],
  (.cons (.ret (.blt .all (.cons (.lc (.tup [1, 2]) (.zip2 (.var 0) (.slice (.var 0) (.some (.int 1)) .none)) .none (.cmp .lt (.var 1) (.var 2))) .nil))) .nil), .none⟩
def d_beyond : Dn := ⟨"beyond", ["cases", "plan", "many", "hours"], ["cases", "plan", "many", "hours", "known", "found", "person", "minute", "some", "row"],
  (.cons (.set 4 (.call "by_name" (.cons (.var 0) .nil))) (.cons (.own 5 (.lst .nil)) (.cons (.forr (.tup [6, 7]) (.seq (.var 3))
    (.cons (.set 8 (.lc (.name 9) (.seq (.call "latest" (.cons (.var 0) (.cons (.var 1) (.cons (.var 2) .nil))))) (.some (.cmp .isin (.var 6) (.idx (.idx (.var 4) (.idx (.var 9) (.int 0))) (.int 3)))) (.bin .sub (.idx (.var 9) (.int 2)) (.var 7)))) (.cons (.app 5 (.tup (.cons (.var 6) (.cons (.blt .max (.cons (.bin .add (.var 8) (.lst (.cons (.int 0) .nil))) .nil)) .nil)))) .nil))) (.cons (.frz 5) (.cons (.ret (.var 5)) .nil))))), .none⟩
def d_by_name : Dn := ⟨"by_name", ["cases"], ["cases", "one"],
  (.cons (.ret (.dc (.name 1) (.seq (.var 0)) (.idx (.var 1) (.int 0)) (.var 1))) .nil), .none⟩
def d_called_off : Dn := ⟨"called_off", ["cases", "plan", "many", "minute"], ["cases", "plan", "many", "minute", "lot", "rest", "one"],
  (.cons (.forr (.name 4) (.seq (.call "lots" (.cons (.blt .sorted (.cons (.lc (.name 6) (.seq (.var 1)) .none (.idx (.var 6) (.int 1))) .nil)) .nil)))
    (.cons (.set 5 (.blt .tuple (.cons (.lc (.name 6) (.seq (.var 1)) (.some (.cmp .notin (.idx (.var 6) (.int 1)) (.var 4))) (.var 6)) .nil))) (.cons (.ite (.cmp .le (.call "last_end" (.cons (.var 0) (.cons (.var 5) (.cons (.var 2) .nil)))) (.var 3))
    (.cons (.ret (.var 4)) .nil)
    .nil) .nil))) (.cons (.ret (.tup .nil)) .nil)), .none⟩
def d_ends : Dn := ⟨"ends", ["begins", "usual", "longest"], ["begins", "usual", "longest", "found", "count", "begin"],
  (.cons (.own 3 (.lst .nil)) (.cons (.forr (.tup [4, 5]) (.enum (.var 0))
    (.cons (.app 3 (.blt .max (.cons (.bin .add (.var 5) (.var 1)) (.cons (.ite (.cmp .gt (.var 4) (.int 0)) (.bin .add (.idx (.var 0) (.bin .sub (.var 4) (.int 1))) (.var 2)) (.int 0)) .nil)))) .nil)) (.cons (.frz 3) (.cons (.ret (.var 3)) .nil)))), .none⟩
def d_is_name : Dn := ⟨"is_name", ["thing"], ["thing", "sign"],
  (.cons (.ret (.bop true (.cons (.isa (.var 0) [.str]) (.cons (.chain .le .le (.int 1) (.blt .len (.cons (.var 0) .nil)) (.int 8)) (.cons (.blt .all (.cons (.lc (.name 1) (.seq (.var 0)) .none (.cmp .isin (.var 1) (.glb "LETTERS"))) .nil)) .nil))))) .nil), .none⟩
def d_is_numbers : Dn := ⟨"is_numbers", ["thing", "many"], ["thing", "many", "one"],
  (.cons (.ret (.bop true (.cons (.isa (.var 0) [.tuple]) (.cons (.cmp .eq (.blt .len (.cons (.var 0) .nil)) (.var 1)) (.cons (.blt .all (.cons (.lc (.name 2) (.seq (.var 0)) .none (.call "is_whole" (.cons (.var 2) .nil))) .nil)) .nil))))) .nil), .none⟩
def d_is_paper : Dn := ⟨"is_paper", ["cases", "plan", "many", "thing"], ["cases", "plan", "many", "thing", "known", "one", "places", "row", "count", "number", "least", "place", "other"],
  (.cons (.ite (.bop false (.cons (.not (.isa (.var 3) [.tuple])) (.cons (.cmp .ne (.blt .len (.cons (.var 3) .nil)) (.blt .len (.cons (.var 1) .nil))) .nil)))
    (.cons (.ret (.bl false)) .nil)
    .nil) (.cons (.ite (.not (.blt .all (.cons (.lc (.name 7) (.seq (.var 3)) .none (.call "is_numbers" (.cons (.var 7) (.cons (.bin .add (.var 2) (.int 1)) .nil)))) .nil)))
    (.cons (.ret (.bl false)) .nil)
    .nil) (.cons (.set 4 (.call "by_name" (.cons (.var 0) .nil))) (.cons (.forr (.tup [5, 6, 7]) (.zip3 (.var 1) (.call "leans" (.cons (.var 0) (.cons (.var 1) .nil))) (.var 3))
    (.cons (.forr (.tup [8, 9]) (.enum (.var 7))
    (.cons (.own 10 (.lst (.cons (.idx (.var 5) (.int 0)) .nil))) (.cons (.forr (.name 11) (.seq (.var 6))
    (.cons (.set 12 (.idx (.var 4) (.idx (.idx (.var 1) (.var 11)) (.int 1)))) (.cons (.app 10 (.bin .add (.idx (.idx (.var 3) (.var 11)) (.var 8)) (.idx (.var 12) (.int 1)))) (.cons (.ite (.cmp .gt (.var 8) (.int 0))
    (.cons (.app 10 (.bin .add (.idx (.idx (.var 3) (.var 11)) (.bin .sub (.var 8) (.int 1))) (.idx (.var 12) (.int 2)))) .nil)
    .nil) .nil)))) (.cons (.ite (.cmp .lt (.var 9) (.blt .max (.cons (.peek 10) .nil)))
    (.cons (.ret (.bl false)) .nil)
    .nil) .nil)))) .nil)) (.cons (.ret (.bl true)) .nil))))), .none⟩
def d_is_smooth : Dn := ⟨"is_smooth", ["cases", "plan"], ["cases", "plan", "day", "row", "one"],
  (.cons (.set 2 (.call "told_day" (.cons (.var 0) (.cons (.var 1) (.cons (.call "usual_times" (.cons (.var 0) (.cons (.var 1) .nil))) .nil))))) (.cons (.ret (.blt .all (.cons (.lc (.tup [3, 4]) (.zip2 (.var 2) (.var 1)) .none (.cmp .eq (.idx (.var 3) (.int 1)) (.idx (.var 4) (.int 0)))) .nil))) .nil)), .none⟩
def d_is_whole : Dn := ⟨"is_whole", ["thing"], ["thing"],
  (.cons (.ret (.bop true (.cons (.isa (.var 0) [.int]) (.cons (.not (.isa (.var 0) [.bool])) .nil)))) .nil), .none⟩
def d_is_within : Dn := ⟨"is_within", ["thing", "least", "most"], ["thing", "least", "most"],
  (.cons (.ret (.bop true (.cons (.call "is_whole" (.cons (.var 0) .nil)) (.cons (.chain .le .le (.var 1) (.var 0) (.var 2)) .nil)))) .nil), .none⟩
def d_last_end : Dn := ⟨"last_end", ["cases", "plan", "many"], ["cases", "plan", "many", "row"],
  (.cons (.ret (.blt .max (.cons (.bin .add (.lc (.name 3) (.seq (.call "latest" (.cons (.var 0) (.cons (.var 1) (.cons (.var 2) .nil))))) .none (.idx (.var 3) (.int 2))) (.lst (.cons (.int 0) .nil))) .nil))) .nil), .none⟩
def d_latest : Dn := ⟨"latest", ["cases", "plan", "many"], ["cases", "plan", "many", "one", "row"],
  (.cons (.ret (.lc (.tup [3, 4]) (.zip2 (.var 1) (.call "table" (.cons (.var 0) (.cons (.var 1) (.cons (.var 2) .nil))))) .none (.tup (.cons (.idx (.var 3) (.int 1)) (.cons (.idx (.idx (.var 4) (.int 0)) (.neg (.int 1))) (.cons (.idx (.idx (.var 4) (.int 1)) (.neg (.int 1))) .nil)))))) .nil), .none⟩
def d_law_k04 : Dn := ⟨"law", ["script"], ["script", "k", "bag", "house", "cases", "plan", "many", "found"],
  (.cons (.forr (.name 1) (.rng1 (.bin .add (.int 1) (.blt .min (.cons (.blt .len (.cons (.var 0) .nil)) (.cons (.int 12) .nil)))))
    (.cons (.set 2 (.call "_law_bag" (.cons (.var 0) (.cons (.var 1) .nil)))) (.cons (.unp [3, 4, 5] (.call "_law_drawn" (.cons (.var 2) (.cons (.int 8) .nil)))) (.cons (.forr (.name 6) (.seq (.lst (.cons (.call "_law_take" (.cons (.var 2) (.cons (.int 9) .nil))) (.cons (.int 0) (.cons (.int 1) (.cons (.int 2) .nil))))))
    (.cons (.set 7 (.call "latest" (.cons (.var 4) (.cons (.var 5) (.cons (.var 6) .nil))))) (.cons (.ite (.bop false (.cons (.cmp .ne (.var 7) (.call "_law_worst" (.cons (.var 4) (.cons (.var 5) (.cons (.var 6) .nil))))) (.cons (.not (.isa (.var 7) [.list])) .nil)))
    (.cons (.ret (.bl false)) .nil)
    .nil) .nil))) .nil)))) (.cons (.ret (.bl true)) .nil)), .none⟩
def d_law_k06 : Dn := ⟨"law", ["script"], ["script", "k", "bag", "house", "cases", "plan", "many", "rows", "due", "count", "at", "row"],
  (.cons (.forr (.name 1) (.rng1 (.bin .add (.int 1) (.blt .min (.cons (.blt .len (.cons (.var 0) .nil)) (.cons (.int 10) .nil)))))
    (.cons (.set 2 (.call "_law_bag" (.cons (.var 0) (.cons (.var 1) .nil)))) (.cons (.unp [3, 4, 5] (.call "_law_drawn" (.cons (.var 2) (.cons (.int 7) .nil)))) (.cons (.set 6 (.call "_law_take" (.cons (.var 2) (.cons (.int 9) .nil)))) (.cons (.set 7 (.lc (.name 9) (.rng1 (.bin .add (.var 6) (.int 1))) .none (.call "_law_worst" (.cons (.var 4) (.cons (.var 5) (.cons (.var 9) .nil)))))) (.cons (.set 8 (.blt .tuple (.cons (.lc (.name 10) (.rng1 (.blt .len (.cons (.var 5) .nil))) .none (.blt .tuple (.cons (.lc (.name 11) (.seq (.var 7)) .none (.idx (.idx (.var 11) (.var 10)) (.int 1))) .nil))) .nil))) (.cons (.ite (.bop false (.cons (.cmp .ne (.call "paper" (.cons (.var 4) (.cons (.var 5) (.cons (.var 6) .nil)))) (.var 8)) (.cons (.cmp .isnb (.call "is_paper" (.cons (.var 4) (.cons (.var 5) (.cons (.var 6) (.cons (.var 8) .nil))))) (.bl true)) .nil)))
    (.cons (.ret (.bl false)) .nil)
    .nil) .nil))))))) (.cons (.ret (.bl true)) .nil)), .none⟩
def d_law_k08 : Dn := ⟨"law", ["script"], ["script", "k", "bag", "house", "cases", "plan", "many", "known", "rows", "hours", "due", "person", "minute", "some", "case", "row"],
  (.cons (.forr (.name 1) (.rng1 (.bin .add (.int 1) (.blt .min (.cons (.blt .len (.cons (.var 0) .nil)) (.cons (.int 12) .nil)))))
    (.cons (.set 2 (.call "_law_bag" (.cons (.var 0) (.cons (.var 1) .nil)))) (.cons (.unp [3, 4, 5] (.call "_law_drawn" (.cons (.var 2) (.cons (.int 8) .nil)))) (.cons (.set 6 (.call "_law_take" (.cons (.var 2) (.cons (.int 9) .nil)))) (.cons (.set 7 (.blt .dict (.cons (.lc (.name 14) (.seq (.var 4)) .none (.tup (.cons (.idx (.var 14) (.int 0)) (.cons (.var 14) .nil)))) .nil))) (.cons (.set 8 (.call "_law_worst" (.cons (.var 4) (.cons (.var 5) (.cons (.var 6) .nil))))) (.cons (.own 9 (.lst .nil)) (.cons (.own 10 (.lst .nil)) (.cons (.forr (.name 11) (.seq (.idx (.var 3) (.int 1)))
    (.cons (.ite (.cmp .gt (.call "_law_take" (.cons (.var 2) (.cons (.int 5) .nil))) (.int 0))
    (.cons (.set 12 (.call "_law_take" (.cons (.var 2) (.cons (.idx (.lst (.cons (.int 50) (.cons (.int 700) (.cons (.int 4001) .nil)))) (.call "_law_take" (.cons (.var 2) (.cons (.int 3) .nil)))) .nil)))) (.cons (.set 13 (.lc (.name 15) (.seq (.var 8)) (.some (.cmp .isin (.var 11) (.idx (.idx (.var 7) (.idx (.var 15) (.int 0))) (.int 3)))) (.bin .sub (.idx (.var 15) (.int 2)) (.var 12)))) (.cons (.app 9 (.tup (.cons (.var 11) (.cons (.var 12) .nil)))) (.cons (.app 10 (.tup (.cons (.var 11) (.cons (.blt .max (.cons (.bin .add (.var 13) (.lst (.cons (.int 0) .nil))) .nil)) .nil)))) .nil))))
    .nil) .nil)) (.cons (.ite (.cmp .ne (.call "beyond" (.cons (.var 4) (.cons (.var 5) (.cons (.var 6) (.cons (.blt .tuple (.cons (.peek 9) .nil)) .nil))))) (.peek 10))
    (.cons (.ret (.bl false)) .nil)
    .nil) .nil)))))))))) (.cons (.ret (.bl true)) .nil)), .none⟩
def d_law_k11 : Dn := ⟨"law", ["script"], ["script", "k", "bag", "house", "cases", "plan", "many", "last", "names", "minute", "best", "lot", "off", "rest", "one", "at"],
  (.cons (.forr (.name 1) (.rng1 (.bin .add (.int 1) (.blt .min (.cons (.blt .len (.cons (.var 0) .nil)) (.cons (.int 6) .nil)))))
    (.cons (.set 2 (.call "_law_bag" (.cons (.var 0) (.cons (.var 1) .nil)))) (.cons (.unp [3, 4, 5] (.call "_law_drawn" (.cons (.var 2) (.cons (.int 6) .nil)))) (.cons (.set 6 (.call "_law_take" (.cons (.var 2) (.cons (.int 5) .nil)))) (.cons (.set 7 (.call "_law_dealt" (.cons (.var 4) (.cons (.var 5) (.cons (.var 6) .nil))))) (.cons (.set 8 (.blt .sorted (.cons (.lc (.name 14) (.seq (.var 5)) .none (.idx (.var 14) (.int 1))) .nil))) (.cons (.forr (.name 9) (.seq (.lst (.cons (.var 7) (.cons (.blt .max (.cons (.int 0) (.cons (.bin .sub (.var 7) (.int 1)) .nil))) (.cons (.bin .fdiv (.var 7) (.int 2)) (.cons (.int 0) (.cons (.call "_law_take" (.cons (.var 2) (.cons (.bin .add (.int 1) (.var 7)) .nil))) .nil)))))))
    (.cons (.set 10 .non) (.cons (.forr (.name 11) (.seq (.call "_law_lots" (.cons (.blt .len (.cons (.var 8) .nil)) (.cons (.blt .len (.cons (.var 8) .nil)) .nil))))
    (.cons (.set 12 (.blt .tuple (.cons (.lc (.name 15) (.seq (.var 11)) .none (.idx (.var 8) (.var 15))) .nil))) (.cons (.set 13 (.blt .tuple (.cons (.lc (.name 14) (.seq (.var 5)) (.some (.cmp .notin (.idx (.var 14) (.int 1)) (.var 12))) (.var 14)) .nil))) (.cons (.ite (.cmp .le (.call "_law_dealt" (.cons (.var 4) (.cons (.var 13) (.cons (.var 6) .nil)))) (.var 9))
    (.cons (.ite (.bop false (.cons (.isN false (.var 10)) (.cons (.cmp .lt (.tup (.cons (.blt .len (.cons (.var 12) .nil)) (.cons (.var 12) .nil))) (.var 10)) .nil)))
    (.cons (.set 10 (.tup (.cons (.blt .len (.cons (.var 12) .nil)) (.cons (.var 12) .nil)))) .nil)
    .nil) .nil)
    .nil) .nil)))) (.cons (.ite (.cmp .ne (.call "called_off" (.cons (.var 4) (.cons (.var 5) (.cons (.var 6) (.cons (.var 9) .nil))))) (.idx (.var 10) (.int 1)))
    (.cons (.ret (.bl false)) .nil)
    .nil) .nil)))) .nil))))))) (.cons (.ret (.bl true)) .nil)), .none⟩
def d_law_k27 : Dn := ⟨"law", ["script"], ["script", "k", "bag", "house", "cases", "plan", "many", "known", "told", "papers", "hours", "late", "turn", "day", "at", "row", "person", "minute", "one", "case"],
  (.cons (.forr (.name 1) (.rng1 (.bin .add (.int 1) (.blt .min (.cons (.blt .len (.cons (.var 0) .nil)) (.cons (.int 15) .nil)))))
    (.cons (.set 2 (.call "_law_bag" (.cons (.var 0) (.cons (.var 1) .nil)))) (.cons (.unp [3, 4, 5] (.call "_law_drawn" (.cons (.var 2) (.cons (.int 8) .nil)))) (.cons (.set 6 (.call "_law_take" (.cons (.var 2) (.cons (.int 9) .nil)))) (.cons (.set 7 (.blt .dict (.cons (.lc (.name 19) (.seq (.var 4)) .none (.tup (.cons (.idx (.var 19) (.int 0)) (.cons (.var 19) .nil)))) .nil))) (.cons (.set 8 (.call "latest" (.cons (.var 4) (.cons (.var 5) (.cons (.var 6) .nil))))) (.cons (.set 9 (.lst (.cons (.call "paper" (.cons (.var 4) (.cons (.var 5) (.cons (.var 6) .nil)))) (.cons (.call "_law_later" (.cons (.var 2) (.cons (.var 4) (.cons (.var 5) (.cons (.var 6) .nil))))) .nil)))) (.cons (.set 10 (.blt .tuple (.cons (.lc (.name 16) (.seq (.idx (.var 3) (.int 1))) .none (.tup (.cons (.var 16) (.cons (.call "_law_take" (.cons (.var 2) (.cons (.int 300) .nil))) .nil)))) .nil))) (.cons (.set 11 (.blt .dict (.cons (.call "beyond" (.cons (.var 4) (.cons (.var 5) (.cons (.var 6) (.cons (.var 10) .nil))))) .nil))) (.cons (.forr (.name 12) (.rng1 (.int 8))
    (.cons (.set 13 (.call "told_day" (.cons (.var 4) (.cons (.var 5) (.cons (.call "_law_within_day" (.cons (.var 2) (.cons (.var 4) (.cons (.var 5) (.cons (.var 6) .nil))))) .nil))))) (.cons (.forr (.tup [14, 15]) (.enum (.var 13))
    (.cons (.ite (.bop false (.cons (.cmp .gt (.idx (.var 15) (.int 1)) (.idx (.idx (.var 8) (.var 14)) (.int 1))) (.cons (.cmp .gt (.idx (.var 15) (.int 2)) (.idx (.idx (.var 8) (.var 14)) (.int 2))) .nil)))
    (.cons (.ret (.bl false)) .nil)
    .nil) (.cons (.ite (.cmp .ne (.lc (.name 18) (.seq (.var 9)) (.some (.cmp .gt (.idx (.var 15) (.int 1)) (.idx (.idx (.var 18) (.var 14)) (.var 6)))) (.var 18)) (.lst .nil))
    (.cons (.ret (.bl false)) .nil)
    .nil) (.cons (.forr (.tup [16, 17]) (.seq (.var 10))
    (.cons (.ite (.bop true (.cons (.cmp .isin (.var 16) (.idx (.idx (.var 7) (.idx (.var 15) (.int 0))) (.int 3))) (.cons (.cmp .gt (.idx (.var 15) (.int 2)) (.bin .add (.var 17) (.idx (.var 11) (.var 16)))) .nil)))
    (.cons (.ret (.bl false)) .nil)
    .nil) .nil)) .nil)))) .nil))) (.cons (.ite (.cmp .ne (.lc (.name 18) (.seq (.var 9)) (.some (.cmp .isnb (.call "is_paper" (.cons (.var 4) (.cons (.var 5) (.cons (.var 6) (.cons (.var 18) .nil))))) (.bl true))) (.var 18)) (.lst .nil))
    (.cons (.ret (.bl false)) .nil)
    .nil) (.cons (.forr (.tup [14, 18]) (.enum (.var 5))
    (.cons (.set 13 (.call "told_day" (.cons (.var 4) (.cons (.var 5) (.cons (.call "worst_day" (.cons (.var 4) (.cons (.var 5) (.cons (.var 6) (.cons (.idx (.var 18) (.int 1)) .nil))))) .nil))))) (.cons (.ite (.cmp .ne (.idx (.idx (.var 13) (.var 14)) (.int 2)) (.idx (.idx (.var 8) (.var 14)) (.int 2)))
    (.cons (.ret (.bl false)) .nil)
    .nil) .nil))) .nil)))))))))))) (.cons (.ret (.bl true)) .nil)), .none⟩
def d_law_k28 : Dn := ⟨"law", ["script"], ["script", "k", "bag", "house", "cases", "plan", "many", "told", "longer", "at", "fewer", "last", "count", "lot", "day", "case"],
  (.cons (.forr (.name 1) (.rng1 (.bin .add (.int 1) (.blt .min (.cons (.blt .len (.cons (.var 0) .nil)) (.cons (.int 15) .nil)))))
    (.cons (.set 2 (.call "_law_bag" (.cons (.var 0) (.cons (.var 1) .nil)))) (.cons (.unp [3, 4, 5] (.call "_law_drawn" (.cons (.var 2) (.cons (.int 8) .nil)))) (.cons (.set 6 (.call "_law_take" (.cons (.var 2) (.cons (.int 8) .nil)))) (.cons (.set 7 (.call "latest" (.cons (.var 4) (.cons (.var 5) (.cons (.var 6) .nil))))) (.cons (.ite (.not (.call "_law_no_earlier" (.cons (.var 7) (.cons (.call "latest" (.cons (.var 4) (.cons (.var 5) (.cons (.bin .add (.var 6) (.int 1)) .nil)))) .nil))))
    (.cons (.ret (.bl false)) .nil)
    .nil) (.cons (.set 8 (.blt .tuple (.cons (.lc (.name 15) (.seq (.var 4)) .none (.bin .add (.bin .add (.slice (.var 15) .none (.some (.int 2))) (.tup (.cons (.blt .min (.cons (.int 400) (.cons (.bin .add (.idx (.var 15) (.int 2)) (.call "_law_take" (.cons (.var 2) (.cons (.int 20) .nil)))) .nil))) .nil))) (.slice (.var 15) (.some (.int 3)) .none))) .nil))) (.cons (.ite (.not (.call "_law_no_earlier" (.cons (.var 7) (.cons (.call "latest" (.cons (.var 8) (.cons (.var 5) (.cons (.var 6) .nil)))) .nil))))
    (.cons (.ret (.bl false)) .nil)
    .nil) (.cons (.ite (.cmp .ne (.var 5) (.tup .nil))
    (.cons (.set 9 (.call "_law_take" (.cons (.var 2) (.cons (.blt .len (.cons (.var 5) .nil)) .nil)))) (.cons (.set 10 (.bin .add (.slice (.var 5) .none (.some (.var 9))) (.slice (.var 5) (.some (.bin .add (.var 9) (.int 1))) .none))) (.cons (.ite (.not (.call "_law_no_earlier" (.cons (.call "latest" (.cons (.var 4) (.cons (.var 10) (.cons (.var 6) .nil)))) (.cons (.var 7) .nil))))
    (.cons (.ret (.bl false)) .nil)
    .nil) (.cons (.set 11 (.bin .add (.slice (.var 5) .none (.some (.neg (.int 1)))) (.tup (.cons (.bin .add (.tup (.cons (.blt .min (.cons (.int 2000) (.cons (.bin .add (.idx (.idx (.var 5) (.neg (.int 1))) (.int 0)) (.call "_law_take" (.cons (.var 2) (.cons (.int 50) .nil)))) .nil))) .nil)) (.slice (.idx (.var 5) (.neg (.int 1))) (.some (.int 1)) .none)) .nil)))) (.cons (.ite (.not (.call "_law_no_earlier" (.cons (.var 7) (.cons (.call "latest" (.cons (.var 4) (.cons (.var 11) (.cons (.var 6) .nil)))) .nil))))
    (.cons (.ret (.bl false)) .nil)
    .nil) .nil)))))
    .nil) (.cons (.forr (.tup [12, 13]) (.seq (.lst (.cons (.tup (.cons (.int 0) (.cons (.lst .nil) .nil))) (.cons (.tup (.cons (.int 8) (.cons (.ext .lrng (.blt .len (.cons (.var 5) .nil))) .nil))) .nil))))
    (.cons (.set 14 (.call "_law_told_day" (.cons (.var 4) (.cons (.var 5) (.cons (.call "_law_minutes" (.cons (.var 4) (.cons (.var 5) (.cons (.var 13) .nil)))) .nil))))) (.cons (.ite (.cmp .ne (.call "latest" (.cons (.var 4) (.cons (.var 5) (.cons (.var 12) .nil)))) (.var 14))
    (.cons (.ret (.bl false)) .nil)
    .nil) .nil))) .nil)))))))))) (.cons (.ret (.bl true)) .nil)), .none⟩
def d_leans : Dn := ⟨"leans", ["cases", "plan"], ["cases", "plan", "known", "found", "at", "one", "place"],
  (.cons (.set 2 (.call "by_name" (.cons (.var 0) .nil))) (.cons (.own 3 (.lst .nil)) (.cons (.forr (.tup [4, 5]) (.enum (.var 1))
    (.cons (.app 3 (.blt .tuple (.cons (.lc (.name 6) (.rng1 (.var 4)) (.some (.call "meet" (.cons (.var 2) (.cons (.var 5) (.cons (.idx (.var 1) (.var 6)) .nil))))) (.var 6)) .nil))) .nil)) (.cons (.frz 3) (.cons (.ret (.var 3)) .nil))))), .none⟩
def d_lots : Dn := ⟨"lots", ["names"], ["names", "found", "name", "lot"],
  (.cons (.set 1 (.lst (.cons (.tup .nil) .nil))) (.cons (.forr (.name 2) (.seq (.var 0))
    (.cons (.set 1 (.bin .add (.var 1) (.lc (.name 3) (.seq (.var 1)) .none (.bin .add (.var 3) (.tup (.cons (.var 2) .nil)))))) .nil)) (.cons (.ret (.ext .slen (.var 1))) .nil))), .none⟩
def d_meet : Dn := ⟨"meet", ["known", "one", "other"], ["known", "one", "other", "person"],
  (.cons (.ite (.cmp .eq (.idx (.var 1) (.int 2)) (.idx (.var 2) (.int 2)))
    (.cons (.ret (.bl true)) .nil)
    .nil) (.cons (.ret (.blt .any (.cons (.lc (.name 3) (.seq (.idx (.idx (.var 0) (.idx (.var 1) (.int 1))) (.int 3))) .none (.cmp .isin (.var 3) (.idx (.idx (.var 0) (.idx (.var 2) (.int 1))) (.int 3)))) .nil))) .nil)), .none⟩
def d_paper : Dn := ⟨"paper", ["cases", "plan", "many"], ["cases", "plan", "many", "row"],
  (.cons (.ret (.blt .tuple (.cons (.lc (.name 3) (.seq (.call "table" (.cons (.var 0) (.cons (.var 1) (.cons (.var 2) .nil))))) .none (.blt .tuple (.cons (.idx (.var 3) (.int 0)) .nil))) .nil))) .nil), .none⟩
def d_plan_by : Dn := ⟨"plan_by", ["cases", "order"], ["cases", "order", "known", "found", "name", "case", "some", "room", "ends", "start", "end", "one", "place", "who"],
  (.cons (.set 2 (.call "by_name" (.cons (.var 0) .nil))) (.cons (.own 3 (.lst .nil)) (.cons (.forr (.name 4) (.seq (.var 1))
    (.cons (.set 5 (.idx (.var 2) (.var 4))) (.cons (.own 6 (.lst .nil)) (.cons (.forr (.name 7) (.seq (.idx (.var 5) (.int 4)))
    (.cons (.set 8 (.lc (.tup [10, 11, 12]) (.seq (.peek 3)) (.some (.bop false (.cons (.cmp .eq (.var 12) (.var 7)) (.cons (.blt .any (.cons (.lc (.name 13) (.seq (.idx (.var 5) (.int 3))) .none (.cmp .isin (.var 13) (.idx (.idx (.var 2) (.var 11)) (.int 3)))) .nil)) .nil)))) (.var 10))) (.cons (.app 6 (.tup (.cons (.blt .max (.cons (.bin .add (.var 8) (.lst (.cons (.idx (.var 5) (.int 5)) .nil))) .nil)) (.cons (.var 7) .nil)))) .nil))) (.cons (.unp [9, 7] (.blt .min (.cons (.peek 6) .nil))) (.cons (.app 3 (.tup (.cons (.bin .add (.var 9) (.idx (.var 5) (.int 1))) (.cons (.var 4) (.cons (.var 7) .nil))))) .nil)))))) (.cons (.ret (.blt .tuple (.cons (.blt .sorted (.cons (.lc (.tup [10, 4, 7]) (.seq (.peek 3)) .none (.tup (.cons (.bin .sub (.var 10) (.idx (.idx (.var 2) (.var 4)) (.int 1))) (.cons (.var 4) (.cons (.var 7) .nil))))) .nil)) .nil))) .nil)))), .none⟩
def d_table : Dn := ⟨"table", ["cases", "plan", "many"], ["cases", "plan", "many", "known", "found", "one", "places", "begins", "count", "place"],
  (.cons (.set 3 (.call "by_name" (.cons (.var 0) .nil))) (.cons (.own 4 (.lst .nil)) (.cons (.forr (.tup [5, 6]) (.zip2 (.var 1) (.call "leans" (.cons (.var 0) (.cons (.var 1) .nil))))
    (.cons (.set 7 (.lc (.name 8) (.rng1 (.bin .add (.var 2) (.int 1))) .none (.blt .max (.cons (.bin .add (.lst (.cons (.idx (.var 5) (.int 0)) .nil)) (.lc (.name 9) (.seq (.var 6)) .none (.idx (.idx (.idx (.peek 4) (.var 9)) (.int 1)) (.var 8)))) .nil)))) (.cons (.app 4 (.tup (.cons (.var 7) (.cons (.call "ends" (.cons (.var 7) (.cons (.idx (.idx (.var 3) (.idx (.var 5) (.int 1))) (.int 1)) (.cons (.idx (.idx (.var 3) (.idx (.var 5) (.int 1))) (.int 2)) .nil)))) .nil)))) .nil))) (.cons (.frz 4) (.cons (.ret (.var 4)) .nil))))), .none⟩
def d_told_day : Dn := ⟨"told_day", ["cases", "plan", "minutes"], ["cases", "plan", "minutes", "found", "one", "places", "many", "begin", "place"],
  (.cons (.own 3 (.lst .nil)) (.cons (.forr (.tup [4, 5, 6]) (.zip3 (.var 1) (.call "leans" (.cons (.var 0) (.cons (.var 1) .nil))) (.var 2))
    (.cons (.set 7 (.blt .max (.cons (.bin .add (.lst (.cons (.idx (.var 4) (.int 0)) .nil)) (.lc (.name 8) (.seq (.var 5)) .none (.idx (.idx (.peek 3) (.var 8)) (.int 2)))) .nil))) (.cons (.app 3 (.tup (.cons (.idx (.var 4) (.int 1)) (.cons (.var 7) (.cons (.bin .add (.var 7) (.var 6)) .nil))))) .nil))) (.cons (.frz 3) (.cons (.ret (.var 3)) .nil)))), .none⟩
def d_usual_times : Dn := ⟨"usual_times", ["cases", "plan"], ["cases", "plan", "known", "one"],
  (.cons (.set 2 (.call "by_name" (.cons (.var 0) .nil))) (.cons (.ret (.blt .tuple (.cons (.lc (.name 3) (.seq (.var 1)) .none (.idx (.idx (.var 2) (.idx (.var 3) (.int 1))) (.int 1))) .nil))) .nil)), .none⟩
def d_worst_day : Dn := ⟨"worst_day", ["cases", "plan", "many", "name"], ["cases", "plan", "many", "name", "names", "known", "rows", "behind", "minutes", "at", "count", "begins", "lasts", "some", "one", "place"],
  (.cons (.set 4 (.lc (.name 14) (.seq (.var 1)) .none (.idx (.var 14) (.int 1)))) (.cons (.ite (.cmp .notin (.var 3) (.var 4))
    (.cons .any .nil)
    .nil) (.cons (.set 5 (.call "by_name" (.cons (.var 0) .nil))) (.cons (.unp [6, 7] (.tup (.cons (.call "table" (.cons (.var 0) (.cons (.var 1) (.cons (.var 2) .nil)))) (.cons (.call "leans" (.cons (.var 0) (.cons (.var 1) .nil))) .nil)))) (.cons (.own 8 (.lc (.name 14) (.seq (.var 4)) .none (.idx (.idx (.var 5) (.var 14)) (.int 1)))) (.cons (.unp [9, 10] (.tup (.cons (.met .index (.var 4) (.var 3)) (.cons (.var 2) .nil)))) (.cons (.whl (.isN true (.var 9))
    (.cons (.unp [11, 12] (.idx (.var 6) (.var 9))) (.cons (.ite (.cmp .gt (.idx (.var 12) (.var 10)) (.bin .add (.idx (.var 11) (.var 10)) (.idx (.idx (.var 5) (.idx (.var 4) (.var 9))) (.int 1))))
    (.cons (.putO 8 (.var 9) (.idx (.idx (.var 5) (.idx (.var 4) (.var 9))) (.int 2))) (.cons (.aug 10 .sub (.int 1)) .nil))
    .nil) (.cons (.set 13 (.lc (.name 15) (.seq (.idx (.var 7) (.var 9))) (.some (.cmp .eq (.idx (.idx (.idx (.var 6) (.var 15)) (.int 1)) (.var 10)) (.idx (.var 11) (.var 10)))) (.var 15))) (.cons (.set 9 (.ite (.bop true (.cons (.cmp .ne (.var 13) (.lst .nil)) (.cons (.cmp .gt (.idx (.var 11) (.var 10)) (.idx (.idx (.var 1) (.var 9)) (.int 0))) .nil))) (.idx (.var 13) (.int 0)) .non)) .nil))))) (.cons (.ret (.blt .tuple (.cons (.peek 8) .nil))) .nil)))))))), .none⟩
end RD

namespace RD
open PySem

def BagAt (S : Store) (n : Nat) : Prop := ∃ a b : Int, S[n]? = some (.lst [.int a, .int b])
theorem BagAt.lt {S : Store} {n : Nat} (h : BagAt S n) : n < S.length := by
  obtain ⟨a, b, h⟩ := h
  exact (List.getElem?_eq_some_iff.mp h).1
section
variable {cst : Str → Option T} {fuel : Nat} {ds : List Dn} {S : Store}
@[simp] theorem gl_fn {k : Nat} {f : Str} : (gl cst fuel ds k f).fn = callK cst fuel ds k := rfl
@[simp] theorem gl_cst {k : Nat} {f : Str} : (gl cst fuel ds k f).cst = cst := rfl
theorem take_spec (h : Has ds d__law_take) (k : Nat) {n : Nat} {m : Int} (hb : BagAt S n) (h0 : 0 < m) (h1 : m < 2 ^ 200) :
    Y (callK cst fuel ds (k + 1) "_law_take" [.ref n, .int m] S) fun t S' => BagAt S' n ∧ ∃ r, t = .int r ∧ 0 ≤ r ∧ r < m := by
  obtain ⟨a, b, hs⟩ := hb
  have hl : n < S.length := (List.getElem?_eq_some_iff.mp hs).1
  have hb' : ∀ a b : Int, BagAt (S.set n (.lst [.int a, .int b])) n := fun a b => ⟨a, b, by simp [hl]⟩
  refine y_callK h rfl ?_
  have w1 : wideB b 48271 = true := wide_of (by decide) (by decide)
  have w2 : wideB (b * 48271 % 2147483647) (b * 48271 % 2147483647) = true := wide_of (by omega) (by omega)
  simp [d__law_take, startE, getV, view_refL hs, view_setL hl, Ex.strict, hs, w1, w2]
  by_cases ha : a ≤ 0
  · exact .inl ⟨ha, h0, hb' _ _, Int.emod_nonneg _ (by omega), Int.emod_lt_of_pos _ h0⟩
  · exact .inr ⟨by omega, h0, ⟨h0, h1⟩, hb' _ _, Int.emod_nonneg _ (by omega), Int.emod_lt_of_pos _ h0⟩
theorem of_spec (ht : Has ds d__law_take) (h : Has ds d__law_of) (k : Nat) {n : Nat} {t : T} {l : List T} (hb : BagAt S n) (hs : seqT t = some l) (h0 : l ≠ []) (h1 : l.length ≤ 1000) :
    Y (callK cst fuel ds (k + 2) "_law_of" [.ref n, t] S) fun r S' => BagAt S' n ∧ r ∈ l := by
  have hp : 0 < l.length := List.length_pos_iff.mpr h0
  refine y_callK h rfl ?_
  have key : ∀ t' : T, (∀ S, view S t' = some t') → lenT t' = some l.length → (∀ i : Int, idxT t' (.int i) = L2.atI l i) → Y (exs (gl cst fuel ds (k + 1) "_law_of") d__law_of.body (startE d__law_of.N [.ref n, t']) S) fun r S' => match r.2 with
      | .next => BagAt S' n ∧ T.non ∈ l
      | .ret t => BagAt S' n ∧ t ∈ l
      | _ => False := fun t' hv hle hi => by
    simp [d__law_of, startE, getV, Ex.strict, strictAll, hv, hle]
    refine (take_spec ht k hb (by omega) (by omega)).mono fun r S1 ⟨b1, i, e, i0, i1⟩ => ?_
    subst e
    obtain ⟨a, ea, ha⟩ := atI_of (l := l) i0 i1
    simp [hi, ea, b1, ha]
  cases t with
  | tup m => cases hs; exact key _ (fun _ => rfl) rfl fun _ => rfl
  | lst m => cases hs; exact key _ (fun _ => rfl) rfl fun _ => rfl
  | _ => simp [seqT] at hs
theorem bag_spec (h : Has ds d__law_bag) (k : Nat) {ns : List Int} {j : Nat} (hj : j ≤ 1000) (hn : ns.length ≤ 1000) :
    Y (callK cst fuel ds (k + 1) "_law_bag" [.scr ns, .int (j : Int)] S) fun t S' => ∃ n, t = .ref n ∧ BagAt S' n := by
  refine y_callK h rfl ?_
  have w1 : ∀ i : Int, wideB i 7919 = true := fun i => wide_of (by decide) (by decide)
  have w2 : ∀ i : Int, wideB 104729 i = true := fun i => wide_of' (by decide) (by decide)
  have bg : ∀ a b : Int, BagAt (S ++ [.lst [.int a, .int b]]) S.length := fun a b => ⟨a, b, by simp⟩
  by_cases hlt : j < ns.length
  · have e : L2.atI ns (j : Int) = some ns[j] := atI_nat (List.getElem?_eq_getElem hlt)
    simp [d__law_bag, startE, getV, Ex.strict, strictAll, w1, w2, bg, hlt, e]
    omega
  · simp [d__law_bag, startE, getV, Ex.strict, strictAll, w1, w2, bg, hlt]
end
end RD

/-! Equality of plain data. -/
namespace RD
open PySem

mutual
def pl : T → Bool
  | .non => true
  | .bl _ => true
  | .int _ => true
  | .str x => PyData.canLay0 (.str x)
  | .tup l => pls l
  | .lst l => pls l
  | _ => false
def pls : List T → Bool
  | [] => true
  | t :: ts => pl t && pls ts
end
mutual
def dp : T → Nat
  | .tup l => dps l + 1
  | .lst l => dps l + 1
  | _ => 0
def dps : List T → Nat
  | [] => 0
  | t :: ts => max (dp t) (dps ts)
end
mutual
theorem pl_toD : ∀ {t : T}, pl t = true → ∃ d, t.toD = some d ∧ d.canLay0 = true ∧ d.depth = dp t ∧ PyData.eqv d d = true
  | .non, _ => ⟨_, rfl, rfl, by simp [PyData.depth, dp], by simp [PyData.eqv]⟩
  | .bl b, _ => ⟨_, rfl, rfl, by simp [PyData.depth, dp], by simp [PyData.eqv]⟩
  | .int i, _ => ⟨_, rfl, rfl, by simp [PyData.depth, dp], by simp [PyData.eqv]⟩
  | .str x, h => ⟨_, rfl, by simpa [pl] using h, by simp [PyData.depth, dp], by simp [PyData.eqv]⟩
  | .tup l, h => by
    obtain ⟨ds, h1, h2, h3, h4⟩ := pls_toD (l := l) (by simpa [pl] using h)
    exact ⟨.tuple ds, by simp [T.toD, h1], by simpa [PyData.canLay0] using h2, by simp [PyData.depth, dp, h3], by simpa [PyData.eqv] using h4⟩
  | .lst l, h => by
    obtain ⟨ds, h1, h2, h3, h4⟩ := pls_toD (l := l) (by simpa [pl] using h)
    exact ⟨.list ds, by simp [T.toD, h1], by simpa [PyData.canLay0] using h2, by simp [PyData.depth, dp, h3], by simpa [PyData.eqv] using h4⟩
  | .dct _, h => by simp [pl] at h
  | .set _, h => by simp [pl] at h
  | .scr _, h => by simp [pl] at h
  | .ref _, h => by simp [pl] at h
theorem pls_toD : ∀ {l : List T}, pls l = true → ∃ ds, T.toDs l = some ds ∧ PyData.canLayAll0 ds = true ∧ PyData.depthAll ds = dps l ∧ PyData.eqvAll ds ds = true
  | [], _ => ⟨[], rfl, by simp [PyData.canLayAll0], by simp [PyData.depthAll, dps], by simp [PyData.eqvAll]⟩
  | t :: ts, h => by
    simp only [pls, Bool.and_eq_true] at h
    obtain ⟨d, a1, a2, a3, a4⟩ := pl_toD h.1
    obtain ⟨ds, b1, b2, b3, b4⟩ := pls_toD h.2
    exact ⟨d :: ds, by simp [T.toDs, a1, b1], by simp [PyData.canLayAll0, a2, b2], by simp [PyData.depthAll, dps, a3, b3], by simp [PyData.eqvAll, a4, b4]⟩
end
theorem shp_of {t : T} (h : pl t = true) (hd : dp t ≤ 64) : shp t = some (encT t) := by
  obtain ⟨d, h1, h2, h3, _⟩ := pl_toD h
  unfold shp encT
  rw [h1]
  simp only [Option.getD_some]
  rw [if_pos]
  unfold SeqAt.shaped
  rw [h2, h3]
  simpa using hd
theorem eqT_self {t : T} (h : pl t = true) (hd : dp t ≤ 64) : eqT t t = some true := by
  unfold eqT
  rw [shp_of h hd]
  obtain ⟨d, h1, _, _, h4⟩ := pl_toD h
  simp only [encT, h1, Option.getD_some, h4]
theorem eqT_of {a b : T} (ha : pl a = true) (hb : pl b = true) (hda : dp a ≤ 64) (hdb : dp b ≤ 64) : eqT a b = some (PyData.eqv (encT a) (encT b)) := by
  unfold eqT
  rw [shp_of ha hda, shp_of hb hdb]
theorem neT_self {t : T} (h : pl t = true) (hd : dp t ≤ 64) : cmpT .ne t t = some false := by
  show (eqT t t).map _ = _
  rw [eqT_self h hd]; rfl
@[simp] theorem enc_int {i : Int} : encT (.int i) = .int i := rfl
@[simp] theorem enc_str {i : Str} : encT (.str i) = .str i := rfl
theorem enc_tup {l : List T} (h : pls l = true) : encT (.tup l) = .tuple (l.map encT) := by
  obtain ⟨ds, h1, _⟩ := pls_toD h
  have e := encs_of h1
  simp [encT, T.toD, h1, ← e]
theorem enc_lst {l : List T} (h : pls l = true) : encT (.lst l) = .list (l.map encT) := by
  obtain ⟨ds, h1, _⟩ := pls_toD h
  have e := encs_of h1
  simp [encT, T.toD, h1, ← e]
theorem eqT_int {i j : Int} : eqT (.int i) (.int j) = some (decide (i = j)) := by
  rw [eqT_of rfl rfl (by simp [dp]) (by simp [dp])]
  simp [PyData.eqv]
  by_cases h : i = j <;> simp [h]
theorem eqT_str {x y : Str} (hx : pl (.str x) = true) (hy : pl (.str y) = true) : eqT (.str x) (.str y) = some (x == y) := by
  rw [eqT_of hx hy (by simp [dp]) (by simp [dp])]
  simp [PyData.eqv]
theorem eqT_tupNil {l : List T} (h : pls l = true) (hd : dps l ≤ 63) : eqT (.tup l) (.tup []) = some l.isEmpty := by
  rw [eqT_of (by simpa [pl] using h) (by rfl) (by simp [dp]; omega) (by simp [dp, dps]), enc_tup h, enc_tup rfl]
  cases l <;> simp [PyData.eqv, PyData.eqvAll]
theorem eqT_lstNil {l : List T} (h : pls l = true) (hd : dps l ≤ 63) : eqT (.lst l) (.lst []) = some l.isEmpty := by
  rw [eqT_of (by simpa [pl] using h) (by rfl) (by simp [dp]; omega) (by simp [dp, dps]), enc_lst h, enc_lst rfl]
  cases l <;> simp [PyData.eqv, PyData.eqvAll]
theorem inT_tup {a : T} {l : List T} (ha : pl a = true) (hl : pls l = true) (hda : dp a ≤ 64) (hdl : dps l ≤ 63) : inT a (.tup l) = some (l.any fun z => PyData.eqv (encT z) (encT a)) := by
  have e : shp (.tup l) = some (.tuple (l.map encT)) := by rw [← enc_tup hl]; exact shp_of (by simpa [pl] using hl) (by simp [dp]; omega)
  unfold inT
  simp only [shp_of ha hda, e, List.any_map, Function.comp_def]
theorem pls_all {l : List T} (h : ∀ t ∈ l, pl t = true) : pls l = true := by
  induction l with
  | nil => rfl
  | cons t ts ih => simp [pls, h t (by simp), ih fun u hu => h u (List.mem_cons_of_mem _ hu)]
theorem dps_all {l : List T} {n : Nat} (h : ∀ t ∈ l, dp t ≤ n) : dps l ≤ n := by
  induction l with
  | nil => simp [dps]
  | cons t ts ih =>
    simp only [dps]
    exact Nat.max_le.mpr ⟨h t (by simp), ih fun u hu => h u (List.mem_cons_of_mem _ hu)⟩
theorem pls_mem {l : List T} (h : pls l = true) : ∀ t ∈ l, pl t = true := by
  induction l with
  | nil => intro t ht; cases ht
  | cons a ts ih =>
    simp only [pls, Bool.and_eq_true] at h
    intro t ht
    rcases List.mem_cons.mp ht with rfl | ht
    · exact h.1
    · exact ih h.2 t ht
end RD

namespace RD
open PySem

structure Cs where
  name : Str
  usual : Int
  longest : Int
  team : List Str
  places : List Int
  first : Int
def strsL (l : List Str) : List T := l.map .str
def intsL (l : List Int) : List T := l.map .int
def cT (c : Cs) : T := .tup [.str c.name, .int c.usual, .int c.longest, .tup (strsL c.team), .tup (intsL c.places), .int c.first]
def hT (r : Int) (ps : List Str) : T := .tup [.int r, .tup (strsL ps)]
def ltS (a b : Str) : Prop := a.cps.toList < b.cps.toList
def people5 : List Str := ["ann", "bo", "cy", "dee", "eli"]
theorem people5_pl : ∀ p ∈ people5, pl (.str p) = true := by
  intro p hp
  simp only [people5, List.mem_cons, List.not_mem_nil, or_false] at hp
  rcases hp with rfl | rfl | rfl | rfl | rfl <;> decide +kernel
structure OkC (r : Int) (ps : List Str) (c : Cs) : Prop where
  nm : pl (.str c.name) = true
  tl : c.team.length ≤ 1000
  u0 : 1 ≤ c.usual
  u1 : c.usual ≤ 200
  l0 : c.usual ≤ c.longest
  l1 : c.longest ≤ 400
  team : ∀ p ∈ c.team, p ∈ ps
  pl0 : c.places ≠ []
  pl1 : c.places.length ≤ 1000
  pl : ∀ p ∈ c.places, 0 ≤ p ∧ p < r
  f0 : 0 ≤ c.first
  f1 : c.first ≤ 600
  tr : c.team.Pairwise ltS
  t3 : c.team.length ≤ 3
  prr : c.places.Pairwise (· < ·)
theorem intsT_ints (l : List Int) : intsT (intsL l) = some l := by
  induction l with
  | nil => rfl
  | cons a l ih => simp only [intsL, List.map_cons, intsT] at *; rw [ih]; rfl
theorem strsT_strs (l : List Str) : strsT (strsL l) = some l := by
  induction l with
  | nil => rfl
  | cons a l ih => simp only [strsL, List.map_cons, strsT] at *; rw [ih]; rfl
theorem strsL_inj' : ∀ {l m : List Str}, strsL l = strsL m → l = m
  | [], [], _ => rfl
  | [], _ :: _, h => by simp [strsL] at h
  | _ :: _, [], h => by simp [strsL] at h
  | a :: l, b :: m, h => by
    simp only [strsL, List.map_cons, List.cons.injEq, T.str.injEq] at h
    rw [h.1, strsL_inj' (l := l) (m := m) h.2]
theorem intsL_inj : ∀ {l m : List Int}, intsL l = intsL m → l = m
  | [], [], _ => rfl
  | [], _ :: _, h => by simp [intsL] at h
  | _ :: _, [], h => by simp [intsL] at h
  | a :: l, b :: m, h => by
    simp only [intsL, List.map_cons, List.cons.injEq, T.int.injEq] at h
    rw [h.1, intsL_inj (l := l) (m := m) h.2]
theorem cT_inj {a b : Cs} (h : cT a = cT b) : a = b := by
  obtain ⟨n, u, l, t, p, f⟩ := a
  obtain ⟨n', u', l', t', p', f'⟩ := b
  simp only [cT, T.tup.injEq, List.cons.injEq, T.str.injEq, T.int.injEq, and_true] at h
  obtain ⟨rfl, rfl, rfl, h1, h2, rfl⟩ := h
  rw [strsL_inj' h1, intsL_inj h2]
theorem mem_strsL {t : T} {l : List Str} : t ∈ strsL l ↔ ∃ s ∈ l, t = .str s := by
  simp [strsL, eq_comm]
theorem mem_intsL {t : T} {l : List Int} : t ∈ intsL l ↔ ∃ s ∈ l, t = .int s := by
  simp [intsL, eq_comm]
theorem all_strs {r : List T} {Q : Str → Prop} (h : ∀ y ∈ r, ∃ s, y = .str s ∧ Q s) : ∃ zs, r = strsL zs ∧ ∀ z ∈ zs, Q z := by
  induction r with
  | nil => exact ⟨[], rfl, by simp⟩
  | cons a r ih =>
    obtain ⟨s, rfl, q⟩ := h a (by simp)
    obtain ⟨zs, rfl, hq⟩ := ih fun y hy => h y (List.mem_cons_of_mem _ hy)
    exact ⟨s :: zs, rfl, by simpa using ⟨q, hq⟩⟩
theorem all_ints {r : List T} {Q : Int → Prop} (h : ∀ y ∈ r, ∃ s, y = .int s ∧ Q s) : ∃ zs, r = intsL zs ∧ ∀ z ∈ zs, Q z := by
  induction r with
  | nil => exact ⟨[], rfl, by simp⟩
  | cons a r ih =>
    obtain ⟨s, rfl, q⟩ := h a (by simp)
    obtain ⟨zs, rfl, hq⟩ := ih fun y hy => h y (List.mem_cons_of_mem _ hy)
    exact ⟨s :: zs, rfl, by simpa using ⟨q, hq⟩⟩
theorem dedup_mem {β : Type} [DecidableEq β] {l : List β} {x : β} : x ∈ dedup l ↔ x ∈ l := by
  unfold dedup
  have key : ∀ (l acc : List β), (x ∈ l.foldl (fun acc x => if (acc.any fun j => decide (j = x)) = true then acc else acc ++ [x]) acc) ↔ x ∈ acc ∨ x ∈ l := by
    intro l
    induction l with
    | nil => intro acc; simp
    | cons a l ih =>
      intro acc
      simp only [List.foldl_cons]
      rw [ih]
      by_cases h : (acc.any fun j => decide (j = a)) = true
      · rw [if_pos h]
        obtain ⟨j, hj, e⟩ := List.any_eq_true.mp h
        have e := of_decide_eq_true e
        subst e
        simp only [List.mem_cons]
        constructor
        · rintro (h | h)
          · exact .inl h
          · exact .inr (.inr h)
        · rintro (h | rfl | h)
          · exact .inl h
          · exact .inl hj
          · exact .inr h
      · rw [if_neg h]
        simp only [List.mem_append, List.mem_singleton, List.mem_cons, or_assoc, List.not_mem_nil, or_false]
  simpa using key l []
theorem dedup_nodup {β : Type} [DecidableEq β] (l : List β) : (dedup l).Nodup := by
  unfold dedup
  have key : ∀ (l acc : List β), acc.Nodup → (l.foldl (fun acc x => if (acc.any fun j => decide (j = x)) = true then acc else acc ++ [x]) acc).Nodup := by
    intro l
    induction l with
    | nil => intro acc h; exact h
    | cons a l ih =>
      intro acc h
      simp only [List.foldl_cons]
      refine ih _ ?_
      by_cases ha : (acc.any fun j => decide (j = a)) = true
      · rw [if_pos ha]; exact h
      · rw [if_neg ha]
        rw [List.nodup_append]
        refine ⟨h, by simp, fun x hx y hy e => ?_⟩
        rw [List.mem_singleton.mp hy] at e
        subst e
        exact ha (List.any_eq_true.mpr ⟨x, hx, by simp⟩)
  exact key l [] List.nodup_nil
theorem sortS_lt (zs : List Str) : ((dedup zs).mergeSort leS).Pairwise ltS := by
  have h1 : ((dedup zs).mergeSort leS).Pairwise (fun a b => leS a b = true) := List.pairwise_mergeSort (fun a b c h1 h2 => by simp only [leS, decide_eq_true_eq] at *; exact List.le_trans h1 h2) (fun a b => by simp only [leS, Bool.or_eq_true, decide_eq_true_eq]; exact List.le_total _ _) _
  have h2 : ((dedup zs).mergeSort leS).Nodup := (List.mergeSort_perm _ _).nodup_iff.mpr (dedup_nodup zs)
  refine (h1.and h2).imp fun {a b} h => ?_
  simp only [leS, decide_eq_true_eq] at h
  rcases List.le_iff_lt_or_eq.mp h.1 with h' | h'
  · exact h'
  · refine absurd ?_ h.2
    cases a; cases b
    simp only [Str.mk.injEq]
    exact Array.toList_inj.mp h'
theorem sortI_lt (zs : List Int) : ((dedup zs).mergeSort leI).Pairwise (· < ·) := by
  have h1 : ((dedup zs).mergeSort leI).Pairwise (fun a b => leI a b = true) := List.pairwise_mergeSort (fun a b c h1 h2 => by simp only [leI, decide_eq_true_eq] at *; omega) (fun a b => by simp only [leI, Bool.or_eq_true, decide_eq_true_eq]; omega) _
  have h2 : ((dedup zs).mergeSort leI).Nodup := (List.mergeSort_perm _ _).nodup_iff.mpr (dedup_nodup zs)
  refine (h1.and h2).imp fun {a b} h => ?_
  simp only [leI, decide_eq_true_eq] at h
  have := h.2
  omega
theorem sset_strs (zs : List Str) (h : zs.length ≤ 1000) : ∃ out, ssetT (.lst (strsL zs)) = some (strsL out) ∧ (∀ z, z ∈ out ↔ z ∈ zs) ∧ out.length ≤ zs.length ∧ out.Pairwise ltS := by
  unfold ssetT
  have hl : (strsL zs).length ≤ 1000 := by simpa [strsL] using h
  cases zs with
  | nil => exact ⟨[], by simp [intsT, strsL, dedup], by simp, by simp, .nil⟩
  | cons a l =>
    have e : intsT (strsL (a :: l)) = none := rfl
    rw [seq_lst]
    simp only [if_pos hl, e, strsT_strs]
    exact ⟨_, rfl, fun z => by rw [List.mem_mergeSort, dedup_mem], by rw [List.length_mergeSort]; exact dedup_len _, sortS_lt _⟩
theorem sset_ints (zs : List Int) (h : zs.length ≤ 1000) : ∃ out, ssetT (.lst (intsL zs)) = some (intsL out) ∧ (∀ z, z ∈ out ↔ z ∈ zs) ∧ out.length ≤ zs.length ∧ out.Pairwise (· < ·) := by
  unfold ssetT
  have hl : (intsL zs).length ≤ 1000 := by simpa [intsL] using h
  rw [seq_lst]
  simp only [if_pos hl, intsT_ints]
  exact ⟨_, rfl, fun z => by rw [List.mem_mergeSort, dedup_mem], by rw [List.length_mergeSort]; exact dedup_len _, sortI_lt _⟩
/-- a comprehension, at most one value a turn -/
theorem y_mapLc {f : T → M (List T)} {I : Store → Prop} {R : T → Prop} {P : List T → Store → Prop} : ∀ {l : List T} {S : Store}, (∀ x ∈ l, ∀ S, I S → Y (f x S) fun ys S' => I S' ∧ ys.length ≤ 1 ∧ ∀ y ∈ ys, R y) → I S →
    (∀ r S', I S' → r.length ≤ l.length → (∀ y ∈ r, R y) → P r S') → Y (mapL f l S) P
  | [], S, _, i, q => y_ret.mpr (q [] S i (by simp) (by simp))
  | x :: xs, S, h, i, q => by
    unfold mapL
    refine y_bnd.mpr ((h x (by simp) S i).mono fun ys S1 ⟨i1, h1, r1⟩ => y_bnd.mpr ?_)
    refine y_mapLc (l := xs) (fun y hy => h y (List.mem_cons_of_mem _ hy)) i1 fun r S' i2 h2 r2 => y_ret.mpr (q _ S' i2 (by simp; omega) fun y hy => ?_)
    rcases List.mem_append.mp hy with hy | hy
    · exact r1 y hy
    · exact r2 y hy
@[simp] theorem rng_len {lo : Int} {n : Nat} : (rngT lo n).length = n := by simp [rngT]
theorem okR_small {i : Int} (h0 : -1000000 ≤ i) (h1 : i ≤ 1000000) : okR i ∧ i ≤ (lim : Int) := ⟨⟨by omega, by omega⟩, by show i ≤ ((16000000 : Nat) : Int); omega⟩
section
variable {cst : Str → Option T} {fuel : Nat} {ds : List Dn} {S : Store}
theorem house_spec (ht : Has ds d__law_take) (ho : Has ds d__law_of) (h : Has ds d__law_house) (k : Nat) {n : Nat} (hb : BagAt S n) :
    Y (callK cst fuel ds (k + 3) "_law_house" [.ref n] S) fun t S' => BagAt S' n ∧ ∃ r ps, t = hT r ps ∧ 1 ≤ r ∧ r ≤ 4 ∧ ps.length ≤ 5 ∧ (∀ p ∈ ps, pl (.str p) = true) ∧ (∀ p ∈ ps, p ∈ people5) ∧ ps.Pairwise ltS := by
  refine y_callK h rfl ?_
  simp [d__law_house, startE, getV, Ex.strict, strictAll]
  refine (take_spec ht _ hb (by decide) (by decide)).mono fun t S1 ⟨b1, i, e, i0, i1⟩ => ?_
  subst e
  simp only [T.int.injEq, exists_eq_left']
  refine ⟨okR_small (by omega) (by omega), ?_⟩
  refine y_mapLc (I := fun S => BagAt S n) (R := fun y => ∃ s, y = .str s ∧ s ∈ people5) (fun x hx S2 b2 => ?_) b1 fun r S2 b2 hl hr => ?_
  · simp [lcF, bindTg, Tg.slots, wipeE, condT, getV, Ex.strict, strictAll]
    refine (of_spec ht ho _ b2 (l := [T.str "ann", .str "bo", .str "cy", .str "dee", .str "eli"]) rfl (by simp) (by simp)).mono fun r S3 ⟨b3, hr⟩ => ?_
    refine ⟨b3, ?_⟩
    simp only [List.mem_cons, List.not_mem_nil, or_false] at hr
    rcases hr with rfl | rfl | rfl | rfl | rfl <;> exact ⟨_, rfl, by simp [people5]⟩
  · obtain ⟨zs, rfl, hz⟩ := all_strs hr
    have hl2 : zs.length ≤ 5 := by simp [strsL] at hl; omega
    obtain ⟨out, e, hm, hlo, hso⟩ := sset_strs zs (by omega)
    simp [e]
    refine (take_spec ht _ b2 (by decide) (by decide)).mono fun t S3 ⟨b3, j, e, j0, j1⟩ => ?_
    subst e
    simp
    exact ⟨b3, 1 + j, out, rfl, by omega, by omega, by omega, fun p hp => people5_pl p (hz p ((hm p).mp hp)), fun p hp => hz p ((hm p).mp hp), hso⟩
theorem case_spec (ht : Has ds d__law_take) (ho : Has ds d__law_of) (h : Has ds d__law_case) (k : Nat) {n : Nat} {r : Int} {ps : List Str} {nm : Str} (hb : BagAt S n) (h1 : 1 ≤ r) (h4 : r ≤ 4) (hp : ps.length ≤ 5) (hps : ∀ p ∈ ps, pl (.str p) = true) (hnm : pl (.str nm) = true) :
    Y (callK cst fuel ds (k + 3) "_law_case" [.ref n, hT r ps, .str nm] S) fun t S' => BagAt S' n ∧ ∃ c, t = cT c ∧ OkC r ps c ∧ c.name = nm := by
  refine y_callK h rfl ?_
  have ene : eqT (.tup (strsL ps)) (.tup []) = some ps.isEmpty := by
    rw [eqT_tupNil (pls_all fun t ht => by obtain ⟨s, hs, rfl⟩ := mem_strsL.mp ht; exact hps s hs) (Nat.le_trans (dps_all (n := 0) fun t ht => by obtain ⟨s, hs, rfl⟩ := mem_strsL.mp ht; simp [dp]) (by decide))]
    simp [strsL, List.isEmpty_map]
  simp [d__law_case, startE, getV, Ex.strict, strictAll, hT]
  refine (take_spec ht _ hb (by decide) (by decide)).mono fun t S1 ⟨b1, i, e, i0, i1⟩ => ?_
  subst e
  obtain ⟨a, ea, ha⟩ := atI_of (l := [T.int 4, .int 30, .int 200]) i0 (by simpa using i1)
  have ha' : ∃ m : Int, a = .int m ∧ 0 < m ∧ m ≤ 200 := by
    simp only [List.mem_cons, List.not_mem_nil, or_false] at ha
    rcases ha with rfl | rfl | rfl <;> exact ⟨_, rfl, by decide, by decide⟩
  obtain ⟨m, rfl, m0, m1⟩ := ha'
  simp [ea]
  refine (take_spec ht _ b1 m0 (by omega)).mono fun t S2 ⟨b2, u, e, u0, u1⟩ => ?_
  subst e
  simp
  refine (take_spec ht _ b2 (by decide) (by decide)).mono fun t S3 ⟨b3, l1, e, l10, l11⟩ => ?_
  subst e
  refine (take_spec ht _ b3 (m := 400 - (1 + u) + 1) (by omega) (by omega)).mono fun t S4 ⟨b4, l2, e, l20, l21⟩ => ?_
  subst e
  refine (take_spec ht _ b4 (by decide) (by decide)).mono fun t S5 ⟨b5, i2, e, i20, i21⟩ => ?_
  subst e
  obtain ⟨a, ea2, ha⟩ := atI_of (l := [T.int 0, .int l1, .int l2]) i20 (by simpa using i21)
  have ha' : ∃ m : Int, a = .int m ∧ 0 ≤ m ∧ 1 + u + m ≤ 400 := by
    simp only [List.mem_cons, List.not_mem_nil, or_false] at ha
    rcases ha with rfl | rfl | rfl
    · exact ⟨0, rfl, by decide, by omega⟩
    · exact ⟨l1, rfl, l10, by omega⟩
    · exact ⟨l2, rfl, l20, by omega⟩
  obtain ⟨d, rfl, d0, d1⟩ := ha'
  simp [ea2]
  refine (take_spec ht _ b5 (by decide) (by decide)).mono fun t S6 ⟨b6, i3, e, i30, i31⟩ => ?_
  subst e
  simp only [T.int.injEq, exists_eq_left']
  refine ⟨okR_small (by omega) (by omega), ?_⟩
  refine y_mapLc (I := fun S => BagAt S n) (R := fun y => ∃ s, y = .str s ∧ s ∈ ps) (fun x hx S2 b2 => ?_) b6 fun q S7 b7 hl hr => ?_
  · simp [lcF, bindTg, Tg.slots, wipeE, condT, getV, Ex.strict, strictAll]
    rw [ene]
    by_cases hpe : ps = []
    · simp [hpe, b2]
    · have : ps.isEmpty = false := by simpa using hpe
      simp [this, strictAll]
      refine (of_spec ht ho _ b2 (l := strsL ps) rfl (by simpa [strsL] using hpe) (by simp [strsL]; omega)).mono fun z S3 ⟨b3, hz⟩ => ?_
      obtain ⟨s, hs, rfl⟩ := mem_strsL.mp hz
      exact ⟨b3, s, rfl, hs⟩
  · obtain ⟨zs, rfl, hzs⟩ := all_strs hr
    have hl2 : zs.length ≤ 3 := by simp [strsL] at hl; omega
    obtain ⟨team, e, hm, hlo, hso⟩ := sset_strs zs (by omega)
    simp [e]
    refine (take_spec ht _ b7 (by decide) (by decide)).mono fun t S8 ⟨b8, i4, e, i40, i41⟩ => ?_
    subst e
    simp
    refine ⟨okR_small (by omega) (by omega), ?_⟩
    refine y_mapL1 (I := fun S => BagAt S n) (R := fun _ y => ∃ s, y = .int s ∧ 0 ≤ s ∧ s < r) (fun x hx S2 b2 => ?_) b8 fun q S9 b9 hr => ?_
    · simp [lcF, bindTg, Tg.slots, wipeE, condT, getV, Ex.strict, strictAll]
      exact (take_spec ht _ b2 (by omega) (by omega)).mono fun t S3 ⟨b3, s, e, s0, s1⟩ => ⟨b3, s, e, s0, s1⟩
    · have hlen := hr.len
      have hall : ∀ y ∈ q, ∃ s, y = .int s ∧ 0 ≤ s ∧ s < r := hr.right
      obtain ⟨zs2, rfl, hz2⟩ := all_ints hall
      have hl3 : zs2.length = (1 + i4).toNat := by simpa [intsL] using hlen.symm
      obtain ⟨places, e, hm2, hlo2, hso2⟩ := sset_ints zs2 (by omega)
      simp [e]
      refine (take_spec ht _ b9 (by decide) (by decide)).mono fun t S10 ⟨b10, f1, e, f10, f11⟩ => ?_
      subst e
      refine (take_spec ht _ b10 (by decide) (by decide)).mono fun t S11 ⟨b11, f2, e, f20, f21⟩ => ?_
      subst e
      refine (take_spec ht _ b11 (by decide) (by decide)).mono fun t S12 ⟨b12, i5, e, i50, i51⟩ => ?_
      subst e
      obtain ⟨a, ea3, ha⟩ := atI_of (l := [T.int 0, .int 0, .int f1, .int f2]) i50 (by simpa using i51)
      have ha' : ∃ m : Int, a = .int m ∧ 0 ≤ m ∧ m ≤ 600 := by
        simp only [List.mem_cons, List.not_mem_nil, or_false] at ha
        rcases ha with rfl | rfl | rfl | rfl
        · exact ⟨0, rfl, by decide, by decide⟩
        · exact ⟨0, rfl, by decide, by decide⟩
        · exact ⟨f1, rfl, f10, by omega⟩
        · exact ⟨f2, rfl, f20, by omega⟩
      obtain ⟨fi, rfl, fi0, fi1⟩ := ha'
      simp [ea3]
      refine ⟨b12, ⟨nm, 1 + u, 1 + u + d, team, places, fi⟩, rfl, ⟨hnm, by dsimp only; omega, by dsimp only; omega, by dsimp only; omega, by dsimp only; omega, by dsimp only; omega, fun p hp => hzs p ((hm p).mp hp), fun z => ?_, by dsimp only; omega, fun p hp => hz2 p ((hm2 p).mp hp), fi0, fi1, hso, by dsimp only; omega, hso2⟩, rfl⟩
      have : zs2 ≠ [] := fun y => by rw [y] at hl3; simp at hl3; omega
      obtain ⟨x, xs, ez⟩ := List.exists_cons_of_ne_nil this
      have hx := (hm2 x).mpr (by rw [ez]; simp)
      simp only at z
      rw [z] at hx; cases hx
end
end RD

namespace RD
open PySem

@[simp] theorem slice_lst {l : List T} {lo hi : Option Int} : sliceT (.lst l) lo hi = some (.lst (cutT l lo hi)) := rfl
@[simp] theorem slice_tup {l : List T} {lo hi : Option Int} : sliceT (.tup l) lo hi = some (.tup (cutT l lo hi)) := rfl
theorem cutT_mem {α : Type} {l : List α} {lo hi : Option Int} {x : α} (h : x ∈ cutT l lo hi) : x ∈ l := List.mem_of_mem_drop (List.mem_of_mem_take h)
theorem cutT_len {α : Type} {l : List α} {lo hi : Option Int} : (cutT l lo hi).length ≤ l.length := by
  unfold cutT
  simp
  omega
theorem All2.ex {α β γ : Type} {R : α → β → Prop} {f : γ → β} {Q : γ → Prop} {l : List α} {m : List β} (h : All2 R l m) (k : ∀ a b, a ∈ l → R a b → ∃ c, b = f c ∧ Q c) : ∃ cs : List γ, m = cs.map f ∧ (∀ c ∈ cs, Q c) := by
  induction h with
  | nil => exact ⟨[], rfl, by simp⟩
  | cons h _ ih =>
    obtain ⟨c, rfl, q⟩ := k _ _ (by simp) h
    obtain ⟨cs, rfl, hq⟩ := ih fun a b ha => k a b (List.mem_cons_of_mem _ ha)
    exact ⟨c :: cs, rfl, by simpa using ⟨q, hq⟩⟩
theorem All2.exN {R : T → T → Prop} {f : Cs → T} {Q : Cs → Prop} {l m : List T} (h : All2 R l m) (k : ∀ a b, a ∈ l → R a b → ∃ c, b = f c ∧ Q c ∧ a = .str c.name) : ∃ cs : List Cs, m = cs.map f ∧ (∀ c ∈ cs, Q c) ∧ l = strsL (cs.map (·.name)) := by
  induction h with
  | nil => exact ⟨[], rfl, by simp, rfl⟩
  | cons h _ ih =>
    obtain ⟨c, rfl, q, e⟩ := k _ _ (by simp) h
    obtain ⟨cs, rfl, hq, e2⟩ := ih fun a b ha => k a b (List.mem_cons_of_mem _ ha)
    exact ⟨c :: cs, rfl, by simpa using ⟨q, hq⟩, by rw [e, e2]; rfl⟩
def names8 : List Str := ["ada", "bel", "cid", "dot", "eve", "fin", "gil", "hob"]
theorem names8_nodup : names8.Nodup := by decide +kernel
theorem strsL_inj : ∀ {l m : List Str}, strsL l = strsL m → l = m
  | [], [], _ => rfl
  | [], _ :: _, h => by simp [strsL] at h
  | _ :: _, [], h => by simp [strsL] at h
  | a :: l, b :: m, h => by
    simp only [strsL, List.map_cons, List.cons.injEq, T.str.injEq] at h
    rw [h.1, strsL_inj (l := l) (m := m) h.2]
structure Pn where
  start : Int
  name : Str
  room : Int
def pT (p : Pn) : T := .tup [.int p.start, .str p.name, .int p.room]
def OkP (cs : List Cs) (p : Pn) : Prop := ∃ c ∈ cs, c.name = p.name ∧ p.room ∈ c.places ∧ c.first ≤ p.start ∧ p.start ≤ 1000
section
theorem enc_pT (p : Pn) : (pT p).toD = some (.tuple [.int p.start, .str p.name, .int p.room]) := by simp [pT, T.toD, T.toDs]
theorem toDs_pT (ps : List Pn) : T.toDs (ps.map pT) = some (ps.map fun p => PyData.tuple [.int p.start, .str p.name, .int p.room]) := by
  induction ps with
  | nil => rfl
  | cons p ps ih => simp [T.toDs, enc_pT, ih]
theorem sort_pT (ps : List Pn) (h : ps.length ≤ 1000) : ∃ qs : List Pn, sortT (ps.map pT) = some (qs.map pT) ∧ qs.Perm ps := by
  have e : srtB (ps.map fun p => PyData.tuple [.int p.start, .str p.name, .int p.room]) = true := by
    simp only [srtB, Bool.and_eq_true, Bool.or_eq_true, List.all_eq_true, List.mem_map, decide_eq_true_eq]
    refine ⟨⟨?_, .inl ?_⟩, ?_⟩
    · rintro _ ⟨p, _, rfl⟩ _ ⟨q, _, rfl⟩
      simp [W.alike, W.alikeAll]
    · rintro _ ⟨p, _, rfl⟩
      rfl
    · rintro _ ⟨p, _, rfl⟩
      simp [PyData.depth, PyData.depthAll]
  have hl : (ps.map pT).length ≤ lim := by rw [List.length_map]; exact Nat.le_trans h (by decide)
  have e2 : sortT (ps.map pT) = some ((ps.map pT).mergeSort (W.dataLe false encT)) := by
    unfold sortT
    rw [toDs_pT]
    simp only [e, true_and, if_pos hl]
  have pm := List.mergeSort_perm (ps.map pT) (W.dataLe false encT)
  have hm : ∀ t ∈ (ps.map pT).mergeSort (W.dataLe false encT), ∃ p, t = pT p ∧ p ∈ ps := fun t ht => by
    obtain ⟨p, hp, rfl⟩ := List.mem_map.mp (pm.mem_iff.mp ht)
    exact ⟨p, rfl, hp⟩
  have ex : ∀ l : List T, (∀ t ∈ l, ∃ p, t = pT p ∧ p ∈ ps) → ∃ qs : List Pn, l = qs.map pT := by
    intro l
    induction l with
    | nil => intro _; exact ⟨[], rfl⟩
    | cons a l ih =>
      intro h
      obtain ⟨p, rfl, _⟩ := h a (by simp)
      obtain ⟨qs, rfl⟩ := ih fun t ht => h t (List.mem_cons_of_mem _ ht)
      exact ⟨p :: qs, rfl⟩
  obtain ⟨qs, eq⟩ := ex _ hm
  refine ⟨qs, by rw [e2, eq], ?_⟩
  rw [eq] at pm
  have z := pm.map fun t => match t with
    | .tup [.int a, .str b, .int c] => (⟨a, b, c⟩ : Pn)
    | _ => ⟨0, ⟨#[]⟩, 0⟩
  simpa [List.map_map, Function.comp_def, pT] using z
end
section
variable {cst : Str → Option T} {fuel : Nat} {ds : List Dn} {S : Store}
structure Draws (ds : List Dn) : Prop where
  take : Has ds d__law_take
  of : Has ds d__law_of
  bag : Has ds d__law_bag
  house : Has ds d__law_house
  case : Has ds d__law_case
  cases : Has ds d__law_cases
theorem cases_spec (D : Draws ds) (k : Nat) {n : Nat} {r most : Int} {ps : List Str} (hb : BagAt S n) (h1 : 1 ≤ r) (h4 : r ≤ 4) (hp : ps.length ≤ 5) (hps : ∀ p ∈ ps, pl (.str p) = true) (hm0 : 0 ≤ most) (hm1 : most ≤ 1000) :
    Y (callK cst fuel ds (k + 4) "_law_cases" [.ref n, hT r ps, .int most] S) fun t S' => BagAt S' n ∧ ∃ cs : List Cs, t = .tup (cs.map cT) ∧ (∀ c ∈ cs, OkC r ps c) ∧ cs.length ≤ 8 ∧ cs.map (·.name) = names8.take cs.length := by
  refine y_callK D.cases rfl ?_
  simp [d__law_cases, startE, getV, Ex.strict, strictAll]
  refine (take_spec D.take _ hb (by omega) (by omega)).mono fun t S1 ⟨b1, i, e, i0, i1⟩ => ?_
  subst e
  simp
  generalize hl : cutT [T.str "ada", T.str "bel", T.str "cid", T.str "dot", T.str "eve", T.str "fin", T.str "gil", T.str "hob"] none (some i) = l
  have hmem : ∀ x ∈ l, ∃ s, x = .str s ∧ pl (.str s) = true := fun x hx => by
    have := cutT_mem (hl ▸ hx)
    simp only [List.mem_cons, List.not_mem_nil, or_false] at this
    rcases this with rfl | rfl | rfl | rfl | rfl | rfl | rfl | rfl <;> exact ⟨_, rfl, by decide +kernel⟩
  have hlen : l.length ≤ 8 := hl ▸ cutT_len
  have hcut : l = strsL (names8.take l.length) := by
    have e : cutT [T.str "ada", T.str "bel", T.str "cid", T.str "dot", T.str "eve", T.str "fin", T.str "gil", T.str "hob"] none (some i) = (strsL names8).take (HT.sIx 8 8 (some i)) := rfl
    rw [e] at hl
    rw [← hl]
    simp [strsL]
  refine y_mapL1 (I := fun S => BagAt S n) (R := fun x y => ∃ c, y = cT c ∧ OkC r ps c ∧ x = .str c.name) (fun x hx S2 b2 => ?_) b1 fun q S3 b3 hr => ?_
  · obtain ⟨s, rfl, hs⟩ := hmem x hx
    simp [lcF, bindTg, Tg.slots, wipeE, condT, getV, Ex.strict, strictAll]
    exact (case_spec D.take D.of D.case _ b2 h1 h4 hp hps hs).mono fun t S3 ⟨b3, c, e, hc, hn⟩ => ⟨b3, c, e, hc, by rw [hn]⟩
  · obtain ⟨cs, rfl, hcs, hnm⟩ := hr.exN (f := cT) (Q := OkC r ps) fun a b _ h => h
    have hl2 : l.length = cs.length := by have := hr.len; simpa using this
    refine ⟨b3, cs, rfl, hcs, by omega, ?_⟩
    rw [hcut] at hnm
    rw [← hl2]
    exact (strsL_inj hnm).symm
def PlanJ (n : Nat) (cs : List Cs) (far : Int) (rest : List T) (ρ : Env) (S : Store) : Prop := ∃ (pn : List Pn) (s : Slot), (∃ cs' : List Cs, rest = cs'.map cT ∧ (pn.map (·.name) ++ cs'.map (·.name)).Sublist (cs.map (·.name))) ∧ ρ = [.val (.ref n), .val (.tup (cs.map cT)), .own (pn.map pT), .val (.int far), s] ∧ BagAt S n ∧ (∀ p ∈ pn, OkP cs p) ∧ pn.length + rest.length ≤ cs.length ∧ ∀ x ∈ rest, x ∈ cs.map cT
theorem plan_spec (D : Draws ds) (h : Has ds d__law_plan) (k : Nat) {n : Nat} {r : Int} {ps : List Str} {cs : List Cs} (hb : BagAt S n) (hc : ∀ c ∈ cs, OkC r ps c) (hl : cs.length ≤ 1000) :
    Y (callK cst fuel ds (k + 3) "_law_plan" [.ref n, .tup (cs.map cT)] S) fun t S' => BagAt S' n ∧ ∃ pn : List Pn, t = .tup (pn.map pT) ∧ (∀ p ∈ pn, OkP cs p) ∧ pn.length ≤ cs.length ∧ ∃ l, l.Sublist (cs.map (·.name)) ∧ (pn.map (·.name)).Perm l := by
  refine y_callK h rfl ?_
  simp [d__law_plan, startE, getV, Ex.strict, strictAll, newE, Itr.strict]
  refine (take_spec D.take _ hb (by decide) (by decide)).mono fun t S1 ⟨b1, i, e, i0, i1⟩ => ?_
  subst e
  obtain ⟨a, ea, ha⟩ := atI_of (l := [T.int 1, .int 10, .int 60, .int 400]) i0 (by simpa using i1)
  have ha' : ∃ m : Int, a = .int m ∧ 0 < m ∧ m ≤ 400 := by
    simp only [List.mem_cons, List.not_mem_nil, or_false] at ha
    rcases ha with rfl | rfl | rfl | rfl <;> exact ⟨_, rfl, by decide, by decide⟩
  obtain ⟨far, rfl, f0, f1⟩ := ha'
  simp [ea]
  refine y_forL (J := PlanJ n cs far) ?_ ?_ ⟨[], .none, ⟨cs, rfl, by simp⟩, rfl, b1, by simp, by simp, fun x hx => hx⟩
  · rintro x xs ρ S2 ⟨pn, s, ⟨cs', hcs', hsub⟩, rfl, b2, hp, hlen, hx⟩
    cases cs' with
    | nil => cases hcs'
    | cons c cs' =>
    simp only [List.map_cons, List.cons.injEq] at hcs'
    obtain ⟨rfl, rfl⟩ := hcs'
    have hcm : c ∈ cs := by
      obtain ⟨d, hd, e⟩ := List.mem_map.mp (hx (cT c) (by simp))
      rw [← cT_inj e]; exact hd
    have ok := hc c hcm
    simp [forF, bindTg, getV, Ex.strict, strictAll]
    refine (take_spec D.take _ b2 (by decide) (by decide)).mono fun t S3 ⟨b3, j, e, j0, j1⟩ => ?_
    subst e
    have hxs : ∀ y ∈ cs'.map cT, y ∈ cs.map cT := fun y hy => hx y (List.mem_cons_of_mem _ hy)
    have hlen' : pn.length + (cs'.length + 1) ≤ cs.length := by simpa using hlen
    by_cases hj : 0 < j
    · simp [hj, cT]
      refine (take_spec D.take _ b3 f0 (by omega)).mono fun t S4 ⟨b4, v, e, v0, v1⟩ => ?_
      subst e
      simp
      refine (of_spec D.take D.of _ b4 (l := intsL c.places) rfl (by simpa [intsL] using ok.pl0) (by simpa [intsL] using ok.pl1)).mono fun z S5 ⟨b5, hz⟩ => ?_
      obtain ⟨rm, hrm, rfl⟩ := mem_intsL.mp hz
      simp [getO]
      refine ⟨Nat.lt_of_le_of_lt (show pn.length ≤ 1000 by omega) (by decide), ⟨pn ++ [⟨c.first + v, c.name, rm⟩], .val (cT c), ⟨cs', rfl, by simpa using hsub⟩, by simp [pT, cT], b5, ?_, by simp; omega, hxs⟩⟩
      intro p hp'
      rcases List.mem_append.mp hp' with h' | h'
      · exact hp p h'
      · simp only [List.mem_singleton] at h'
        subst h'
        exact ⟨c, hcm, rfl, hrm, by simp; omega, by simp; have := ok.f1; omega⟩
    · simp [hj]
      exact ⟨pn, .val (cT c), ⟨cs', rfl, (List.Sublist.append_left (List.sublist_cons_self _ _) _).trans (by simpa using hsub)⟩, rfl, b3, hp, by simp; omega, hxs⟩
  · rintro ρ S2 ⟨pn, s, ⟨cs', hcs', hsub⟩, rfl, b2, hp, hlen, _⟩
    obtain ⟨qs, e, pm⟩ := sort_pT pn (by simp at hlen; omega)
    simp [getP, e]
    exact ⟨b2, qs, rfl, fun p hq => hp p (pm.mem_iff.mp hq), by rw [pm.length_eq]; simpa using hlen, pn.map (·.name), (List.sublist_append_left _ _).trans hsub, pm.map _⟩
theorem drawn_spec (D : Draws ds) (hp : Has ds d__law_plan) (h : Has ds d__law_drawn) (k : Nat) {n : Nat} {most : Int} (hb : BagAt S n) (hm0 : 0 ≤ most) (hm1 : most ≤ 1000) :
    Y (callK cst fuel ds (k + 5) "_law_drawn" [.ref n, .int most] S) fun t S' => BagAt S' n ∧ ∃ r ps, ∃ (cs : List Cs) (pn : List Pn), t = .tup [hT r ps, .tup (cs.map cT), .tup (pn.map pT)] ∧ 1 ≤ r ∧ r ≤ 4 ∧ ps.length ≤ 5 ∧ (∀ p ∈ ps, pl (.str p) = true) ∧
      (∀ c ∈ cs, OkC r ps c) ∧ cs.length ≤ 8 ∧ (∀ p ∈ pn, OkP cs p) ∧ pn.length ≤ 8 ∧ cs.map (·.name) = names8.take cs.length ∧ (pn.map (·.name)).Nodup ∧ (∀ p ∈ ps, p ∈ people5) ∧ ps.Pairwise ltS := by
  refine y_callK h rfl ?_
  simp [d__law_drawn, startE, getV, Ex.strict, strictAll]
  refine (house_spec D.take D.of D.house _ hb).mono fun t S1 ⟨b1, r, ps, e, h1, h4, h5, hps, hp5, hpr⟩ => ?_
  subst e
  refine (cases_spec D _ b1 h1 h4 h5 hps hm0 hm1).mono fun t S2 ⟨b2, cs, e, hcs, hl, hnm⟩ => ?_
  subst e
  simp
  refine (plan_spec D hp _ b2 hcs (by omega)).mono fun t S3 ⟨b3, pn, e, hpn, hl2, l, hsub, hperm⟩ => ?_
  subst e
  exact ⟨b3, r, ps, cs, pn, ⟨rfl, rfl, rfl⟩, h1, h4, h5, hps, hcs, hl, hpn, by omega, hnm, hperm.nodup_iff.mpr ((hsub.nodup (by rw [hnm]; exact names8_nodup.sublist (List.take_sublist _ _)))), hp5, hpr⟩
end
end RD

namespace RD
open PySem

theorem y_mapLx {f : T → M (List T)} {g : T → List T} {S : Store} {P : List T → Store → Prop} {l : List T} (h : ∀ x ∈ l, Y (f x S) fun ys S' => ys = g x ∧ S' = S) (q : P (l.flatMap g) S) : Y (mapL f l S) P := by
  refine y_of (mapL_exact (g := g) fun x hx => ?_) q
  obtain ⟨ys, S', e, rfl, rfl⟩ := h x hx
  exact e
theorem y_forI {f : T → Env → M (Env × Fl)} {P : Env × Fl → Store → Prop} {l : List T} (J : Nat → Env → Store → Prop) (ht : ∀ i x ρ S, l[i]? = some x → J i ρ S → Y (f x ρ S) fun r S' => match r.2 with
      | .next => J (i + 1) r.1 S'
      | .cont => J (i + 1) r.1 S'
      | .brk => P (r.1, .next) S'
      | .ret t => P (r.1, .ret t) S')
    (hd : ∀ ρ S, J l.length ρ S → P (ρ, .next) S) {ρ : Env} {S : Store} (h : J 0 ρ S) : Y (forL f l ρ S) P := by
  refine y_forL (J := fun rest ρ S => ∃ i, rest = l.drop i ∧ i ≤ l.length ∧ J i ρ S) ?_ ?_ ⟨0, by simp, by simp, h⟩
  · rintro x xs ρ S ⟨i, e, hi, hj⟩
    have hlt : i < l.length := by
      rcases Nat.lt_or_ge i l.length with h | h
      · exact h
      · rw [List.drop_of_length_le h] at e; cases e
    rw [List.drop_eq_getElem_cons hlt] at e
    cases e
    refine (ht i _ ρ S (List.getElem?_eq_getElem hlt) hj).mono fun r S1 q => ?_
    obtain ⟨ρ1, fl⟩ := r
    cases fl with
    | next => exact ⟨i + 1, rfl, hlt, q⟩
    | cont => exact ⟨i + 1, rfl, hlt, q⟩
    | brk => exact q
    | ret t => exact q
  · rintro ρ S ⟨i, e, hi, hj⟩
    have : i = l.length := by
      have := congrArg List.length e
      simp at this
      omega
    subst this
    exact hd ρ S hj
/-! ### cases by their names -/
def knT (cs : List Cs) : List (Key × T) := mergeT [] (cs.map fun c => ((.inr c.name : Key), cT c))
def look' (cs : List Cs) (x : Str) : Option Cs := cs.foldl (fun acc c => if c.name = x then some c else acc) none
theorem valT_put {l : List (Key × T)} {k k' : Key} {v : T} : valT (putT l k v) k' = if k = k' then some v else valT l k' := by
  unfold putT
  by_cases ha : (l.any fun kv => decide (kv.1 = k)) = true
  · rw [if_pos ha]
    have key : ∀ l : List (Key × T), valT (l.map fun kv => if kv.1 = k then (kv.1, v) else kv) k' = if k = k' then (if (l.any fun kv => decide (kv.1 = k)) = true then some v else none) else valT l k' := by
      intro l
      induction l with
      | nil => simp [valT]
      | cons a l ih =>
        obtain ⟨j, u⟩ := a
        unfold valT at ih ⊢
        by_cases hj : j = k
        · subst hj
          by_cases hk : j = k'
          · subst hk; simp
          · simp only [List.map_cons, if_pos, List.find?_cons, hk, decide_false, if_neg] at *
            simpa [hk] using ih
        · by_cases hk : k = k'
          · subst hk
            simp only [List.map_cons, if_neg hj, List.find?_cons, decide_eq_false hj, List.any_cons, Bool.false_or]
            simpa using ih
          · by_cases hjk : j = k'
            · subst hjk; simp [hj, hk, List.find?_cons]
            · simp only [List.map_cons, if_neg hj, List.find?_cons, decide_eq_false hjk]
              simpa [hk] using ih
    rw [key, if_pos ha]
  · rw [if_neg ha]
    unfold valT
    rw [List.find?_append]
    by_cases hk : k = k'
    · subst hk
      have : l.find? (fun kv => decide (kv.1 = k)) = none := by
        rw [List.find?_eq_none]
        intro x hx hd
        exact ha (List.any_eq_true.mpr ⟨x, hx, hd⟩)
      rw [this]
      simp
    · simp only [List.find?_cons, decide_eq_false hk, List.find?_nil, if_neg hk]
      cases List.find? (fun kv => decide (kv.1 = k')) l <;> rfl
theorem kn_look (cs : List Cs) (x : Str) : valT (knT cs) (.inr x) = (look' cs x).map cT := by
  unfold knT look' mergeT
  have key : ∀ (cs : List Cs) (acc : List (Key × T)) (o : Option Cs), valT acc (.inr x) = o.map cT →
      valT ((cs.map fun c => ((.inr c.name : Key), cT c)).foldl (fun acc kv => putT acc kv.1 kv.2) acc) (.inr x) = (cs.foldl (fun acc c => if c.name = x then some c else acc) o).map cT := by
    intro cs
    induction cs with
    | nil => intro acc o h; exact h
    | cons c cs ih =>
      intro acc o h
      simp only [List.map_cons, List.foldl_cons]
      refine ih _ _ ?_
      rw [valT_put]
      by_cases hx : c.name = x
      · rw [if_pos (by rw [hx]), if_pos hx]; rfl
      · rw [if_neg fun e => hx (by cases e; rfl), if_neg hx]; exact h
  exact key cs [] none rfl
theorem look_some {cs : List Cs} {x : Str} (h : ∃ c ∈ cs, c.name = x) : ∃ c ∈ cs, c.name = x ∧ look' cs x = some c := by
  unfold look'
  have key : ∀ (cs : List Cs) (o : Option Cs), (∃ c, (c ∈ cs ∧ c.name = x ∧ cs.foldl (fun acc c => if c.name = x then some c else acc) o = some c)) ∨ ((∀ c ∈ cs, c.name ≠ x) ∧ cs.foldl (fun acc c => if c.name = x then some c else acc) o = o) := by
    intro cs
    induction cs with
    | nil => intro o; exact .inr ⟨by simp, rfl⟩
    | cons c cs ih =>
      intro o
      simp only [List.foldl_cons]
      rcases ih (if c.name = x then some c else o) with ⟨d, h1, h2, h3⟩ | ⟨h1, h2⟩
      · exact .inl ⟨d, List.mem_cons_of_mem _ h1, h2, h3⟩
      · by_cases hx : c.name = x
        · rw [if_pos hx] at h2
          exact .inl ⟨c, by simp, hx, by rw [if_pos hx]; exact h2⟩
        · rw [if_neg hx] at h2
          exact .inr ⟨fun d hd => by
            rcases List.mem_cons.mp hd with rfl | hd
            · exact hx
            · exact h1 d hd, by rw [if_neg hx]; exact h2⟩
  rcases key cs none with ⟨d, h1, h2, h3⟩ | ⟨h1, _⟩
  · exact ⟨d, h1, h2, h3⟩
  · obtain ⟨c, hc, hx⟩ := h
    exact absurd hx (h1 c hc)
theorem pairs_cs (cs : List Cs) : pairsT (cs.map fun c => .tup [.str c.name, cT c]) = some (cs.map fun c => ((.inr c.name : Key), cT c)) := by
  induction cs with
  | nil => rfl
  | cons c cs ih => simp [pairsT, keyT, ih]
section
variable {cst : Str → Option T} {fuel : Nat} {ds : List Dn} {S : Store}
theorem by_name_spec (h : Has ds d_by_name) (k : Nat) (cs : List Cs) : Y (callK cst fuel ds (k + 1) "by_name" [.tup (cs.map cT)] S) fun t S' => t = .dct (knT cs) ∧ S' = S := by
  refine y_callK h rfl ?_
  simp [d_by_name, startE, getV, Ex.strict]
  have key : ∀ (l : List Cs) (acc : List (Key × T)), Y (foldD (dcF (ev (gl cst fuel ds k "by_name") ((Ex.var 1).idx (.int 0))) (strictly true (ev (gl cst fuel ds k "by_name") (.var 1))) (.name 1) [.val (.tup (cs.map cT)), .none]) (l.map cT) acc S) fun r S' => T.dct r = .dct (mergeT acc (l.map fun c => ((.inr c.name : Key), cT c))) ∧ S' = S := by
    intro l
    induction l with
    | nil => intro acc; simp [foldD, mergeT]
    | cons c l ih =>
      intro acc
      simp only [List.map_cons, foldD, y_bnd]
      simp [dcF, bindTg, Tg.slots, wipeE, getV, cT, keyT]
      simpa [mergeT, cT] using ih (putT acc (.inr c.name) (cT c))
  simpa [knT, Ex.strict] using key cs []
end
end RD

namespace RD
open PySem

theorem pls_strs {l : List Str} (h : ∀ z ∈ l, pl (.str z) = true) : pls (strsL l) = true := pls_all fun t ht => by obtain ⟨s, hs, rfl⟩ := mem_strsL.mp ht; exact h s hs
theorem dps_strs {l : List Str} : dps (strsL l) = 0 := Nat.le_zero.mp (dps_all fun t ht => by obtain ⟨s, hs, rfl⟩ := mem_strsL.mp ht; simp [dp])
theorem in_strs {z : Str} {l : List Str} (hz : pl (.str z) = true) (h : ∀ z ∈ l, pl (.str z) = true) : inT (.str z) (.tup (strsL l)) = some (l.any fun y => y == z) := by
  rw [inT_tup hz (pls_strs h) (by simp [dp]) (by rw [dps_strs]; decide)]
  simp [strsL, List.any_map, Function.comp_def, PyData.eqv]
theorem mapBl (l : List Str) (f : Str → Bool) : blsT ((strsL l).flatMap fun t => [T.bl (match t with | .str z => f z | _ => false)]) = some (l.map f) := by
  induction l with
  | nil => rfl
  | cons a l ih =>
    simp only [strsL, List.map_cons, List.flatMap_cons, List.singleton_append] at *
    simp [blsT, ih]
structure Good (cs : List Cs) (pn : List Pn) : Prop where
  tm : ∀ c ∈ cs, ∀ z ∈ c.team, pl (.str z) = true
  nm : ∀ p ∈ pn, pl (.str p.name) = true
  lk : ∀ p ∈ pn, ∃ c ∈ cs, c.name = p.name
  len : pn.length ≤ 1000
def teamOf (cs : List Cs) (x : Str) : List Str := ((look' cs x).map (·.team)).getD []
def meetB (cs : List Cs) (p q : Pn) : Bool := decide (p.room = q.room) || (teamOf cs p.name).any fun z => (teamOf cs q.name).any fun y => y == z
section
variable {cst : Str → Option T} {fuel : Nat} {ds : List Dn} {S : Store} {cs : List Cs} {pn : List Pn}
theorem Good.get (G : Good cs pn) {p : Pn} (hp : p ∈ pn) : ∃ c ∈ cs, valT (knT cs) (.inr p.name) = some (cT c) ∧ teamOf cs p.name = c.team ∧ look' cs p.name = some c := by
  obtain ⟨c, hc, _, e⟩ := look_some (G.lk p hp)
  exact ⟨c, hc, by rw [kn_look, e]; rfl, by simp [teamOf, e], e⟩
theorem meet_spec (h : Has ds d_meet) (G : Good cs pn) (k : Nat) {p q : Pn} (hp : p ∈ pn) (hq : q ∈ pn) : Y (callK cst fuel ds (k + 1) "meet" [.dct (knT cs), pT p, pT q] S) fun t S' => t = .bl (meetB cs p q) ∧ S' = S := by
  refine y_callK h rfl ?_
  obtain ⟨c, hc, e1, t1, _⟩ := G.get hp
  obtain ⟨d, hd, e2, t2, _⟩ := G.get hq
  simp [d_meet, startE, getV, Ex.strict, pT, eqT_int, Itr.strict, strictAll]
  by_cases hr : p.room = q.room
  · simp [hr, meetB]
  · simp [hr, e1, cT]
    refine y_mapLx (g := fun t => [T.bl (match t with | .str z => d.team.any fun y => y == z | _ => false)]) (fun x hx => ?_) ?_
    · obtain ⟨z, hz, rfl⟩ := mem_strsL.mp hx
      simp [lcF, bindTg, Tg.slots, wipeE, condT, getV, Ex.strict, strictAll, e2, cT, in_strs (G.tm c hc z hz) (G.tm d hd)]
      by_cases hz2 : z ∈ d.team
      · exact .inr hz2
      · exact .inl fun x hx e => hz2 (e ▸ hx)
    · simp [mapBl, meetB, hr, t1, t2]
def meetAt (cs : List Cs) (pn : List Pn) (a b : Nat) : Bool := match pn[a]?, pn[b]? with
  | some p, some q => meetB cs p q
  | _, _ => false
def leanRow (cs : List Cs) (pn : List Pn) (a : Nat) : List Nat := (List.range a).filter (meetAt cs pn a)
def rowT (l : List Nat) : T := .tup (l.map fun (n : Nat) => T.int (n : Int))
def rowsT (cs : List Cs) (pn : List Pn) (n : Nat) : List T := (List.range n).map fun a => rowT (leanRow cs pn a)
theorem rows_succ {n : Nat} : rowsT cs pn (n + 1) = rowsT cs pn n ++ [rowT (leanRow cs pn n)] := by simp [rowsT, List.range_succ]
theorem filt_rng (f : Nat → Bool) (n : Nat) : ((rngT 0 n).flatMap fun t => if (match t with | .int j => f j.toNat | _ => false) = true then [t] else []) = ((List.range n).filter f).map fun (b : Nat) => T.int (b : Int) := by
  unfold rngT
  rw [List.flatMap_map]
  induction (List.range n) with
  | nil => rfl
  | cons a l ih =>
    simp only [List.flatMap_cons, ih, List.filter_cons]
    by_cases h : f a = true <;> simp [h]
theorem mem_rng {x : T} {n : Nat} (h : x ∈ rngT 0 n) : ∃ b : Nat, b < n ∧ x = .int (b : Int) := by
  simp only [rngT, List.mem_map, List.mem_range] at h
  obtain ⟨b, hb, rfl⟩ := h
  exact ⟨b, hb, by simp⟩
theorem plan_at {i : Nat} {x : T} (h : (pn.map pT)[i]? = some x) : ∃ p, pn[i]? = some p ∧ x = pT p ∧ p ∈ pn := by
  rw [List.getElem?_map, Option.map_eq_some_iff] at h
  obtain ⟨p, hp, rfl⟩ := h
  exact ⟨p, hp, rfl, List.mem_of_getElem? hp⟩
theorem enum_at {l : List T} {i : Nat} {x : T} (h : (enumT l)[i]? = some x) : ∃ t, l[i]? = some t ∧ x = .tup [.int (i : Int), t] := by
  have hi : i < l.length := by
    have := (List.getElem?_eq_some_iff.mp h).1
    rwa [enumT_len] at this
  have e := enumT_get (List.getElem?_eq_getElem hi)
  rw [h] at e
  cases e
  exact ⟨_, List.getElem?_eq_getElem hi, rfl⟩
theorem small_okR {n : Nat} (h : n ≤ 1000) : okR (n : Int) ∧ (n : Int) ≤ (lim : Int) := okR_small (by omega) (by omega)
def LeanJ (cs : List Cs) (pn : List Pn) (S : Store) (i : Nat) (ρ : Env) (S' : Store) : Prop := ∃ s4 s5 s6, ρ = [.val (.tup (cs.map cT)), .val (.tup (pn.map pT)), .val (.dct (knT cs)), .own (rowsT cs pn i), s4, s5, s6] ∧ S' = S
theorem leans_spec (h : Has ds d_leans) (hb : Has ds d_by_name) (hm : Has ds d_meet) (G : Good cs pn) (k : Nat) : Y (callK cst fuel ds (k + 2) "leans" [.tup (cs.map cT), .tup (pn.map pT)] S) fun t S' => t = .lst (rowsT cs pn pn.length) ∧ S' = S := by
  refine y_callK h rfl ?_
  simp [d_leans, startE, getV, Ex.strict, strictAll, newE, Itr.strict]
  refine (by_name_spec hb _ cs).mono fun t S1 ⟨e, eS⟩ => ?_
  subst e eS
  refine y_forI (LeanJ cs pn S1) ?_ ?_ ⟨.none, .none, .none, rfl, rfl⟩
  · rintro i x ρ S1 hx ⟨s4, s5, s6, rfl, rfl⟩
    obtain ⟨t, ht, rfl⟩ := enum_at hx
    obtain ⟨p, hp, rfl, hpm⟩ := plan_at ht
    have hi : i < pn.length := (List.getElem?_eq_some_iff.mp hp).1
    have hlen := G.len
    simp [forF, bindTg, setAll, getV, getO, Ex.strict, strictAll]
    refine ⟨small_okR (by omega), ?_⟩
    refine y_mapLx (g := fun t => if (match t with | .int j => meetAt cs pn i j.toNat | _ => false) = true then [t] else []) (fun x hx => ?_) ?_
    · obtain ⟨b, hb', rfl⟩ := mem_rng hx
      obtain ⟨q, hq⟩ : ∃ q, pn[b]? = some q := ⟨_, List.getElem?_eq_getElem (by omega)⟩
      have hqt : L2.atI (pn.map pT) (b : Int) = some (pT q) := atI_nat (by simp [hq])
      simp [lcF, bindTg, Tg.slots, wipeE, getV, Ex.strict, strictAll, hqt]
      refine (meet_spec hm G _ hpm (List.mem_of_getElem? hq)).mono fun t S2 ⟨e, eS⟩ => ?_
      subst e eS
      have em : meetAt cs pn i b = meetB cs p q := by simp [meetAt, hp, hq]
      cases hB : meetB cs p q <;> simp [condT, em, hB, getV]
    · rw [filt_rng]
      refine ⟨Nat.lt_of_le_of_lt (show (rowsT cs pn i).length ≤ 1000 by simp [rowsT]; omega) (by decide), ?_⟩
      exact ⟨_, _, _, by rw [rows_succ]; rfl, rfl⟩
  · rintro ρ S1 ⟨s4, s5, s6, rfl, rfl⟩
    simp [getV, enumT_len]
end
end RD

namespace RD
open PySem

structure Fr where
  name : Str
  b : Int
  e : Int
def fT (f : Fr) : T := .tup [.str f.name, .int f.b, .int f.e]
def mx (a b : Int) : Int := if a < b then b else a
def endAt (prev : List Fr) (j : Nat) : Int := ((prev[j]?).map (·.e)).getD 0
def begAt (cs : List Cs) (pn : List Pn) (prev : List Fr) (i : Nat) (p : Pn) : Int := ((leanRow cs pn i).map (endAt prev)).foldl mx p.start
def rowAt (cs : List Cs) (pn : List Pn) (ms : List Int) (prev : List Fr) (i : Nat) : Fr := match pn[i]?, ms[i]? with
  | some p, some m => ⟨p.name, begAt cs pn prev i p, begAt cs pn prev i p + m⟩
  | _, _ => ⟨⟨#[]⟩, 0, 0⟩
def told (cs : List Cs) (pn : List Pn) (ms : List Int) : Nat → List Fr
  | 0 => []
  | i + 1 => told cs pn ms i ++ [rowAt cs pn ms (told cs pn ms i) i]
theorem told_len {cs : List Cs} {pn : List Pn} {ms : List Int} : ∀ n, (told cs pn ms n).length = n
  | 0 => rfl
  | n + 1 => by simp [told, told_len n]
section
variable {cst : Str → Option T} {fuel : Nat} {ds : List Dn} {S : Store} {cs : List Cs} {pn : List Pn} {ms : List Int}
theorem lean_lt {i j : Nat} (h : j ∈ leanRow cs pn i) : j < i := by
  simp only [leanRow, List.mem_filter, List.mem_range] at h
  exact h.1
theorem fr_at {l : List Fr} {j : Nat} (h : j < l.length) : L2.atI (l.map fT) (j : Int) = some (fT l[j]) := atI_nat (by simp [h])
theorem end_at {l : List Fr} {j : Nat} (h : j < l.length) : endAt l j = l[j].e := by simp [endAt, List.getElem?_eq_getElem h]
theorem ends_map (l : List Nat) (f : Nat → Int) : ((l.map fun (n : Nat) => T.int (n : Int)).flatMap fun t => [T.int (match t with | .int j => f j.toNat | _ => 0)]) = intsL (l.map f) := by
  induction l with
  | nil => rfl
  | cons a l ih => simp only [List.map_cons, List.flatMap_cons, List.singleton_append, ih, intsL]; simp
def ToldJ (cs : List Cs) (pn : List Pn) (ms : List Int) (S : Store) (i : Nat) (ρ : Env) (S' : Store) : Prop := ∃ s4 s5 s6 s7 s8, ρ = [.val (.tup (cs.map cT)), .val (.tup (pn.map pT)), .val (.tup (intsL ms)), .own ((told cs pn ms i).map fT), s4, s5, s6, s7, s8] ∧ S' = S
theorem row_eq {i : Nat} {p : Pn} {m : Int} (hp : pn[i]? = some p) (hm : ms[i]? = some m) : rowAt cs pn ms (told cs pn ms i) i = ⟨p.name, begAt cs pn (told cs pn ms i) i p, begAt cs pn (told cs pn ms i) i p + m⟩ := by
  simp [rowAt, hp, hm]
theorem told_step {i : Nat} {p : Pn} {m : Int} (hp : pn[i]? = some p) (hm : ms[i]? = some m) : (told cs pn ms (i + 1)).map fT = (told cs pn ms i).map fT ++ [fT ⟨p.name, begAt cs pn (told cs pn ms i) i p, begAt cs pn (told cs pn ms i) i p + m⟩] := by
  rw [told, row_eq hp hm]; simp
theorem told_spec (h : Has ds d_told_day) (hl : Has ds d_leans) (hb : Has ds d_by_name) (hm : Has ds d_meet) (G : Good cs pn) (hms : ms.length = pn.length) (k : Nat) :
    Y (callK cst fuel ds (k + 3) "told_day" [.tup (cs.map cT), .tup (pn.map pT), .tup (intsL ms)] S) fun t S' => t = .lst ((told cs pn ms pn.length).map fT) ∧ S' = S := by
  refine y_callK h rfl ?_
  simp [d_told_day, startE, getV, Ex.strict, strictAll, newE, Itr.strict]
  refine (leans_spec hl hb hm G _).mono fun t S1 ⟨e, eS⟩ => ?_
  subst e eS
  simp
  have hlen := G.len
  have hz : (zip3T (pn.map pT) (rowsT cs pn pn.length) (intsL ms)).length = pn.length := by rw [zip3T_len]; simp [rowsT, intsL, hms]
  refine y_forI (ToldJ cs pn ms S1) ?_ ?_ ⟨.none, .none, .none, .none, .none, rfl, rfl⟩
  · rintro i x ρ S2 hx ⟨s4, s5, s6, s7, s8, rfl, rfl⟩
    have hi : i < pn.length := by
      have := (List.getElem?_eq_some_iff.mp hx).1
      omega
    have hp : pn[i]? = some pn[i] := List.getElem?_eq_getElem hi
    have hm' : ms[i]? = some (ms[i]'(by omega)) := List.getElem?_eq_getElem (by omega)
    have e := zip3T_get (l := pn.map pT) (r := rowsT cs pn pn.length) (q := intsL ms) (i := i) (t := pT pn[i]) (u := rowT (leanRow cs pn i)) (v := .int (ms[i]'(by omega))) (by simp [hi]) (by simp [rowsT, hi]) (by simp [intsL, hm'])
    rw [hx] at e
    cases e
    have hle := told_len (cs := cs) (pn := pn) (ms := ms) i
    simp [forF, bindTg, setAll, getV, getO, Ex.strict, strictAll, pT, rowT]
    refine y_mapLx (g := fun t => [T.int (match t with | .int j => endAt (told cs pn ms i) j.toNat | _ => 0)]) (fun x hx => ?_) ?_
    · simp only [List.mem_map] at hx
      obtain ⟨j, hj, rfl⟩ := hx
      have hj' : j < (told cs pn ms i).length := by rw [hle]; exact lean_lt hj
      simp [lcF, bindTg, Tg.slots, wipeE, condT, getV, getP, Ex.strict, strictAll, fr_at hj', fT, end_at hj']
    · rw [ends_map]
      have hcat : (intsL (List.map (endAt (told cs pn ms i)) (leanRow cs pn i))).length ≤ 1000 := by
        simp [intsL]
        have : (leanRow cs pn i).length ≤ i := by
          have := List.length_filter_le (meetAt cs pn i) (List.range i)
          simpa [leanRow] using this
        omega
      have hmx : intsT (T.int pn[i].start :: intsL (List.map (endAt (told cs pn ms i)) (leanRow cs pn i))) = some (pn[i].start :: List.map (endAt (told cs pn ms i)) (leanRow cs pn i)) := intsT_ints (pn[i].start :: _)
      simp [hmx, maxI]
      refine ⟨by show 1 + _ ≤ lim; exact Nat.le_trans (by omega : _ ≤ 1001) (by decide), Nat.lt_of_le_of_lt (show _ ≤ 1000 by omega) (by decide), ?_⟩
      exact ⟨_, _, _, _, _, by rw [told_step hp hm']; rfl, rfl⟩
  · rintro ρ S2 ⟨s4, s5, s6, s7, s8, rfl, rfl⟩
    simp [getV, hz]
end
end RD

namespace RD
open PySem

/-- the ends of a begin by counts -/
def endsM (bs : List Int) (u l : Int) : Nat → List Int
  | 0 => []
  | i + 1 => endsM bs u l i ++ [mx (bs.getD i 0 + u) (if 0 < i then bs.getD (i - 1) 0 + l else 0)]
theorem ends_len {bs : List Int} {u l : Int} : ∀ n, (endsM bs u l n).length = n
  | 0 => rfl
  | n + 1 => by simp [endsM, ends_len n]
section
variable {cst : Str → Option T} {fuel : Nat} {ds : List Dn} {S : Store} {cs : List Cs} {pn : List Pn}
def EndJ (bs : List Int) (u l : Int) (S : Store) (i : Nat) (ρ : Env) (S' : Store) : Prop := ∃ s4 s5, ρ = [.val (.lst (intsL bs)), .val (.int u), .val (.int l), .own (intsL (endsM bs u l i)), s4, s5] ∧ S' = S
theorem ends_spec (h : Has ds d_ends) (k : Nat) {bs : List Int} {u l : Int} (hb : bs.length ≤ 1000) : Y (callK cst fuel ds (k + 1) "ends" [.lst (intsL bs), .int u, .int l] S) fun t S' => t = .lst (intsL (endsM bs u l bs.length)) ∧ S' = S := by
  refine y_callK h rfl ?_
  simp [d_ends, startE, getV, Ex.strict, strictAll, newE, Itr.strict]
  refine y_forI (EndJ bs u l S) ?_ ?_ ⟨.none, .none, rfl, rfl⟩
  · rintro i x ρ S1 hx ⟨s4, s5, rfl, rfl⟩
    obtain ⟨t, ht, rfl⟩ := enum_at hx
    have hi : i < bs.length := by
      have := (List.getElem?_eq_some_iff.mp ht).1
      simpa [intsL] using this
    have et : t = .int bs[i] := by
      simp [intsL, hi] at ht
      exact ht.symm
    subst et
    have hlen := ends_len (bs := bs) (u := u) (l := l) i
    have g : bs.getD i 0 = bs[i] := by rw [List.getD_eq_getElem?_getD, List.getElem?_eq_getElem hi]; rfl
    simp [forF, bindTg, setAll, getV, getO, Ex.strict, strictAll]
    by_cases h0 : i = 0
    · subst h0
      refine .inl ⟨rfl, by simp [endsM, intsL], .val (.int 0), .val (.int bs[0]), ?_, rfl⟩
      simp [endsM, intsL, mx, List.getElem?_eq_getElem hi]
    · have hp : 0 < i := by omega
      have ha : L2.atI (intsL bs) ((i : Int) - 1) = some (.int (bs.getD (i - 1) 0)) := by
        have e : ((i : Int) - 1) = ((i - 1 : Nat) : Int) := by omega
        rw [e]
        refine atI_nat ?_
        have hi1 : i - 1 < bs.length := by omega
        rw [List.getD_eq_getElem?_getD, List.getElem?_eq_getElem hi1]
        simp [intsL, List.getElem?_eq_getElem hi1]
      simp [hp, ha]
      refine .inr ⟨Nat.lt_of_le_of_lt (show (intsL (endsM bs u l i)).length ≤ 1000 by simp [intsL, hlen]; omega) (by decide), .val (.int (i : Int)), .val (.int bs[i]), ?_, rfl⟩
      simp [endsM, intsL, mx, List.getElem?_eq_getElem hi, hp]
  · rintro ρ S1 ⟨s4, s5, rfl, rfl⟩
    simp [getV, enumT_len, intsL]
end
end RD

namespace RD
open PySem

section
variable {cst : Str → Option T} {fuel : Nat} {ds : List Dn} {S : Store} {cs : List Cs} {pn : List Pn} {ms : List Int}
def prG (t : T) : T := .tup [match t with | .tup (.str n :: _) => .str n | _ => .non, t]
theorem pairs_map (cs : List Cs) : (cs.map cT).flatMap (fun t => [prG t]) = cs.map fun c => T.tup [.str c.name, cT c] := by
  induction cs with
  | nil => rfl
  | cons c cs ih => simp only [List.map_cons, List.flatMap_cons, List.singleton_append, ih]; rfl
theorem filt_strs (l : List Str) (f : Str → Bool) : ((strsL l).flatMap fun t => if (match t with | .str z => f z | _ => false) = true then [t] else []) = strsL (l.filter f) := by
  induction l with
  | nil => rfl
  | cons a l ih =>
    simp only [strsL, List.map_cons, List.flatMap_cons, List.filter_cons] at *
    by_cases h : f a = true <;> simp [h, ih]
def rowPre (cs : List Cs) (pn : List Pn) (a b : Nat) : List Nat := (List.range b).filter (meetAt cs pn a)
def natsT (l : List Nat) : List T := l.map fun (n : Nat) => T.int (n : Int)
theorem pre_succ {a b : Nat} : rowPre cs pn a (b + 1) = rowPre cs pn a b ++ if meetAt cs pn a b = true then [b] else [] := by
  simp only [rowPre, List.range_succ, List.filter_append, List.filter_cons, List.filter_nil]
theorem pre_len {a b : Nat} : (rowPre cs pn a b).length ≤ b := by
  have := List.length_filter_le (meetAt cs pn a) (List.range b)
  simpa [rowPre] using this
def LL1 (cs : List Cs) (pn : List Pn) (S : Store) (i : Nat) (ρ : Env) (S' : Store) : Prop := ∃ s4 s5 s6 s7 s8 s9 s10, ρ = [.val (.tup (cs.map cT)), .val (.tup (pn.map pT)), .val (.dct (knT cs)), .own (rowsT cs pn i), s4, s5, s6, s7, s8, s9, s10] ∧ S' = S
def LL2 (cs : List Cs) (pn : List Pn) (S : Store) (i : Nat) (p : Pn) (b : Nat) (ρ : Env) (S' : Store) : Prop := ∃ s7 s8 s9 s10, ρ = [.val (.tup (cs.map cT)), .val (.tup (pn.map pT)), .val (.dct (knT cs)), .own (rowsT cs pn i), .val (.int (i : Int)), .val (pT p), .own (natsT (rowPre cs pn i b)), s7, s8, s9, s10] ∧ S' = S
theorem law_leans_spec (h : Has ds d__law_leans) (G : Good cs pn) (k : Nat) : Y (callK cst fuel ds (k + 1) "_law_leans" [.tup (cs.map cT), .tup (pn.map pT)] S) fun t S' => t = .lst (rowsT cs pn pn.length) ∧ S' = S := by
  refine y_callK h rfl ?_
  simp [d__law_leans, startE, getV, Ex.strict, strictAll, newE, Itr.strict]
  refine y_mapLx (g := fun t => [prG t]) (fun x hx => ?_) ?_
  · obtain ⟨c, hc, rfl⟩ := List.mem_map.mp hx
    simp [lcF, bindTg, Tg.slots, wipeE, condT, getV, Ex.strict, strictAll, cT, prG]
  rw [pairs_map]
  simp [pairs_cs]
  have hlen := G.len
  refine y_forI (LL1 cs pn S) ?_ ?_ ⟨.none, .none, .none, .none, .none, .none, .none, rfl, rfl⟩
  · rintro i x ρ S1 hx ⟨s4, s5, s6, s7, s8, s9, s10, rfl, rfl⟩
    obtain ⟨t, ht, rfl⟩ := enum_at hx
    obtain ⟨p, hp, rfl, hpm⟩ := plan_at ht
    have hi : i < pn.length := (List.getElem?_eq_some_iff.mp hp).1
    simp [forF, bindTg, setAll, getV, getO, Ex.strict, strictAll, newE, Itr.strict]
    refine ⟨small_okR (by omega), ?_⟩
    refine y_forI (LL2 cs pn S1 i p) ?_ ?_ ⟨_, _, _, _, rfl, rfl⟩
    · rintro b x ρ S2 hx ⟨s7, s8, s9, s10, rfl, rfl⟩
      have hb : b < i := by simpa using (List.getElem?_eq_some_iff.mp hx).1
      have hx' : x = .int (b : Int) := by
        simp [rngT, hb] at hx
        exact hx.symm
      subst hx'
      obtain ⟨q, hq⟩ : ∃ q, pn[b]? = some q := ⟨_, List.getElem?_eq_getElem (by omega)⟩
      have hqm := List.mem_of_getElem? hq
      have hqt : L2.atI (pn.map pT) (b : Int) = some (pT q) := atI_nat (by simp [hq])
      obtain ⟨c, hc, e1, t1, _⟩ := G.get hpm
      obtain ⟨d, hd, e2, t2, _⟩ := G.get hqm
      have em : meetAt cs pn i b = meetB cs p q := by simp [meetAt, hp, hq]
      simp [forF, bindTg, getV, Ex.strict, strictAll, Itr.strict, pT, e1, cT]
      refine y_mapLx (g := fun t => if (match t with | .str z => d.team.any fun y => y == z | _ => false) = true then [t] else []) (fun x hx => ?_) ?_
      · obtain ⟨z, hz, rfl⟩ := mem_strsL.mp hx
        simp [lcF, bindTg, Tg.slots, wipeE, getV, Ex.strict, strictAll, hqt, pT, e2, cT, in_strs (G.tm c hc z hz) (G.tm d hd)]
        by_cases hz2 : z ∈ d.team
        · refine .inr ⟨hz2, ?_⟩
          simp [condT, hz2, getV]
        · refine .inl ⟨fun x hx e => hz2 (e ▸ hx), ?_⟩
          have : ¬ ∃ x ∈ d.team, x = z := fun ⟨x, hx, e⟩ => hz2 (e ▸ hx)
          simp [condT, hz2]
      · rw [filt_strs]
        have hne : eqT (.lst (strsL (c.team.filter fun z => d.team.any fun y => y == z))) (.lst []) = some (c.team.filter fun z => d.team.any fun y => y == z).isEmpty := by
          rw [eqT_lstNil (pls_strs fun z hz => G.tm c hc z (List.mem_filter.mp hz).1) (by rw [dps_strs]; decide)]
          simp [strsL]
        simp [getV, Ex.strict, strictAll, hqt, pT, eqT_int, hne, getO]
        have hB : meetB cs p q = true ↔ p.room = q.room ∨ ∃ x, x ∈ c.team ∧ x ∈ d.team := by
          simp [meetB, t1, t2]
        have hin : (natsT (rowPre cs pn i b)).length < lim := by
          have := pre_len (cs := cs) (pn := pn) (a := i) (b := b)
          exact Nat.lt_of_le_of_lt (show _ ≤ 1000 by simp [natsT]; omega) (by decide)
        have yes : meetAt cs pn i b = true → natsT (rowPre cs pn i (b + 1)) = natsT (rowPre cs pn i b) ++ [T.int (b : Int)] := fun h => by
          rw [pre_succ, if_pos h]; simp [natsT]
        have no : meetAt cs pn i b = false → natsT (rowPre cs pn i (b + 1)) = natsT (rowPre cs pn i b) := fun h => by
          rw [pre_succ, if_neg (by rw [h]; decide)]; simp
        by_cases hr : p.room = q.room
        · refine .inr ⟨hr, hin, ?_⟩
          have := yes (by rw [em]; exact hB.mpr (.inl hr))
          exact ⟨_, _, _, _, by rw [this]; rfl, rfl⟩
        · refine .inl ⟨hr, ?_⟩
          by_cases ht' : ∃ x, x ∈ c.team ∧ x ∈ d.team
          · refine .inr ⟨ht', hin, ?_⟩
            have := yes (by rw [em]; exact hB.mpr (.inr ht'))
            exact ⟨_, _, _, _, by rw [this]; rfl, rfl⟩
          · refine .inl ⟨fun a ha hd' => ht' ⟨a, ha, hd'⟩, ?_⟩
            have hBf : meetB cs p q = false := by
              cases z : meetB cs p q with
              | false => rfl
              | true => rcases hB.mp z with h | h
                        · exact absurd h hr
                        · exact absurd h ht'
            have := no (by rw [em]; exact hBf)
            exact ⟨_, _, _, _, by rw [this]; rfl, rfl⟩
    · rintro ρ S2 ⟨s7, s8, s9, s10, rfl, rfl⟩
      simp [getV, getO, getP, Ex.strict]
      refine ⟨Nat.lt_of_le_of_lt (show (rowsT cs pn i).length ≤ 1000 by simp [rowsT]; omega) (by decide), ?_⟩
      exact ⟨_, _, _, _, _, _, _, by rw [rows_succ]; rfl, rfl⟩
  · rintro ρ S1 ⟨s4, s5, s6, s7, s8, s9, s10, rfl, rfl⟩
    simp [getV, enumT_len]
end
end RD

namespace RD
open PySem

section
variable {cst : Str → Option T} {fuel : Nat} {ds : List Dn} {S : Store} {cs : List Cs} {pn : List Pn} {ms : List Int}
def LT1 (cs : List Cs) (pn : List Pn) (ms : List Int) (S : Store) (i : Nat) (ρ : Env) (S' : Store) : Prop := ∃ s5 s6 s7 s8, ρ = [.val (.tup (cs.map cT)), .val (.tup (pn.map pT)), .val (.tup (intsL ms)), .own ((told cs pn ms i).map fT), .val (.lst (rowsT cs pn pn.length)), s5, s6, s7, s8] ∧ S' = S
def LT2 (cs : List Cs) (pn : List Pn) (ms : List Int) (S : Store) (i : Nat) (p : Pn) (b : Nat) (ρ : Env) (S' : Store) : Prop := ∃ s8, ρ = [.val (.tup (cs.map cT)), .val (.tup (pn.map pT)), .val (.tup (intsL ms)), .own ((told cs pn ms i).map fT), .val (.lst (rowsT cs pn pn.length)), .val (.int (i : Int)), .val (pT p), .val (.int ((((leanRow cs pn i).map (endAt (told cs pn ms i))).take b).foldl mx p.start)), s8] ∧ S' = S
theorem law_told_spec (h : Has ds d__law_told_day) (hl : Has ds d__law_leans) (G : Good cs pn) (hms : ms.length = pn.length) (k : Nat) :
    Y (callK cst fuel ds (k + 2) "_law_told_day" [.tup (cs.map cT), .tup (pn.map pT), .tup (intsL ms)] S) fun t S' => t = .lst ((told cs pn ms pn.length).map fT) ∧ S' = S := by
  refine y_callK h rfl ?_
  simp [d__law_told_day, startE, getV, Ex.strict, strictAll, newE, Itr.strict]
  refine (law_leans_spec hl G _).mono fun t S1 ⟨e, eS⟩ => ?_
  subst e eS
  have hlen := G.len
  refine y_forI (LT1 cs pn ms S1) ?_ ?_ ⟨.none, .none, .none, .none, rfl, rfl⟩
  · rintro i x ρ S2 hx ⟨s5, s6, s7, s8, rfl, rfl⟩
    obtain ⟨t, ht, rfl⟩ := enum_at hx
    obtain ⟨p, hp, rfl, hpm⟩ := plan_at ht
    have hi : i < pn.length := (List.getElem?_eq_some_iff.mp hp).1
    have hm' : ms[i]? = some (ms[i]'(by omega)) := List.getElem?_eq_getElem (by omega)
    have hle := told_len (cs := cs) (pn := pn) (ms := ms) i
    have hrow : L2.atI (rowsT cs pn pn.length) (i : Int) = some (rowT (leanRow cs pn i)) := atI_nat (by simp [rowsT, hi])
    have hmin : L2.atI (intsL ms) (i : Int) = some (.int (ms[i]'(by omega))) := atI_nat (by simp [intsL, hm'])
    simp [forF, bindTg, setAll, getV, getO, Ex.strict, strictAll, newE, Itr.strict, hrow, rowT, pT]
    refine y_forI (LT2 cs pn ms S2 i p) ?_ ?_ ⟨_, rfl, rfl⟩
    · rintro b x ρ S3 hx ⟨s8, rfl, rfl⟩
      rw [List.getElem?_map, Option.map_eq_some_iff] at hx
      obtain ⟨j, hj, rfl⟩ := hx
      have hjl : j < (told cs pn ms i).length := by rw [hle]; exact lean_lt (List.mem_of_getElem? hj)
      simp [forF, bindTg, getV, getP, Ex.strict, strictAll, fr_at hjl, fT]
      have bstep : (((leanRow cs pn i).map (endAt (told cs pn ms i))).take (b + 1)).foldl mx p.start = mx ((((leanRow cs pn i).map (endAt (told cs pn ms i))).take b).foldl mx p.start) (endAt (told cs pn ms i) j) := by
        rw [List.take_add_one, List.getElem?_map, hj]
        simp [List.foldl_append]
      exact ⟨.val (.int (j : Int)), by rw [bstep, end_at hjl]; rfl, rfl⟩
    · rintro ρ S3 ⟨s8, rfl, rfl⟩
      simp [getV, getO, Ex.strict, strictAll, hmin, pT]
      refine ⟨Nat.lt_of_le_of_lt (show _ ≤ 1000 by omega) (by decide), ?_⟩
      have tk : List.take (leanRow cs pn i).length (List.map (endAt (told cs pn ms i)) (leanRow cs pn i)) = List.map (endAt (told cs pn ms i)) (leanRow cs pn i) := List.take_of_length_le (by simp)
      rw [tk]
      exact ⟨_, _, _, _, by rw [told_step hp hm']; rfl, rfl⟩
  · rintro ρ S2 ⟨s5, s6, s7, s8, rfl, rfl⟩
    simp [getV, enumT_len]
/-! ### usual times, is_smooth -/
def usOf (cs : List Cs) (x : Str) : Int := ((look' cs x).map (·.usual)).getD 0
def usual (cs : List Cs) (pn : List Pn) : List Int := pn.map fun p => usOf cs p.name
theorem map1 {α : Type} (l : List α) (f : α → T) (g : T → T) : (l.map f).flatMap (fun t => [g t]) = l.map fun a => g (f a) := by
  induction l with
  | nil => rfl
  | cons a l ih => simp only [List.map_cons, List.flatMap_cons, List.singleton_append, ih]
theorem Good.us (G : Good cs pn) {p : Pn} (hp : p ∈ pn) : ∃ c ∈ cs, valT (knT cs) (.inr p.name) = some (cT c) ∧ usOf cs p.name = c.usual := by
  obtain ⟨c, hc, e, _, l⟩ := G.get hp
  exact ⟨c, hc, e, by simp [usOf, l]⟩
def usG (cs : List Cs) (t : T) : T := match t with
  | .tup [_, .str x, _] => .int (usOf cs x)
  | _ => .non
theorem usG_map : (pn.map pT).flatMap (fun t => [usG cs t]) = intsL (usual cs pn) := by
  rw [map1]; simp [usG, pT, intsL, usual]
theorem usual_spec (h : Has ds d_usual_times) (hb : Has ds d_by_name) (G : Good cs pn) (k : Nat) : Y (callK cst fuel ds (k + 2) "usual_times" [.tup (cs.map cT), .tup (pn.map pT)] S) fun t S' => t = .tup (intsL (usual cs pn)) ∧ S' = S := by
  refine y_callK h rfl ?_
  simp [d_usual_times, startE, getV, Ex.strict, strictAll]
  refine (by_name_spec hb _ cs).mono fun t S1 ⟨e, eS⟩ => ?_
  subst e eS
  refine y_mapLx (g := fun t => [usG cs t]) (fun x hx => ?_) ?_
  · obtain ⟨p, hp, rfl⟩ := List.mem_map.mp hx
    obtain ⟨c, hc, e, u⟩ := G.us hp
    simp [lcF, bindTg, Tg.slots, wipeE, condT, getV, Ex.strict, strictAll, pT, e, cT, usG, u]
  · rw [usG_map]; simp
theorem eqT_ints (a b : List Int) : eqT (.lst (intsL a)) (.lst (intsL b)) = some (decide (a = b)) := by
  have h : ∀ l : List Int, pls (intsL l) = true := fun l => pls_all fun t ht => by obtain ⟨s, hs, rfl⟩ := mem_intsL.mp ht; rfl
  have hd : ∀ l : List Int, dps (intsL l) = 0 := fun l => Nat.le_zero.mp (dps_all fun t ht => by obtain ⟨s, hs, rfl⟩ := mem_intsL.mp ht; simp [dp])
  rw [eqT_of (by simpa [pl] using h a) (by simpa [pl] using h b) (by simp [dp, hd]) (by simp [dp, hd]), enc_lst (h a), enc_lst (h b)]
  congr 1
  simp only [PyData.eqv]
  induction a generalizing b with
  | nil => cases b <;> simp [intsL, PyData.eqvAll]
  | cons x a ih =>
    cases b with
    | nil => simp [intsL, PyData.eqvAll]
    | cons y b =>
      simp only [intsL, List.map_cons, PyData.eqvAll, enc_int, PyData.eqv] at *
      rw [ih]
      by_cases h1 : x = y <;> by_cases h2 : a = b <;> simp [h1, h2]
def smG (t : T) : T := match t with
  | .tup [.tup [_, .int b, _], .tup [.int s, _, _]] => .bl (decide (b = s))
  | _ => .non
theorem zip_sm : ∀ (fr : List Fr) (pn : List Pn), fr.length = pn.length → (zip2T (fr.map fT) (pn.map pT)).flatMap (fun t => [smG t]) = ((fr.map (·.b)).zipWith (fun a b => decide (a = b)) (pn.map (·.start))).map T.bl := by
  intro fr
  induction fr with
  | nil => intro pn _; cases pn <;> rfl
  | cons f fr ih =>
    intro pn hl
    cases pn with
    | nil => cases hl
    | cons p pn =>
      simp only [List.map_cons, zip2T, List.flatMap_cons, List.singleton_append, List.zipWith_cons_cons]
      rw [ih pn (by simpa using hl)]
      rfl
theorem mem_zip2 {x : T} : ∀ {fr : List Fr} {pn : List Pn}, x ∈ zip2T (fr.map fT) (pn.map pT) → ∃ f p, x = .tup [fT f, pT p]
  | [], _, h => by simp [zip2T] at h
  | _ :: _, [], h => by simp [zip2T] at h
  | f :: fr, p :: pn, h => by
    simp only [List.map_cons, zip2T] at h
    rcases List.mem_cons.mp h with e | h
    · exact ⟨f, p, e⟩
    · exact mem_zip2 h
theorem blsT_map (l : List Bool) : blsT (l.map T.bl) = some l := by
  induction l with
  | nil => rfl
  | cons a l ih => simp [blsT, ih]
theorem zip_all : ∀ (a b : List Int), a.length = b.length → (a.zipWith (fun x y => decide (x = y)) b).all id = decide (a = b)
  | [], [], _ => by simp
  | [], _ :: _, h => by cases h
  | _ :: _, [], h => by cases h
  | x :: a, y :: b, h => by
    simp only [List.zipWith_cons_cons, List.all_cons, zip_all a b (by simpa using h), id]
    by_cases h1 : x = y <;> by_cases h2 : a = b <;> simp [h1, h2]
def smooth (cs : List Cs) (pn : List Pn) : Bool := decide ((told cs pn (usual cs pn) pn.length).map (·.b) = pn.map (·.start))
theorem smooth_spec (h : Has ds d_is_smooth) (ht : Has ds d_told_day) (hu : Has ds d_usual_times) (hl : Has ds d_leans) (hb : Has ds d_by_name) (hm : Has ds d_meet) (G : Good cs pn) (k : Nat) :
    Y (callK cst fuel ds (k + 4) "is_smooth" [.tup (cs.map cT), .tup (pn.map pT)] S) fun t S' => t = .bl (smooth cs pn) ∧ S' = S := by
  refine y_callK h rfl ?_
  simp [d_is_smooth, startE, getV, Ex.strict, strictAll]
  refine (usual_spec hu hb G _).mono fun t S1 ⟨e, eS⟩ => ?_
  subst e eS
  refine (told_spec ht hl hb hm G (by simp [usual]) _).mono fun t S2 ⟨e, eS⟩ => ?_
  subst e eS
  have hlen := told_len (cs := cs) (pn := pn) (ms := usual cs pn) pn.length
  unfold smooth
  generalize told cs pn (usual cs pn) pn.length = fr at hlen
  simp only [seq_lst, Option.some.injEq, exists_eq_left']
  refine y_mapLx (g := fun t => [smG t]) (fun x hx => ?_) ?_
  · obtain ⟨f, p, rfl⟩ := mem_zip2 hx
    simp [lcF, bindTg, setAll, Tg.slots, wipeE, condT, getV, Ex.strict, strictAll, eqT_int, fT, pT, smG]
    exact (Classical.em _).symm
  · rw [zip_sm fr pn hlen]
    exact ⟨_, ⟨_, blsT_map _, rfl⟩, by rw [zip_all _ _ (by simpa using hlen)], rfl⟩
end
end RD

namespace RD
open PySem

def loOf (cs : List Cs) (x : Str) : Int := ((look' cs x).map (·.longest)).getD 0
structure Rw where
  bs : List Int
  es : List Int
def rwT (r : Rw) : T := .tup [.lst (intsL r.bs), .lst (intsL r.es)]
def eAt (prev : List Rw) (c j : Nat) : Int := ((prev[j]?).map fun r => r.es.getD c 0).getD 0
def bsAt (cs : List Cs) (pn : List Pn) (m : Nat) (prev : List Rw) (i : Nat) (p : Pn) : List Int := (List.range (m + 1)).map fun c => ((leanRow cs pn i).map (eAt prev c)).foldl mx p.start
def rwAt (cs : List Cs) (pn : List Pn) (m : Nat) (prev : List Rw) (i : Nat) : Rw := match pn[i]? with
  | some p => ⟨bsAt cs pn m prev i p, endsM (bsAt cs pn m prev i p) (usOf cs p.name) (loOf cs p.name) (m + 1)⟩
  | none => ⟨[], []⟩
def tabM (cs : List Cs) (pn : List Pn) (m : Nat) : Nat → List Rw
  | 0 => []
  | i + 1 => tabM cs pn m i ++ [rwAt cs pn m (tabM cs pn m i) i]
section
variable {cst : Str → Option T} {fuel : Nat} {ds : List Dn} {S : Store} {cs : List Cs} {pn : List Pn} {m : Nat}
theorem tab_len : ∀ n, (tabM cs pn m n).length = n
  | 0 => rfl
  | n + 1 => by simp [tabM, tab_len n]
theorem bsAt_len {prev : List Rw} {i : Nat} {p : Pn} : (bsAt cs pn m prev i p).length = m + 1 := by simp [bsAt]
theorem tab_row (G : Good cs pn) : ∀ n, n ≤ pn.length → ∀ r ∈ tabM cs pn m n, r.bs.length = m + 1 ∧ r.es.length = m + 1
  | 0, _, r, h => by cases h
  | n + 1, hn, r, h => by
    rw [tabM] at h
    rcases List.mem_append.mp h with h | h
    · exact tab_row G n (by omega) r h
    · have hp : pn[n]? = some pn[n] := List.getElem?_eq_getElem (by omega)
      rw [List.mem_singleton.mp h]
      simp [rwAt, hp, bsAt_len, ends_len]
theorem Good.ul (G : Good cs pn) {p : Pn} (hp : p ∈ pn) : ∃ c ∈ cs, valT (knT cs) (.inr p.name) = some (cT c) ∧ usOf cs p.name = c.usual ∧ loOf cs p.name = c.longest := by
  obtain ⟨c, hc, e, _, l⟩ := G.get hp
  exact ⟨c, hc, e, by simp [usOf, l], by simp [loOf, l]⟩
theorem tab_step {i : Nat} {p : Pn} (hp : pn[i]? = some p) : (tabM cs pn m (i + 1)).map rwT = (tabM cs pn m i).map rwT ++ [rwT ⟨bsAt cs pn m (tabM cs pn m i) i p, endsM (bsAt cs pn m (tabM cs pn m i) i p) (usOf cs p.name) (loOf cs p.name) (m + 1)⟩] := by
  rw [tabM]; simp [rwAt, hp]
theorem rw_at {l : List Rw} {j : Nat} (h : j < l.length) : L2.atI (l.map rwT) (j : Int) = some (rwT l[j]) := atI_nat (by simp [h])
theorem ints_at {l : List Int} {j : Nat} (h : j < l.length) : L2.atI (intsL l) (j : Int) = some (.int (l.getD j 0)) := atI_nat (by rw [List.getD_eq_getElem?_getD, List.getElem?_eq_getElem h]; simp [intsL, h])
theorem eAt_eq {l : List Rw} {j c : Nat} (h : j < l.length) : eAt l c j = l[j].es.getD c 0 := by simp [eAt, List.getElem?_eq_getElem h]
theorem lean_len {i : Nat} : (leanRow cs pn i).length ≤ i := by
  have := List.length_filter_le (meetAt cs pn i) (List.range i)
  simpa [leanRow] using this
def nG (f : Nat → Int) (t : T) : T := T.int (match t with | .int j => f j.toNat | _ => 0)
theorem nG_map (l : List Nat) (f : Nat → Int) : ((l.map fun (n : Nat) => T.int (n : Int)).flatMap fun t => [nG f t]) = intsL (l.map f) := by
  rw [map1]; simp [nG, intsL]
def bsG (cs : List Cs) (pn : List Pn) (prev : List Rw) (i : Nat) (p : Pn) (t : T) : T := T.int (match t with | .int c => ((leanRow cs pn i).map (eAt prev c.toNat)).foldl mx p.start | _ => 0)
theorem rng_map (n : Nat) (g : T → T) : (rngT 0 n).flatMap (fun t => [g t]) = (List.range n).map fun (c : Nat) => g (.int (c : Int)) := by
  unfold rngT
  rw [map1]
  simp
theorem bsG_map {prev : List Rw} {i : Nat} {p : Pn} : (rngT 0 (m + 1)).flatMap (fun t => [bsG cs pn prev i p t]) = intsL (bsAt cs pn m prev i p) := by
  rw [rng_map]
  simp [bsG, bsAt, intsL]
def TabJ (cs : List Cs) (pn : List Pn) (m : Nat) (S : Store) (i : Nat) (ρ : Env) (S' : Store) : Prop := ∃ s5 s6 s7 s8 s9, ρ = [.val (.tup (cs.map cT)), .val (.tup (pn.map pT)), .val (.int (m : Int)), .val (.dct (knT cs)), .own ((tabM cs pn m i).map rwT), s5, s6, s7, s8, s9] ∧ S' = S
theorem table_spec (h : Has ds d_table) (hl : Has ds d_leans) (hb : Has ds d_by_name) (hm : Has ds d_meet) (he : Has ds d_ends) (G : Good cs pn) (hm0 : m ≤ 100) (k : Nat) :
    Y (callK cst fuel ds (k + 3) "table" [.tup (cs.map cT), .tup (pn.map pT), .int (m : Int)] S) fun t S' => t = .lst ((tabM cs pn m pn.length).map rwT) ∧ S' = S := by
  refine y_callK h rfl ?_
  simp [d_table, startE, getV, Ex.strict, strictAll, newE, Itr.strict]
  refine (by_name_spec hb _ cs).mono fun t S1 ⟨e, eS⟩ => ?_
  subst e eS
  refine (leans_spec hl hb hm G _).mono fun t S1 ⟨e, eS⟩ => ?_
  subst e eS
  simp
  have hlen := G.len
  have hz : (zip2T (pn.map pT) (rowsT cs pn pn.length)).length = pn.length := by rw [zip2T_len]; simp [rowsT]
  refine y_forI (TabJ cs pn m S1) ?_ ?_ ⟨.none, .none, .none, .none, .none, rfl, rfl⟩
  · rintro i x ρ S2 hx ⟨s5, s6, s7, s8, s9, rfl, rfl⟩
    have hi : i < pn.length := by
      have := (List.getElem?_eq_some_iff.mp hx).1
      omega
    have hp : pn[i]? = some pn[i] := List.getElem?_eq_getElem hi
    have e := zip2T_get (l := pn.map pT) (r := rowsT cs pn pn.length) (i := i) (t := pT pn[i]) (u := rowT (leanRow cs pn i)) (by simp [hi]) (by simp [rowsT, hi])
    rw [hx] at e
    cases e
    have hle := tab_len (cs := cs) (pn := pn) (m := m) i
    obtain ⟨c, hc, ec, u, lo⟩ := G.ul (List.getElem_mem hi)
    have hrows := tab_row (m := m) G i (by omega)
    simp [forF, bindTg, setAll, getV, getO, Ex.strict, strictAll, pT, rowT]
    refine ⟨okR_small (by omega) (by omega), ?_⟩
    refine y_mapLx (g := fun t => [bsG cs pn (tabM cs pn m i) i pn[i] t]) (fun x hx => ?_) ?_
    · obtain ⟨b, hb', rfl⟩ := mem_rng hx
      simp [lcF, bindTg, Tg.slots, wipeE, condT, getV, getP, Ex.strict, strictAll]
      refine y_mapLx (g := fun t => [nG (eAt (tabM cs pn m i) b) t]) (fun x hx => ?_) ?_
      · simp only [List.mem_map] at hx
        obtain ⟨j, hj, rfl⟩ := hx
        have hj' : j < (tabM cs pn m i).length := by rw [hle]; exact lean_lt hj
        have hes : b < ((tabM cs pn m i)[j]).es.length := by rw [(hrows _ (List.getElem_mem hj')).2]; exact hb'
        simp [lcF, bindTg, Tg.slots, wipeE, condT, getV, getP, Ex.strict, strictAll, rw_at hj', rwT, ints_at hes, eAt_eq hj', nG]
      · rw [nG_map]
        have hmx : intsT (T.int pn[i].start :: intsL (List.map (eAt (tabM cs pn m i) b) (leanRow cs pn i))) = some (pn[i].start :: List.map (eAt (tabM cs pn m i) b) (leanRow cs pn i)) := intsT_ints (pn[i].start :: _)
        have hcat : (intsL (List.map (eAt (tabM cs pn m i) b) (leanRow cs pn i))).length ≤ 1000 := by
          simp [intsL]
          have := lean_len (cs := cs) (pn := pn) (i := i)
          omega
        simp [hmx, maxI]
        exact ⟨by show 1 + _ ≤ lim; exact Nat.le_trans (by omega : _ ≤ 1001) (by decide), rfl⟩
    · rw [bsG_map]
      simp [pT, ec, cT]
      refine (ends_spec he _ (by rw [bsAt_len]; omega)).mono fun t S3 ⟨e, eS⟩ => ?_
      subst e eS
      refine ⟨Nat.lt_of_le_of_lt (show _ ≤ 1000 by omega) (by decide), ?_⟩
      exact ⟨_, _, _, _, _, by rw [tab_step hp, bsAt_len, u, lo]; rfl, rfl⟩
  · rintro ρ S2 ⟨s5, s6, s7, s8, s9, rfl, rfl⟩
    simp [getV, hz]
/-- frames of the latest begins and ends -/
def latM (cs : List Cs) (pn : List Pn) (m : Nat) : List Fr := (pn.zip (tabM cs pn m pn.length)).map fun q => ⟨q.1.name, q.2.bs.getD m 0, q.2.es.getD m 0⟩
theorem atI_last {l : List Int} {n : Nat} (h : l.length = n + 1) : L2.atI (intsL l) (-1) = some (.int (l.getD n 0)) := by
  have h' : (intsL l).length = n + 1 := by simpa [intsL] using h
  have := ints_at (l := l) (j := n) (by omega)
  unfold L2.atI L2.ixN at this ⊢
  rw [if_pos (by omega), if_pos (by omega)] at this
  rw [if_neg (by omega), if_pos (by omega)]
  rw [h']
  have e : ((-1 : Int) + ((n : Int) + 1)).toNat = n := by omega
  simpa [e] using this
def laG (m : Nat) (t : T) : T := match t with
  | .tup [.tup [_, .str x, _], .tup [.lst b, .lst e]] => .tup [.str x, (b.getD m .non), (e.getD m .non)]
  | _ => .non
theorem zip2_map {α β : Type} (f : α → T) (g : β → T) : ∀ (l : List α) (r : List β), zip2T (l.map f) (r.map g) = (l.zip r).map fun q => T.tup [f q.1, g q.2]
  | [], _ => by simp [zip2T]
  | _ :: _, [] => by simp [zip2T]
  | a :: l, b :: r => by simp [zip2T, zip2_map f g l r]
theorem getD_ints' {l : List Int} {n : Nat} (h : n < l.length) : (intsL l)[n]?.getD .non = .int (l[n]?.getD 0) := by
  simp [intsL, List.getElem?_eq_getElem h]
theorem getD_ints {l : List Int} {n : Nat} (h : n < l.length) : (intsL l).getD n .non = .int (l.getD n 0) := by
  simp [intsL, List.getD_eq_getElem?_getD, List.getElem?_eq_getElem h]
theorem latest_spec (h : Has ds d_latest) (ht : Has ds d_table) (hl : Has ds d_leans) (hb : Has ds d_by_name) (hm : Has ds d_meet) (he : Has ds d_ends) (G : Good cs pn) (hm0 : m ≤ 100) (k : Nat) :
    Y (callK cst fuel ds (k + 4) "latest" [.tup (cs.map cT), .tup (pn.map pT), .int (m : Int)] S) fun t S' => t = .lst ((latM cs pn m).map fT) ∧ S' = S := by
  refine y_callK h rfl ?_
  simp [d_latest, startE, getV, Ex.strict, strictAll, newE, Itr.strict]
  refine (table_spec ht hl hb hm he G hm0 _).mono fun t S1 ⟨e, eS⟩ => ?_
  subst e eS
  simp
  have hrows := tab_row (m := m) G pn.length (Nat.le_refl _)
  refine y_mapLx (g := fun t => [laG m t]) (fun x hx => ?_) ?_
  · rw [zip2_map] at hx
    obtain ⟨q, hq, rfl⟩ := List.mem_map.mp hx
    obtain ⟨p, r⟩ := q
    have hr := hrows r (List.of_mem_zip hq).2
    simp [lcF, bindTg, setAll, Tg.slots, wipeE, condT, getV, Ex.strict, strictAll, pT, rwT, atI_last hr.1, atI_last hr.2, laG, getD_ints' (l := r.bs) (n := m) (by omega), getD_ints' (l := r.es) (n := m) (by omega)]
  · rw [zip2_map, map1]
    simp only [latM, List.map_map]
    refine ⟨List.map_congr_left fun q hq => ?_, trivial⟩
    obtain ⟨p, r⟩ := q
    have hr := hrows r (List.of_mem_zip hq).2
    simp only [laG, pT, rwT, Function.comp, fT]
    rw [getD_ints (by omega), getD_ints (by omega)]
end
end RD

/-! Plain law: the table by counts is the latest over all days within a count. -/
namespace RD
open PySem

theorem mx_le {a b x : Int} : mx a b ≤ x ↔ a ≤ x ∧ b ≤ x := by unfold mx; split <;> omega
theorem le_mxl {a b : Int} : a ≤ mx a b := by unfold mx; split <;> omega
theorem le_mxr {a b : Int} : b ≤ mx a b := by unfold mx; split <;> omega
theorem mx_or {a b : Int} : mx a b = a ∨ mx a b = b := by unfold mx; split <;> simp
theorem fmx_le {l : List Int} : ∀ {s x : Int}, l.foldl mx s ≤ x ↔ s ≤ x ∧ ∀ y ∈ l, y ≤ x := by
  induction l with
  | nil => intro s x; simp
  | cons a l ih =>
    intro s x
    simp only [List.foldl_cons, ih, mx_le, List.mem_cons, forall_eq_or_imp, and_assoc]
theorem fmx_init {l : List Int} {s : Int} : s ≤ l.foldl mx s := (fmx_le.mp (Int.le_refl (l.foldl mx s))).1
theorem fmx_mem {l : List Int} {s y : Int} (h : y ∈ l) : y ≤ l.foldl mx s := (fmx_le.mp (Int.le_refl (l.foldl mx s))).2 y h
theorem fmx_or {l : List Int} : ∀ {s : Int}, l.foldl mx s = s ∨ l.foldl mx s ∈ l := by
  induction l with
  | nil => intro s; simp
  | cons a l ih =>
    intro s
    simp only [List.foldl_cons]
    rcases ih (s := mx s a) with h | h
    · rw [h]
      rcases mx_or (a := s) (b := a) with h | h <;> rw [h] <;> simp
    · exact .inr (List.mem_cons_of_mem _ h)
theorem fmx_eq {l : List Int} {s x : Int} (h1 : ∀ y ∈ l, y ≤ x) (h2 : s ≤ x) (h3 : x = s ∨ x ∈ l) : l.foldl mx s = x := by
  refine Int.le_antisymm (fmx_le.mpr ⟨h2, h1⟩) ?_
  rcases h3 with rfl | h
  · exact fmx_init
  · exact fmx_mem h
/-- how many of the places below one are set -/
def cnt (f : Nat → Bool) : Nat → Nat
  | 0 => 0
  | i + 1 => cnt f i + if f i = true then 1 else 0
theorem cnt_mono {f : Nat → Bool} {i j : Nat} (h : i ≤ j) : cnt f i ≤ cnt f j := by
  induction j with
  | zero => rw [Nat.le_zero.mp h]; exact Nat.le_refl _
  | succ j ih =>
    rcases Nat.lt_or_ge j i with h' | h'
    · rw [show i = j + 1 by omega]; exact Nat.le_refl _
    · exact Nat.le_trans (ih h') (Nat.le_add_right _ _)
theorem cnt_congr {f g : Nat → Bool} {i : Nat} (h : ∀ j < i, f j = g j) : cnt f i = cnt g i := by
  induction i with
  | zero => rfl
  | succ i ih => simp only [cnt]; rw [ih fun j hj => h j (by omega), h i (by omega)]
theorem cnt_zero {f : Nat → Bool} {i : Nat} (h : ∀ j < i, f j = false) : cnt f i = 0 := by
  induction i with
  | zero => rfl
  | succ i ih => simp only [cnt]; rw [ih fun j hj => h j (by omega), h i (by omega)]; rfl
structure Wd where
  n : Nat
  s : Nat → Int
  u : Nat → Int
  l : Nat → Int
  row : Nat → List Nat
structure Wd.Ok (W : Wd) : Prop where
  row : ∀ i j, j ∈ W.row i → j < i
  s0 : ∀ i < W.n, 0 ≤ W.s i
  u0 : ∀ i < W.n, 1 ≤ W.u i
  ul : ∀ i < W.n, W.u i ≤ W.l i
/-- a day on which the set places take their longest -/
def Wd.IsDay (W : Wd) (f : Nat → Bool) (B E : Nat → Int) : Prop := ∀ i < W.n, B i = ((W.row i).map E).foldl mx (W.s i) ∧ E i = B i + (if f i = true then W.l i else W.u i)
def Wd.IsTab (W : Wd) (TB TE : Nat → Nat → Int) : Prop := ∀ i < W.n, ∀ c, TB i c = ((W.row i).map fun j => TE j c).foldl mx (W.s i) ∧ TE i c = mx (TB i c + W.u i) (if 0 < c then TB i (c - 1) + W.l i else 0)
section
variable {W : Wd} (O : W.Ok) {TB TE : Nat → Nat → Int} (HT : W.IsTab TB TE)
include O HT
theorem tab_upper {f : Nat → Bool} {B E : Nat → Int} (HD : W.IsDay f B E) : ∀ i, i < W.n → ∀ c, (cnt f i ≤ c → B i ≤ TB i c) ∧ (cnt f (i + 1) ≤ c → E i ≤ TE i c) := by
  intro i
  induction i using Nat.strongRecOn with
  | _ i ih =>
    intro hi
    have hB : ∀ c, cnt f i ≤ c → B i ≤ TB i c := fun c hc => by
      rw [(HD i hi).1, (HT i hi c).1, fmx_le]
      refine ⟨fmx_init, fun y hy => ?_⟩
      obtain ⟨j, hj, rfl⟩ := List.mem_map.mp hy
      have hji := O.row i j hj
      have := (ih j hji (by omega) c).2 (Nat.le_trans (cnt_mono hji) hc)
      exact Int.le_trans this (fmx_mem (List.mem_map.mpr ⟨j, hj, rfl⟩))
    intro c
    refine ⟨hB c, fun hc => ?_⟩
    rw [(HD i hi).2, (HT i hi c).2]
    cases hf : f i with
    | true =>
      simp only [cnt, hf, if_pos] at hc
      have := hB (c - 1) (by omega)
      rw [if_pos rfl, if_pos (by omega)]
      exact Int.le_trans (by omega) le_mxr
    | false =>
      simp only [cnt, hf] at hc
      have := hB c (by simpa using hc)
      refine Int.le_trans ?_ le_mxl
      simpa using this
theorem tab_nonneg : ∀ i, i < W.n → ∀ c, 0 ≤ TB i c := fun i hi c => by
  rw [(HT i hi c).1]
  exact Int.le_trans (O.s0 i hi) fmx_init
end
theorem day_congr {W : Wd} (O : W.Ok) {f g : Nat → Bool} {B E B' E' : Nat → Int} (h1 : W.IsDay f B E) (h2 : W.IsDay g B' E') : ∀ i, i < W.n → (∀ j < i, f j = g j) → B i = B' i ∧ (f i = g i → E i = E' i) := by
  intro i
  induction i using Nat.strongRecOn with
  | _ i ih =>
    intro hi hfg
    have hb : B i = B' i := by
      rw [(h1 i hi).1, (h2 i hi).1]
      congr 1
      refine List.map_congr_left fun j hj => ?_
      have hji := O.row i j hj
      exact (ih j hji (by omega) fun k hk => hfg k (by omega)).2 (hfg j hji)
    exact ⟨hb, fun e => by rw [(h1 i hi).2, (h2 i hi).2, hb, e]⟩
section
variable {W : Wd} (O : W.Ok) {TB TE : Nat → Nat → Int} (HT : W.IsTab TB TE) {DB DE : (Nat → Bool) → Nat → Int} (HD : ∀ f, W.IsDay f (DB f) (DE f))
include O HT HD
theorem tab_reach : ∀ i, i < W.n → ∀ c, (∃ f : Nat → Bool, (∀ j, i ≤ j → f j = false) ∧ cnt f i ≤ c ∧ DB f i = TB i c) ∧ (∃ f : Nat → Bool, (∀ j, i < j → f j = false) ∧ cnt f (i + 1) ≤ c ∧ DE f i = TE i c) := by
  intro i
  induction i using Nat.strongRecOn with
  | _ i ih =>
    intro hi
    have hB : ∀ c, ∃ f : Nat → Bool, (∀ j, i ≤ j → f j = false) ∧ cnt f i ≤ c ∧ DB f i = TB i c := fun c => by
      rcases fmx_or (l := (W.row i).map fun j => TE j c) (s := W.s i) with h | h
      · refine ⟨fun _ => false, fun _ _ => rfl, by rw [cnt_zero fun _ _ => rfl]; exact Nat.zero_le _, ?_⟩
        refine Int.le_antisymm (((tab_upper O HT (HD _) i hi c).1 (by rw [cnt_zero fun _ _ => rfl]; exact Nat.zero_le _))) ?_
        rw [(HT i hi c).1, h, (HD _ i hi).1]
        exact fmx_init
      · obtain ⟨j, hj, ej⟩ := List.mem_map.mp h
        have hji := O.row i j hj
        obtain ⟨f, f1, f2, f3⟩ := (ih j hji (by omega) c).2
        have hc : cnt f i ≤ c := by
          have : cnt f i = cnt f (j + 1) := by
            have key : ∀ k, j + 1 ≤ k → cnt f k = cnt f (j + 1) := fun k => by
              induction k with
              | zero => intro h; omega
              | succ k ik =>
                intro h
                rcases Nat.lt_or_ge k (j + 1) with h' | h'
                · rw [show k = j by omega]
                · simp only [cnt]; rw [ik h', f1 k (by omega)]; rfl
            exact key i hji
          omega
        refine ⟨f, fun k hk => f1 k (by omega), hc, ?_⟩
        refine Int.le_antisymm ((tab_upper O HT (HD _) i hi c).1 hc) ?_
        rw [(HT i hi c).1, ← ej, ← f3, (HD _ i hi).1]
        exact fmx_mem (List.mem_map.mpr ⟨j, hj, rfl⟩)
    refine fun c => ⟨hB c, ?_⟩
    have first : TE i c = TB i c + W.u i → ∃ f : Nat → Bool, (∀ j, i < j → f j = false) ∧ cnt f (i + 1) ≤ c ∧ DE f i = TE i c := fun e => by
      obtain ⟨f, f1, f2, f3⟩ := hB c
      refine ⟨f, fun j hj => f1 j (by omega), by simp only [cnt]; rw [f1 i (Nat.le_refl _)]; simpa using f2, ?_⟩
      rw [(HD f i hi).2, f1 i (Nat.le_refl _), e, f3]; rfl
    rcases mx_or (a := TB i c + W.u i) (b := if 0 < c then TB i (c - 1) + W.l i else 0) with h | h
    · exact first (by rw [(HT i hi c).2, h])
    · by_cases hc : 0 < c
      · rw [if_pos hc] at h
        obtain ⟨f, f1, f2, f3⟩ := hB (c - 1)
        refine ⟨fun j => f j || decide (j = i), fun j hj => by simp [f1 j (by omega)]; omega, ?_, ?_⟩
        · have : cnt (fun j => f j || decide (j = i)) i = cnt f i := cnt_congr fun j hj => by simp; intro e; omega
          simp only [cnt, this]
          simp
          omega
        · have hb := (day_congr O (HD f) (HD fun j => f j || decide (j = i)) i hi fun j hj => by simp; intro e; omega).1
          rw [(HD _ i hi).2, ← hb, f3, (HT i hi c).2]
          rw [if_pos hc, h]
          simp
      · rw [if_neg hc] at h
        refine first ?_
        rw [(HT i hi c).2, if_neg hc]
        have h0 := tab_nonneg O HT i hi c
        have h1 := O.u0 i hi
        unfold mx
        split <;> omega
end
end RD

namespace RD
open PySem

/-! ### lots -/
def lotsM (m : Nat) : Nat → List (List Nat)
  | 0 => [[]]
  | n + 1 => lotsM m n ++ ((lotsM m n).filter fun L => decide (L.length < m)).map (· ++ [n])
theorem cnt_filter (f : Nat → Bool) : ∀ n, ((List.range n).filter f).length = cnt f n
  | 0 => rfl
  | n + 1 => by
    rw [List.range_succ, List.filter_append, List.length_append, cnt_filter f n]
    simp only [cnt, List.filter_cons, List.filter_nil]
    cases f n <;> simp
theorem filter_congr' {f g : Nat → Bool} {n : Nat} (h : ∀ i < n, f i = g i) : (List.range n).filter f = (List.range n).filter g := by
  refine List.filter_congr fun x hx => h x (List.mem_range.mp hx)
theorem lots_mem {m : Nat} : ∀ {n : Nat} {L : List Nat}, L ∈ lotsM m n ↔ ∃ f, L = (List.range n).filter f ∧ cnt f n ≤ m
  | 0, L => by
    simp only [lotsM, List.mem_singleton]
    exact ⟨fun h => ⟨fun _ => false, by simp [h], by simp [cnt]⟩, fun ⟨f, h, _⟩ => by simpa using h⟩
  | n + 1, L => by
    simp only [lotsM, List.mem_append, List.mem_map, List.mem_filter, decide_eq_true_eq]
    constructor
    · rintro (h | ⟨L', ⟨h, hl⟩, rfl⟩)
      · obtain ⟨f, rfl, hc⟩ := lots_mem.mp h
        have e : ∀ i < n, f i = (fun i => f i && decide (i < n)) i := fun i hi => by simp [hi]
        refine ⟨fun i => f i && decide (i < n), ?_, ?_⟩
        · rw [List.range_succ, List.filter_append, ← filter_congr' e]; simp
        · simp only [cnt]; rw [← cnt_congr e]; simpa using hc
      · obtain ⟨f, rfl, hc⟩ := lots_mem.mp h
        rw [cnt_filter] at hl
        have e : ∀ i < n, f i = (fun i => f i || decide (i = n)) i := fun i hi => by simp; omega
        refine ⟨fun i => f i || decide (i = n), ?_, ?_⟩
        · rw [List.range_succ, List.filter_append, ← filter_congr' e]; simp
        · simp only [cnt]; rw [← cnt_congr e]; simp; omega
    · rintro ⟨f, rfl, hc⟩
      simp only [cnt] at hc
      rw [List.range_succ, List.filter_append]
      cases hf : f n with
      | false => exact .inl (by simp [hf]; exact lots_mem.mpr ⟨f, rfl, by simpa [hf] using hc⟩)
      | true =>
        refine .inr ⟨(List.range n).filter f, ⟨lots_mem.mpr ⟨f, rfl, by omega⟩, by rw [cnt_filter]; simp [hf] at hc; omega⟩, by simp [hf]⟩
theorem lots_len {m : Nat} : ∀ n, (lotsM m n).length ≤ 2 ^ n
  | 0 => by simp [lotsM]
  | n + 1 => by
    have h1 := lots_len (m := m) n
    have h2 := List.length_filter_le (fun L => decide (L.length < m)) (lotsM m n)
    simp only [lotsM, List.length_append, List.length_map]
    rw [Nat.pow_succ]; omega
theorem lots_each {m n : Nat} {L : List Nat} (h : L ∈ lotsM m n) : L.length ≤ n := by
  obtain ⟨f, rfl, _⟩ := lots_mem.mp h
  have := List.length_filter_le f (List.range n)
  simpa using this
theorem lots_cnt {m n : Nat} {L : List Nat} (h : L ∈ lotsM m n) : cnt (fun i => decide (i ∈ L)) n ≤ m := by
  obtain ⟨f, rfl, hc⟩ := lots_mem.mp h
  rw [cnt_congr (g := f)]
  · exact hc
  · intro j hj; simp [hj]
section
variable {cst : Str → Option T} {fuel : Nat} {ds : List Dn} {S : Store} {cs : List Cs} {pn : List Pn} {m : Nat}
def LotJ (n m : Nat) (S : Store) (i : Nat) (ρ : Env) (S' : Store) : Prop := ∃ s3 s4, ρ = [.val (.int (n : Int)), .val (.int (m : Int)), .val (.lst ((lotsM m i).map rowT)), s3, s4] ∧ S' = S
def loG (m i : Nat) (t : T) : List T := match t with
  | .tup l => if l.length < m then [.tup (l ++ [.int (i : Int)])] else []
  | _ => []
theorem loG_map (i : Nat) (Ls : List (List Nat)) : (Ls.map rowT).flatMap (loG m i) = ((Ls.filter fun L => decide (L.length < m)).map (· ++ [i])).map rowT := by
  induction Ls with
  | nil => rfl
  | cons L Ls ih =>
    simp only [List.map_cons, List.flatMap_cons, ih, List.filter_cons, loG, rowT]
    by_cases h : L.length < m <;> simp [h, rowT]
theorem lots_spec (h : Has ds d__law_lots) {n : Nat} (hn : n ≤ 12) (hm : m ≤ 1000) (k : Nat) : Y (callK cst fuel ds (k + 1) "_law_lots" [.int (n : Int), .int (m : Int)] S) fun t S' => t = .lst ((lotsM m n).map rowT) ∧ S' = S := by
  refine y_callK h rfl ?_
  simp [d__law_lots, startE, getV, Ex.strict, strictAll, newE, Itr.strict]
  refine ⟨okR_small (by omega) (by omega), ?_⟩
  refine y_forI (LotJ n m S) ?_ ?_ ⟨.none, .none, rfl, rfl⟩
  · rintro i x ρ S1 hx ⟨s3, s4, rfl, rfl⟩
    have hi : i < n := by simpa using (List.getElem?_eq_some_iff.mp hx).1
    have hx' : x = .int (i : Int) := by
      simp [rngT, hi] at hx
      exact hx.symm
    subst hx'
    simp [forF, bindTg, getV, Ex.strict, strictAll, Itr.strict]
    refine y_mapLx (g := loG m i) (fun x hx => ?_) ?_
    · obtain ⟨L, hL, rfl⟩ := List.mem_map.mp hx
      have hl := lots_each hL
      simp [lcF, bindTg, Tg.slots, wipeE, getV, Ex.strict, strictAll, rowT, loG]
      by_cases h : L.length < m
      · simp [h, condT, getV, Ex.strict, strictAll]
        exact Nat.le_trans (show L.length + 1 ≤ 100 by omega) (by decide)
      · simp [h, condT]
        omega
    · rw [loG_map]
      have hl := lots_len (m := m) i
      have hl2 := List.length_filter_le (fun L => decide (L.length < m)) (lotsM m i)
      have hp : 2 ^ i ≤ 2 ^ 12 := Nat.pow_le_pow_right (by decide) (by omega)
      refine ⟨?_, _, _, by rw [lotsM, List.map_append], rfl⟩
      simp only [List.length_map]
      exact Nat.le_trans (Nat.add_le_add (Nat.le_trans hl hp) (Nat.le_trans hl2 (Nat.le_trans hl hp))) (by decide)
  · rintro ρ S1 ⟨s3, s4, rfl, rfl⟩
    simp [getV]
/-! ### the times of a lot -/
def nmAt (pn : List Pn) (i : Nat) : Str := ((pn[i]?).map (·.name)).getD ⟨#[]⟩
def timesF (cs : List Cs) (pn : List Pn) (f : Nat → Bool) : List Int := (List.range pn.length).map fun i => if f i = true then loOf cs (nmAt pn i) else usOf cs (nmAt pn i)
def inL (L : List Nat) (i : Nat) : Bool := decide (i ∈ L)
theorem in_row {i : Nat} {L : List Nat} : inT (.int (i : Int)) (rowT L) = some (inL L i) := by
  have h : pls (L.map fun (n : Nat) => T.int (n : Int)) = true := pls_all fun t ht => by obtain ⟨n, _, rfl⟩ := List.mem_map.mp ht; rfl
  have hd : dps (L.map fun (n : Nat) => T.int (n : Int)) ≤ 0 := dps_all fun t ht => by obtain ⟨n, _, rfl⟩ := List.mem_map.mp ht; simp [dp]
  unfold rowT
  rw [inT_tup rfl h (by simp [dp]) (by omega)]
  simp only [List.any_map, Function.comp_def, enc_int, PyData.eqv, inL]
  congr 1
  induction L with
  | nil => rfl
  | cons a L ih =>
    simp only [List.any_cons, List.mem_cons]
    rw [ih (pls_all fun t ht => by obtain ⟨n, _, rfl⟩ := List.mem_map.mp ht; rfl) (dps_all fun t ht => by obtain ⟨n, _, rfl⟩ := List.mem_map.mp ht; simp [dp])]
    by_cases e : i = a
    · subst e; simp
    · have : ¬ (a : Int) = (i : Int) := by omega
      by_cases e2 : i ∈ L <;> simp [e, e2, this]
def tiG (cs : List Cs) (f : Nat → Bool) (t : T) : T := match t with
  | .tup [.int i, .tup [_, .str x, _]] => .int (if f i.toNat = true then loOf cs x else usOf cs x)
  | _ => .non
theorem flat1 (l : List T) (g : T → T) : l.flatMap (fun t => [g t]) = l.map g := by
  induction l with
  | nil => rfl
  | cons a l ih => simp only [List.flatMap_cons, List.singleton_append, ih, List.map_cons]
theorem enum_map {α : Type} (f : α → T) (l : List α) (g : T → T) : (enumT (l.map f)).flatMap (fun t => [g t]) = (List.range l.length).map fun i => match l[i]? with | some a => g (.tup [.int (i : Int), f a]) | none => .non := by
  rw [flat1]
  refine List.ext_getElem? fun i => ?_
  rw [List.getElem?_map, List.getElem?_map]
  by_cases hi : i < l.length
  · rw [enumT_get (t := f l[i]) (by simp [hi])]
    simp [hi]
  · rw [List.getElem?_eq_none (by rw [enumT_len]; simpa using hi)]
    simp [hi]
theorem minutes_spec (h : Has ds d__law_minutes) (G : Good cs pn) {f : Nat → Bool} {lt : T} (hlv : ∀ S, view S lt = some lt) (hin : ∀ i : Nat, inT (.int (i : Int)) lt = some (f i)) (k : Nat) : Y (callK cst fuel ds (k + 1) "_law_minutes" [.tup (cs.map cT), .tup (pn.map pT), lt] S) fun t S' => t = .tup (intsL (timesF cs pn f)) ∧ S' = S := by
  refine y_callK h rfl ?_
  simp [d__law_minutes, startE, getV, Ex.strict, strictAll, newE, Itr.strict]
  refine y_mapLx (g := fun t => [prG t]) (fun x hx => ?_) ?_
  · obtain ⟨c, hc, rfl⟩ := List.mem_map.mp hx
    simp [lcF, bindTg, Tg.slots, wipeE, condT, getV, Ex.strict, strictAll, cT, prG]
  rw [pairs_map]
  simp [pairs_cs]
  have hk : mergeT [] (cs.map fun c => ((.inr c.name : Key), cT c)) = knT cs := rfl
  simp only [hk]
  refine y_mapLx (g := fun t => [tiG cs f t]) (fun x hx => ?_) ?_
  · obtain ⟨i, hx⟩ := List.getElem?_of_mem hx
    obtain ⟨t, ht, rfl⟩ := enum_at hx
    obtain ⟨p, hp, rfl, hpm⟩ := plan_at ht
    obtain ⟨c, hc, ec, u, lo⟩ := G.ul hpm
    have hv := hlv S
    simp [lcF, bindTg, setAll, Tg.slots, wipeE, condT, getV, Ex.strict, strictAll, pT, ec, hin, tiG, hv]
    rcases Bool.eq_false_or_eq_true (f i) with hL | hL <;> simp [hL, cT, u, lo]
  · rw [enum_map]
    simp
    simp only [timesF, intsL, List.map_map]
    refine List.map_congr_left fun i hi => ?_
    have hi := List.mem_range.mp hi
    simp [hi, tiG, pT, nmAt]
/-! ### the worst by all lots -/
def frB (fr : List Fr) (i : Nat) : Int := ((fr[i]?).map (·.b)).getD 0
def dayL (cs : List Cs) (pn : List Pn) (L : List Nat) : List Fr := told cs pn (timesF cs pn (inL L)) pn.length
def wB (cs : List Cs) (pn : List Pn) (Ls : List (List Nat)) (j : Nat) : Int := (Ls.map fun L => frB (dayL cs pn L) j).foldl mx 0
def wE (cs : List Cs) (pn : List Pn) (Ls : List (List Nat)) (j : Nat) : Int := (Ls.map fun L => endAt (dayL cs pn L) j).foldl mx 0
def worstM (cs : List Cs) (pn : List Pn) (m : Nat) : List Fr := (List.range pn.length).map fun j => ⟨nmAt pn j, wB cs pn (lotsM m pn.length) j, wE cs pn (lotsM m pn.length) j⟩
def WJ (cs : List Cs) (pn : List Pn) (m : Nat) (Ls : List (List Nat)) (S : Store) (i : Nat) (ρ : Env) (S' : Store) : Prop := ∃ s5 s6 s7 s8 s9 s10 s11, ρ = [.val (.tup (cs.map cT)), .val (.tup (pn.map pT)), .val (.int (m : Int)), .val (.lst (intsL ((List.range pn.length).map (wB cs pn (Ls.take i))))), .val (.lst (intsL ((List.range pn.length).map (wE cs pn (Ls.take i))))), s5, s6, s7, s8, s9, s10, s11] ∧ S' = S
def mxG (which : Nat) (t : T) : T := match t with
  | .tup [.int a, .tup [_, .int b, .int e]] => .int (mx a (if which = 1 then b else e))
  | _ => .non
theorem zip_range {α : Type} {n : Nat} (f : Nat → Int) (g : Int × α → Int) (l : List α) (hl : l.length = n) : (((List.range n).map f).zip l).map g = (List.range n).map fun i => match l[i]? with | some a => g (f i, a) | none => 0 := by
  refine List.ext_getElem? fun i => ?_
  by_cases hi : i < n
  · rw [List.getElem?_eq_getElem (by simp [hl, hi]), List.getElem?_eq_getElem (by simp [hi])]
    simp [hl, hi]
  · rw [List.getElem?_eq_none (by simp [hl]; omega), List.getElem?_eq_none (by simp; omega)]
theorem zip3_map {α β γ : Type} (f : α → T) (g : β → T) (h : γ → T) : ∀ (l : List α) (r : List β) (q : List γ), zip3T (l.map f) (r.map g) (q.map h) = ((l.zip r).zip q).map fun z => T.tup [f z.1.1, g z.1.2, h z.2]
  | [], _, _ => by simp [zip3T]
  | _ :: _, [], _ => by simp [zip3T]
  | _ :: _, _ :: _, [] => by simp [zip3T]
  | a :: l, b :: r, c :: q => by simp [zip3T, zip3_map f g h l r q]
def w3G (t : T) : T := match t with
  | .tup [.tup [_, .str x, _], b, e] => .tup [.str x, b, e]
  | _ => .non
theorem dayL_len {L : List Nat} : (dayL cs pn L).length = pn.length := told_len _
theorem worst_spec (h : Has ds d__law_worst) (ho : Has ds d__law_lots) (hmi : Has ds d__law_minutes) (ht : Has ds d__law_told_day) (hl : Has ds d__law_leans) (G : Good cs pn) (hn : pn.length ≤ 12) (hm : m ≤ 1000) (k : Nat) :
    Y (callK cst fuel ds (k + 3) "_law_worst" [.tup (cs.map cT), .tup (pn.map pT), .int (m : Int)] S) fun t S' => t = .lst ((worstM cs pn m).map fT) ∧ S' = S := by
  refine y_callK h rfl ?_
  have hrep : List.replicate pn.length (T.int 0) = intsL ((List.range pn.length).map (wB cs pn [])) := by
    simp only [intsL, List.map_map]
    exact (List.eq_replicate_iff.mpr ⟨by simp, fun b hb => by obtain ⟨j, _, rfl⟩ := List.mem_map.mp hb; rfl⟩).symm
  have hrep2 : List.replicate pn.length (T.int 0) = intsL ((List.range pn.length).map (wE cs pn [])) := by
    simp only [intsL, List.map_map]
    exact (List.eq_replicate_iff.mpr ⟨by simp, fun b hb => by obtain ⟨j, _, rfl⟩ := List.mem_map.mp hb; rfl⟩).symm
  simp [d__law_worst, startE, getV, Ex.strict, strictAll, newE, Itr.strict]
  have hlim : pn.length ≤ lim := Nat.le_trans hn (by decide)
  refine ⟨⟨by omega, hlim⟩, ?_⟩
  refine (lots_spec ho hn hm _).mono fun t S1 ⟨e, eS⟩ => ?_
  subst e eS
  simp
  refine y_forI (WJ cs pn m (lotsM m pn.length) S1) ?_ ?_ ⟨.none, .none, .none, .none, .none, .none, .none, by rw [List.take_zero, ← hrep, ← hrep2], rfl⟩
  · rintro i x ρ S2 hx ⟨s5, s6, s7, s8, s9, s10, s11, rfl, rfl⟩
    rw [List.getElem?_map, Option.map_eq_some_iff] at hx
    obtain ⟨L, hL, rfl⟩ := hx
    simp [forF, bindTg, getV, Ex.strict, strictAll, Itr.strict]
    refine (minutes_spec hmi G (f := inL L) (lt := rowT L) (fun _ => rfl) (fun i => in_row) _).mono fun t S3 ⟨e, eS⟩ => ?_
    subst e eS
    refine (law_told_spec ht hl G (by simp [timesF]) _).mono fun t S4 ⟨e, eS⟩ => ?_
    subst e eS
    simp
    have hday : told cs pn (timesF cs pn (inL L)) pn.length = dayL cs pn L := rfl
    rw [hday]
    have tk : (lotsM m pn.length).take (i + 1) = (lotsM m pn.length).take i ++ [L] := by
      rw [List.take_add_one, hL]; rfl
    have sB : ∀ j, wB cs pn ((lotsM m pn.length).take (i + 1)) j = mx (wB cs pn ((lotsM m pn.length).take i) j) (frB (dayL cs pn L) j) := fun j => by
      rw [tk]; simp [wB, List.foldl_append]
    have sE : ∀ j, wE cs pn ((lotsM m pn.length).take (i + 1)) j = mx (wE cs pn ((lotsM m pn.length).take i) j) (endAt (dayL cs pn L) j) := fun j => by
      rw [tk]; simp [wE, List.foldl_append]
    refine y_mapLx (g := fun t => [mxG 1 t]) (fun x hx => ?_) ?_
    · unfold intsL at hx
      rw [zip2_map] at hx
      obtain ⟨q, hq, rfl⟩ := List.mem_map.mp hx
      simp [lcF, bindTg, setAll, Tg.slots, wipeE, condT, getV, Ex.strict, strictAll, fT, mxG, mx]
    refine y_mapLx (g := fun t => [mxG 2 t]) (fun x hx => ?_) ?_
    · unfold intsL at hx
      rw [zip2_map] at hx
      obtain ⟨q, hq, rfl⟩ := List.mem_map.mp hx
      simp [lcF, bindTg, setAll, Tg.slots, wipeE, condT, getV, Ex.strict, strictAll, fT, mxG, mx]
    have e1 : (zip2T (intsL ((List.range pn.length).map (wB cs pn ((lotsM m pn.length).take i)))) ((dayL cs pn L).map fT)).flatMap (fun t => [mxG 1 t]) = intsL ((List.range pn.length).map (wB cs pn ((lotsM m pn.length).take (i + 1)))) := by
      unfold intsL
      rw [zip2_map, map1]
      have := zip_range (wB cs pn ((lotsM m pn.length).take i)) (fun q : Int × Fr => mx q.1 q.2.b) (dayL cs pn L) dayL_len
      have e3 : (((List.range pn.length).map (wB cs pn ((lotsM m pn.length).take i))).zip (dayL cs pn L)).map (fun a => mxG 1 (.tup [.int a.1, fT a.2])) = ((((List.range pn.length).map (wB cs pn ((lotsM m pn.length).take i))).zip (dayL cs pn L)).map (fun q : Int × Fr => mx q.1 q.2.b)).map T.int := by
        rw [List.map_map]; rfl
      rw [e3, this]
      congr 1
      refine List.map_congr_left fun j hj => ?_
      have hj' : j < (dayL cs pn L).length := by rw [dayL_len]; exact List.mem_range.mp hj
      rw [sB, List.getElem?_eq_getElem hj']
      simp [frB, hj']
    have e2 : (zip2T (intsL ((List.range pn.length).map (wE cs pn ((lotsM m pn.length).take i)))) ((dayL cs pn L).map fT)).flatMap (fun t => [mxG 2 t]) = intsL ((List.range pn.length).map (wE cs pn ((lotsM m pn.length).take (i + 1)))) := by
      unfold intsL
      rw [zip2_map, map1]
      have := zip_range (wE cs pn ((lotsM m pn.length).take i)) (fun q : Int × Fr => mx q.1 q.2.e) (dayL cs pn L) dayL_len
      have e3 : (((List.range pn.length).map (wE cs pn ((lotsM m pn.length).take i))).zip (dayL cs pn L)).map (fun a => mxG 2 (.tup [.int a.1, fT a.2])) = ((((List.range pn.length).map (wE cs pn ((lotsM m pn.length).take i))).zip (dayL cs pn L)).map (fun q : Int × Fr => mx q.1 q.2.e)).map T.int := by
        rw [List.map_map]; rfl
      rw [e3, this]
      congr 1
      refine List.map_congr_left fun j hj => ?_
      have hj' : j < (dayL cs pn L).length := by rw [dayL_len]; exact List.mem_range.mp hj
      rw [sE, List.getElem?_eq_getElem hj']
      simp [endAt, hj']
    rw [e1, e2]
    exact ⟨_, _, _, _, _, _, _, rfl, rfl⟩
  · rintro ρ S2 ⟨s5, s6, s7, s8, s9, s10, s11, rfl, rfl⟩
    simp [getV]
    refine y_mapLx (g := fun t => [w3G t]) (fun x hx => ?_) ?_
    · unfold intsL at hx
      rw [zip3_map] at hx
      obtain ⟨q, hq, rfl⟩ := List.mem_map.mp hx
      simp [lcF, bindTg, setAll, Tg.slots, wipeE, condT, getV, Ex.strict, strictAll, pT, w3G]
    · unfold intsL
      rw [zip3_map, map1]
      have tk : (lotsM m pn.length).take (lotsM m pn.length).length = lotsM m pn.length := List.take_of_length_le (Nat.le_refl _)
      simp only [tk]
      refine ⟨?_, trivial⟩
      refine List.ext_getElem? fun j => ?_
      by_cases hj : j < pn.length
      · rw [List.getElem?_eq_getElem (by simp [hj]), List.getElem?_eq_getElem (by simp [worstM, hj])]
        simp [worstM, w3G, pT, fT, nmAt, hj]
      · rw [List.getElem?_eq_none (by simp; omega), List.getElem?_eq_none (by simp [worstM]; omega)]
end
end RD

namespace RD
open PySem

/-- the numbers of a plan's cases -/
structure Vals (cs : List Cs) (pn : List Pn) : Prop where
  s0 : ∀ p ∈ pn, 0 ≤ p.start
  u0 : ∀ p ∈ pn, 1 ≤ usOf cs p.name
  ul : ∀ p ∈ pn, usOf cs p.name ≤ loOf cs p.name
def wdOf (cs : List Cs) (pn : List Pn) : Wd := ⟨pn.length, fun i => ((pn[i]?).map (·.start)).getD 0, fun i => usOf cs (nmAt pn i), fun i => loOf cs (nmAt pn i), leanRow cs pn⟩
section
variable {cs : List Cs} {pn : List Pn} {m : Nat} {ms : List Int}
theorem nm_get {i : Nat} (h : i < pn.length) : nmAt pn i = pn[i].name := by simp [nmAt, h]
theorem wd_ok (V : Vals cs pn) : (wdOf cs pn).Ok := ⟨fun i j h => lean_lt h, fun i hi => by
    have hi : i < pn.length := hi
    simp only [wdOf, List.getElem?_eq_getElem hi, Option.map_some, Option.getD_some]; exact V.s0 _ (List.getElem_mem hi),
  fun i hi => by have hi : i < pn.length := hi; simp only [wdOf]; rw [nm_get hi]; exact V.u0 _ (List.getElem_mem hi),
  fun i hi => by have hi : i < pn.length := hi; simp only [wdOf]; rw [nm_get hi]; exact V.ul _ (List.getElem_mem hi)⟩
theorem told_get : ∀ {n i : Nat}, i < n → (told cs pn ms n)[i]? = some (rowAt cs pn ms (told cs pn ms i) i)
  | n + 1, i, h => by
    rw [told]
    rcases Nat.lt_or_ge i n with h' | h'
    · rw [List.getElem?_append_left (by rw [told_len]; exact h'), told_get h']
    · have : i = n := by omega
      subst this
      rw [List.getElem?_append_right (by rw [told_len]; exact Nat.le_refl _), told_len]; simp
theorem told_end {n i : Nat} (h : i < n) : endAt (told cs pn ms n) i = (rowAt cs pn ms (told cs pn ms i) i).e := by simp [endAt, told_get h]
theorem told_beg {n i : Nat} (h : i < n) : frB (told cs pn ms n) i = (rowAt cs pn ms (told cs pn ms i) i).b := by simp [frB, told_get h]
theorem tab_get : ∀ {n i : Nat}, i < n → (tabM cs pn m n)[i]? = some (rwAt cs pn m (tabM cs pn m i) i)
  | n + 1, i, h => by
    rw [tabM]
    rcases Nat.lt_or_ge i n with h' | h'
    · rw [List.getElem?_append_left (by rw [tab_len]; exact h'), tab_get h']
    · have : i = n := by omega
      subst this
      rw [List.getElem?_append_right (by rw [tab_len]; exact Nat.le_refl _), tab_len]; simp
theorem is_day (f : Nat → Bool) : (wdOf cs pn).IsDay f (frB (told cs pn (timesF cs pn f) pn.length)) (endAt (told cs pn (timesF cs pn f) pn.length)) := by
  intro i hi
  have hi : i < pn.length := hi
  have hm : (timesF cs pn f)[i]? = some (if f i = true then loOf cs (nmAt pn i) else usOf cs (nmAt pn i)) := by simp [timesF, hi]
  have hr := row_eq (cs := cs) (List.getElem?_eq_getElem hi) hm
  have hB : frB (told cs pn (timesF cs pn f) pn.length) i = ((leanRow cs pn i).map (endAt (told cs pn (timesF cs pn f) pn.length))).foldl mx pn[i].start := by
    rw [told_beg hi, hr]
    simp only [begAt]
    congr 1
    refine List.map_congr_left fun j hj => ?_
    have hji := lean_lt hj
    rw [told_end hji, told_end (n := pn.length) (by omega)]
  refine ⟨?_, ?_⟩
  · rw [hB]; simp [wdOf, hi]
  · rw [told_end hi, told_beg hi, hr]; rfl
theorem ends_get {bs : List Int} {u l : Int} : ∀ {n c : Nat}, c < n → (endsM bs u l n).getD c 0 = mx (bs.getD c 0 + u) (if 0 < c then bs.getD (c - 1) 0 + l else 0)
  | n + 1, c, h => by
    rw [endsM, List.getD_eq_getElem?_getD]
    rcases Nat.lt_or_ge c n with h' | h'
    · rw [List.getElem?_append_left (by rw [ends_len]; exact h'), ← List.getD_eq_getElem?_getD, ends_get h']
    · have : c = n := by omega
      subst this
      rw [List.getElem?_append_right (by rw [ends_len]; exact Nat.le_refl _), ends_len]; simp
def tbB (cs : List Cs) (pn : List Pn) (m i c : Nat) : Int := (((tabM cs pn m pn.length)[i]?).map fun r => r.bs.getD c 0).getD 0
def tbE (cs : List Cs) (pn : List Pn) (m i c : Nat) : Int := eAt (tabM cs pn m pn.length) c i
theorem tab_at {i c : Nat} (hi : i < pn.length) (hc : c ≤ m) : tbB cs pn m i c = ((leanRow cs pn i).map fun j => tbE cs pn m j c).foldl mx pn[i].start ∧ tbE cs pn m i c = mx (tbB cs pn m i c + usOf cs pn[i].name) (if 0 < c then tbB cs pn m i (c - 1) + loOf cs pn[i].name else 0) := by
  have hp := List.getElem?_eq_getElem hi
  have hbs : ∀ c ≤ m, (bsAt cs pn m (tabM cs pn m i) i pn[i]).getD c 0 = ((leanRow cs pn i).map (eAt (tabM cs pn m i) c)).foldl mx pn[i].start := fun c hc => by
    simp [bsAt, List.getD_eq_getElem?_getD, show c < m + 1 by omega]
  have hB : ∀ c ≤ m, tbB cs pn m i c = ((leanRow cs pn i).map (eAt (tabM cs pn m i) c)).foldl mx pn[i].start := fun c hc => by
    unfold tbB; rw [tab_get hi]; simp [rwAt, hp]; rw [← List.getD_eq_getElem?_getD, hbs c hc]
  have hE : tbE cs pn m i c = mx (tbB cs pn m i c + usOf cs pn[i].name) (if 0 < c then tbB cs pn m i (c - 1) + loOf cs pn[i].name else 0) := by
    unfold tbE eAt; rw [tab_get hi]; simp only [rwAt, hp, Option.map_some, Option.getD_some]
    rw [ends_get (by omega), hbs c hc, hB c hc]
    by_cases h0 : 0 < c
    · rw [if_pos h0, if_pos h0, hbs _ (by omega), hB _ (by omega)]
    · rw [if_neg h0, if_neg h0]
  refine ⟨?_, hE⟩
  rw [hB c hc]
  congr 1
  refine List.map_congr_left fun j hj => ?_
  have hji := lean_lt hj
  unfold tbE eAt
  rw [tab_get hji, tab_get (n := pn.length) (by omega)]
/-- beyond the counts told, the table goes on by its own law -/
theorem is_tab_ext (V : Vals cs pn) : ∃ TB TE : Nat → Nat → Int, (wdOf cs pn).IsTab TB TE ∧ ∀ i, i < pn.length → ∀ c, TB i c = tbB cs pn c i c ∧ TE i c = tbE cs pn c i c := by
  have stable : ∀ i, i < pn.length → ∀ c m m', c ≤ m → c ≤ m' → tbB cs pn m i c = tbB cs pn m' i c ∧ tbE cs pn m i c = tbE cs pn m' i c := by
    intro i
    induction i using Nat.strongRecOn with
    | _ i ih =>
      intro hi c m m' h1 h2
      have hb : ∀ c ≤ m, c ≤ m' → tbB cs pn m i c = tbB cs pn m' i c := fun c h1 h2 => by
        rw [(tab_at hi h1).1, (tab_at hi h2).1]
        congr 1
        refine List.map_congr_left fun j hj => ?_
        have hji := lean_lt hj
        exact (ih j hji (by omega) c m m' h1 h2).2
      refine ⟨hb c h1 h2, ?_⟩
      rw [(tab_at hi h1).2, (tab_at hi h2).2, hb c h1 h2]
      by_cases h0 : 0 < c
      · rw [hb (c - 1) (by omega) (by omega)]
      · rw [if_neg h0, if_neg h0]
  refine ⟨fun i c => tbB cs pn c i c, fun i c => tbE cs pn c i c, fun i hi c => ?_, fun i hi c => ⟨rfl, rfl⟩⟩
  have hi : i < pn.length := hi
  have e1 : (wdOf cs pn).s i = pn[i].start := by simp [wdOf, hi]
  have e2 : (wdOf cs pn).u i = usOf cs pn[i].name := by simp only [wdOf]; rw [nm_get hi]
  have e3 : (wdOf cs pn).l i = loOf cs pn[i].name := by simp only [wdOf]; rw [nm_get hi]
  refine ⟨?_, ?_⟩
  · rw [e1]; exact (tab_at hi (Nat.le_refl c)).1
  · rw [e2, e3]
    refine ((tab_at hi (Nat.le_refl c)).2).trans ?_
    by_cases h0 : 0 < c
    · rw [if_pos h0, if_pos h0, (stable i hi (c - 1) c (c - 1) (by omega) (Nat.le_refl _)).1]
    · rw [if_neg h0, if_neg h0]
theorem max_lots (V : Vals cs pn) {j : Nat} (hj : j < pn.length) : wB cs pn (lotsM m pn.length) j = tbB cs pn m j m ∧ wE cs pn (lotsM m pn.length) j = tbE cs pn m j m := by
  obtain ⟨TB, TE, HT, hT⟩ := is_tab_ext V
  have O := wd_ok V
  have HD := fun f => is_day (cs := cs) (pn := pn) f
  have hup : ∀ L ∈ lotsM m pn.length, frB (dayL cs pn L) j ≤ TB j m ∧ endAt (dayL cs pn L) j ≤ TE j m := fun L hL => by
    have hc : cnt (inL L) pn.length ≤ m := lots_cnt hL
    have := tab_upper O HT (HD (inL L)) j hj m
    exact ⟨this.1 (Nat.le_trans (cnt_mono (by omega)) hc), this.2 (Nat.le_trans (cnt_mono (by omega)) hc)⟩
  have hre : ∀ f : Nat → Bool, (∀ k, j < k → f k = false) → cnt f (j + 1) ≤ m → ∃ L ∈ lotsM m pn.length, told cs pn (timesF cs pn f) pn.length = dayL cs pn L := fun f f1 f2 => by
    have hcn : cnt f pn.length ≤ m := by
      have key : ∀ k, j + 1 ≤ k → cnt f k = cnt f (j + 1) := fun k => by
        induction k with
        | zero => intro h; omega
        | succ k ik =>
          intro h
          rcases Nat.lt_or_ge k (j + 1) with h' | h'
          · rw [show k = j by omega]
          · simp only [cnt]; rw [ik h', f1 k (by omega)]; rfl
      rw [key _ hj]; exact f2
    refine ⟨(List.range pn.length).filter f, lots_mem.mpr ⟨f, rfl, hcn⟩, ?_⟩
    unfold dayL
    congr 1
    unfold timesF
    refine List.map_congr_left fun i hi => ?_
    have hi := List.mem_range.mp hi
    have : inL ((List.range pn.length).filter f) i = f i := by simp [inL, hi]
    rw [this]
  obtain ⟨e1, e2⟩ := hT j hj m
  rw [← e1, ← e2]
  have hTB0 := tab_nonneg O HT j hj m
  have hTE0 : 0 ≤ TE j m := by
    rw [(HT j hj m).2]
    have := O.u0 j hj
    exact Int.le_trans (by omega) le_mxl
  obtain ⟨⟨f, f1, f2, f3⟩, ⟨g, g1, g2, g3⟩⟩ := tab_reach O HT HD j hj m
  refine ⟨fmx_eq (fun y hy => ?_) hTB0 (.inr ?_), fmx_eq (fun y hy => ?_) hTE0 (.inr ?_)⟩
  · obtain ⟨L, hL, rfl⟩ := List.mem_map.mp hy
    exact (hup L hL).1
  · obtain ⟨L, hL, e⟩ := hre f (fun k hk => f1 k (by omega)) (by simp only [cnt]; rw [f1 j (Nat.le_refl _)]; simpa using f2)
    exact List.mem_map.mpr ⟨L, hL, by rw [← e]; exact f3⟩
  · obtain ⟨L, hL, rfl⟩ := List.mem_map.mp hy
    exact (hup L hL).2
  · obtain ⟨L, hL, e⟩ := hre g g1 g2
    exact List.mem_map.mpr ⟨L, hL, by rw [← e]; exact g3⟩
theorem lat_eq (G : Good cs pn) : latM cs pn m = (List.range pn.length).map fun j => ⟨nmAt pn j, tbB cs pn m j m, tbE cs pn m j m⟩ := by
  refine List.ext_getElem? fun j => ?_
  have hl := tab_len (cs := cs) (pn := pn) (m := m) pn.length
  by_cases hj : j < pn.length
  · have hj2 : j < (tabM cs pn m pn.length).length := by omega
    rw [List.getElem?_eq_getElem (by simp [latM, hl, hj]), List.getElem?_eq_getElem (by simp [hj])]
    simp only [latM, List.getElem_map, List.getElem_zip, List.getElem_range, Option.some.injEq, tbB, tbE, eAt, List.getElem?_eq_getElem hj2, Option.map_some, Option.getD_some, nm_get hj]
  · rw [List.getElem?_eq_none (by simp [latM, hl]; omega), List.getElem?_eq_none (by simp; omega)]
theorem latest_worst (G : Good cs pn) (V : Vals cs pn) : latM cs pn m = worstM cs pn m := by
  rw [lat_eq G]
  unfold worstM
  refine List.map_congr_left fun j hj => ?_
  have hj := List.mem_range.mp hj
  rw [(max_lots V hj).1, (max_lots V hj).2]
theorem vals_of {r : Int} {ps : List Str} (hcs : ∀ c ∈ cs, OkC r ps c) (hpn : ∀ p ∈ pn, OkP cs p) : Vals cs pn := by
  have key : ∀ p ∈ pn, ∃ c ∈ cs, usOf cs p.name = c.usual ∧ loOf cs p.name = c.longest := fun p hp => by
    obtain ⟨c, hc, e, _⟩ := hpn p hp
    obtain ⟨d, hd, _, e2⟩ := look_some ⟨c, hc, e⟩
    exact ⟨d, hd, by simp [usOf, e2], by simp [loOf, e2]⟩
  refine ⟨fun p hp => ?_, fun p hp => ?_, fun p hp => ?_⟩
  · obtain ⟨c, hc, _, _, h, _⟩ := hpn p hp
    have := (hcs c hc).f0
    omega
  · obtain ⟨c, hc, e, _⟩ := key p hp
    rw [e]; exact (hcs c hc).u0
  · obtain ⟨c, hc, e, e2⟩ := key p hp
    rw [e, e2]; exact (hcs c hc).l0
theorem goodP_of {r : Int} {ps : List Str} (hps : ∀ p ∈ ps, pl (.str p) = true) (hcs : ∀ c ∈ cs, OkC r ps c) (hpn : ∀ p ∈ pn, OkP cs p) (hl : pn.length ≤ 1000) : Good cs pn := by
  refine ⟨fun c hc z hz => hps z ((hcs c hc).team z hz), fun p hp => ?_, fun p hp => ?_, hl⟩
  · obtain ⟨c, hc, e, _⟩ := hpn p hp
    rw [← e]; exact (hcs c hc).nm
  · obtain ⟨c, hc, e, _⟩ := hpn p hp
    exact ⟨c, hc, e⟩
end
/-- frames with good names are equal to themselves -/
theorem eq_frs {l : List Fr} (h : ∀ f ∈ l, pl (.str f.name) = true) : eqT (.lst (l.map fT)) (.lst (l.map fT)) = some true := by
  refine eqT_self ?_ ?_
  · have : pls (l.map fT) = true := pls_all fun t ht => by
      obtain ⟨f, hf, rfl⟩ := List.mem_map.mp ht
      simpa [fT, pl, pls] using h f hf
    simpa [pl] using this
  · have : dps (l.map fT) ≤ 1 := dps_all fun t ht => by
      obtain ⟨f, hf, rfl⟩ := List.mem_map.mp ht
      simp [fT, dp, dps]
    simp [dp]; omega
end RD

namespace RD
open PySem
section
variable {cst : Str → Option T} {fuel : Nat} {ds : List Dn} {S : Store}
structure HasD (ds : List Dn) : Prop where
  draws : Draws ds
  plan : Has ds d__law_plan
  drawn : Has ds d__law_drawn
structure HasT (ds : List Dn) : Prop where
  by_name : Has ds d_by_name
  meet : Has ds d_meet
  leans : Has ds d_leans
  ends : Has ds d_ends
  table : Has ds d_table
structure HasW (ds : List Dn) : Prop where
  lleans : Has ds d__law_leans
  ltold : Has ds d__law_told_day
  lots : Has ds d__law_lots
  minutes : Has ds d__law_minutes
  worst : Has ds d__law_worst
def Law4J (ns : List Int) (i : Nat) (ρ : Env) (S : Store) : Prop := ∃ s1 s2 s3 s4 s5 s6 s7, ρ = [.val (.scr ns), s1, s2, s3, s4, s5, s6, s7]
def Turn4J (ns : List Int) (n : Nat) (h : T) (cs : List Cs) (pn : List Pn) (i : Nat) (ρ : Env) (S : Store) : Prop := ∃ s1 s6 s7, ρ = [.val (.scr ns), s1, .val (.ref n), .val h, .val (.tup (cs.map cT)), .val (.tup (pn.map pT)), s6, s7]
theorem law4_spec (H1 : HasD ds) (H2 : HasT ds) (H3 : HasW ds) (hla : Has ds d_latest) (hlaw : Has ds d_law_k04) (k : Nat) (ns : List Int) (hns : ns.length ≤ 63) : Y (callK cst fuel ds (k + 8) "law" [.scr ns] S) fun t _ => t = .bl true := by
  refine y_callK hlaw rfl ?_
  simp [d_law_k04, startE, getV, Ex.strict, strictAll, newE, Itr.strict]
  refine ⟨okR_small (by omega) (by omega), ?_⟩
  refine y_forI (Law4J ns) ?_ ?_ ⟨_, _, _, _, _, _, _, rfl⟩
  · rintro i x ρ S1 hx ⟨s1, s2, s3, s4, s5, s6, s7, rfl⟩
    obtain ⟨b, hb, rfl⟩ := mem_rng (List.mem_of_getElem? hx)
    simp [forF, bindTg, setAll, getV, getO, Ex.strict, strictAll, newE, Itr.strict]
    refine (bag_spec H1.draws.bag _ (by omega) (by omega)).mono fun t S2 ⟨n, e, b2⟩ => ?_
    subst e
    refine (drawn_spec H1.draws H1.plan H1.drawn _ b2 (by decide) (by decide)).mono fun t S3 ⟨b3, r, ps, cs, pn, e, r1, r4, p5, hps, hcs, c8, hpn, p8, hnm, hnd, hp5, hpr⟩ => ?_
    subst e
    have G : Good cs pn := goodP_of hps hcs hpn (by omega)
    have V : Vals cs pn := vals_of hcs hpn
    simp [setAll]
    refine (take_spec H1.draws.take _ b3 (by decide) (by decide)).mono fun t S7 ⟨b7, i3, e, i30, i31⟩ => ?_
    subst e
    refine y_forI (Turn4J ns n (hT r ps) cs pn) ?_ ?_ ⟨_, _, _, rfl⟩
    · rintro i2 x ρ S6 hx2 ⟨s1, s6, s7, rfl⟩
      have hm : ∃ m : Nat, x = .int (m : Int) ∧ m ≤ 100 := by
        have := List.mem_of_getElem? hx2
        simp only [List.mem_cons, List.not_mem_nil, or_false] at this
        rcases this with rfl | rfl | rfl | rfl
        · exact ⟨i3.toNat, by rw [Int.toNat_of_nonneg i30], by omega⟩
        · exact ⟨0, rfl, by decide⟩
        · exact ⟨1, rfl, by decide⟩
        · exact ⟨2, rfl, by decide⟩
      obtain ⟨m, rfl, hm⟩ := hm
      simp [forF, bindTg, getV, Ex.strict, strictAll, Itr.strict]
      refine (latest_spec hla H2.table H2.leans H2.by_name H2.meet H2.ends G hm _).mono fun t S9 ⟨e, eS⟩ => ?_
      subst e eS
      refine (worst_spec H3.worst H3.lots H3.minutes H3.ltold H3.lleans G (by omega) (by omega) _).mono fun t S10 ⟨e, eS⟩ => ?_
      subst e eS
      rw [← latest_worst G V]
      have hn : ∀ f ∈ latM cs pn m, pl (.str f.name) = true := fun f hf => by
        rw [lat_eq G] at hf
        obtain ⟨j, hj, rfl⟩ := List.mem_map.mp hf
        have hj := List.mem_range.mp hj
        show pl (.str (nmAt pn j)) = true
        rw [nm_get hj]
        exact G.nm _ (List.getElem_mem hj)
      simp [eq_frs hn, anyTy, isaT]
      exact ⟨_, _, _, rfl⟩
    · rintro ρ S6 ⟨s1, s6, s7, rfl⟩
      exact ⟨_, _, _, _, _, _, _, rfl⟩
  · rintro ρ S1 ⟨s1, s2, s3, s4, s5, s6, s7, rfl⟩
    simp
end
end RD

namespace RD
open PySem

structure Hr where
  who : Str
  mn : Int
def hrT (h : Hr) : T := .tup [.str h.who, .int h.mn]
def hasW (cs : List Cs) (x : Str) (f : Fr) : Bool := (teamOf cs f.name).any fun y => y == x
def ovL (cs : List Cs) (fr : List Fr) (x : Str) (m : Int) : List Int := (fr.filter (hasW cs x)).map fun f => f.e - m
def ovM (cs : List Cs) (fr : List Fr) (x : Str) (m : Int) : Int := (maxI (ovL cs fr x m ++ [0])).getD 0
theorem maxI_app (l : List Int) : maxI (l ++ [0]) = some ((maxI (l ++ [0])).getD 0) := by
  cases l <;> rfl
def ovG (cs : List Cs) (x : Str) (m : Int) (t : T) : List T := match t with
  | .tup [.str n, _, .int e] => if ((teamOf cs n).any fun y => y == x) = true then [.int (e - m)] else []
  | _ => []
theorem ovG_map (cs : List Cs) (x : Str) (m : Int) (fr : List Fr) : (fr.map fT).flatMap (ovG cs x m) = intsL (ovL cs fr x m) := by
  unfold ovL intsL
  induction fr with
  | nil => rfl
  | cons f fr ih =>
    simp only [List.map_cons, List.flatMap_cons, ih, List.filter_cons, ovG, fT, hasW]
    by_cases h : ((teamOf cs f.name).any fun y => y == x) = true <;> simp [h]
def ovR (cs : List Cs) (fr : List Fr) (h : Hr) : Hr := ⟨h.who, ovM cs fr h.who h.mn⟩
/-- the names of frames are the plan's -/
def FrOk (pn : List Pn) (fr : List Fr) : Prop := ∀ f ∈ fr, ∃ p ∈ pn, f.name = p.name
section
variable {cst : Str → Option T} {fuel : Nat} {ds : List Dn} {S : Store} {cs : List Cs} {pn : List Pn} {m : Nat}
theorem lat_ok (G : Good cs pn) : FrOk pn (latM cs pn m) := fun f hf => by
  rw [lat_eq G] at hf
  obtain ⟨j, hj, rfl⟩ := List.mem_map.mp hf
  have hj := List.mem_range.mp hj
  exact ⟨pn[j], List.getElem_mem hj, nm_get hj⟩
theorem in_team (G : Good cs pn) {fr : List Fr} (hf : FrOk pn fr) {f : Fr} (h : f ∈ fr) {x : Str} (hx : pl (.str x) = true) : ∃ c, valT (knT cs) (.inr f.name) = some (cT c) ∧ inT (.str x) (.tup (strsL c.team)) = some (hasW cs x f) := by
  obtain ⟨p, hp, e⟩ := hf f h
  obtain ⟨c, hc, e1, t1, _⟩ := G.get hp
  rw [← e] at e1 t1
  exact ⟨c, e1, by rw [in_strs hx (G.tm c hc), hasW, t1]⟩
def BeJ (cs : List Cs) (pn : List Pn) (m : Nat) (hs : List Hr) (S : Store) (i : Nat) (ρ : Env) (S' : Store) : Prop := ∃ s6 s7 s8 s9, ρ = [.val (.tup (cs.map cT)), .val (.tup (pn.map pT)), .val (.int (m : Int)), .val (.tup (hs.map hrT)), .val (.dct (knT cs)), .own (((hs.take i).map (ovR cs (latM cs pn m))).map hrT), s6, s7, s8, s9] ∧ S' = S
theorem beyond_spec (h : Has ds d_beyond) (hla : Has ds d_latest) (H2 : HasT ds) (G : Good cs pn) (hm0 : m ≤ 100) {hs : List Hr} (hl : hs.length ≤ 1000) (hw : ∀ h ∈ hs, pl (.str h.who) = true) (k : Nat) :
    Y (callK cst fuel ds (k + 5) "beyond" [.tup (cs.map cT), .tup (pn.map pT), .int (m : Int), .tup (hs.map hrT)] S) fun t S' => t = .lst ((hs.map (ovR cs (latM cs pn m))).map hrT) ∧ S' = S := by
  refine y_callK h rfl ?_
  simp [d_beyond, startE, getV, Ex.strict, strictAll, newE, Itr.strict]
  refine (by_name_spec H2.by_name _ cs).mono fun t S1 ⟨e, eS⟩ => ?_
  subst e eS
  refine y_forI (BeJ cs pn m hs S1) ?_ ?_ ⟨.none, .none, .none, .none, by simp, rfl⟩
  · rintro i x ρ S2 hx ⟨s6, s7, s8, s9, rfl, rfl⟩
    rw [List.getElem?_map, Option.map_eq_some_iff] at hx
    obtain ⟨hr, hi, rfl⟩ := hx
    have hmem := List.mem_of_getElem? hi
    simp [forF, bindTg, setAll, getV, getO, Ex.strict, strictAll, hrT, Itr.strict]
    refine (latest_spec hla H2.table H2.leans H2.by_name H2.meet H2.ends G hm0 _).mono fun t S9 ⟨e, eS⟩ => ?_
    subst e eS
    simp
    refine y_mapLx (g := ovG cs hr.who hr.mn) (fun x hx => ?_) ?_
    · obtain ⟨f, hf, rfl⟩ := List.mem_map.mp hx
      obtain ⟨c, e1, e2⟩ := in_team G (lat_ok G) hf (hw hr hmem)
      simp [lcF, bindTg, Tg.slots, wipeE, getV, Ex.strict, strictAll, fT, e1, cT, e2]
      have e3 : hasW cs hr.who f = (teamOf cs f.name).any fun y => y == hr.who := rfl
      cases hB : hasW cs hr.who f with
      | false => rw [e3] at hB; simp [condT, ovG, hB]
      | true => rw [e3] at hB; simp [condT, ovG, hB, getV]
    · rw [ovG_map]
      have hlen : (ovL cs (latM cs pn m) hr.who hr.mn).length ≤ 1000 := by
        unfold ovL
        rw [List.length_map]
        refine Nat.le_trans (List.length_filter_le _ _) ?_
        rw [lat_eq G]; simp
        exact G.len
      have e1 : intsT (intsL (ovL cs (latM cs pn m) hr.who hr.mn) ++ [T.int 0]) = some (ovL cs (latM cs pn m) hr.who hr.mn ++ [0]) := by
        have := intsT_ints (ovL cs (latM cs pn m) hr.who hr.mn ++ [0])
        simpa [intsL] using this
      simp [e1]
      refine ⟨by simp [intsL]; exact Nat.le_trans (Nat.add_le_add_right hlen 1) (by decide), _, ⟨_, maxI_app _, rfl⟩, ?_, ?_⟩
      · exact Nat.lt_of_le_of_lt (Nat.le_trans (Nat.min_le_right _ _) hl) (by decide)
      · have e2 : List.take i (List.map (hrT ∘ ovR cs (latM cs pn m)) hs) ++ [T.tup [T.str hr.who, T.int ((maxI (ovL cs (latM cs pn m) hr.who hr.mn ++ [0])).getD 0)]] = List.map hrT (List.map (ovR cs (latM cs pn m)) (List.take (i + 1) hs)) := by
          rw [List.take_add_one, hi]
          simp [ovR, hrT, ovM]
        rw [e2]
        exact ⟨_, _, _, _, rfl, rfl⟩
  · rintro ρ S2 ⟨s6, s7, s8, s9, rfl, rfl⟩
    simp [getV]
end
theorem eq_hrs {l : List Hr} (h : ∀ f ∈ l, pl (.str f.who) = true) : eqT (.lst (l.map hrT)) (.lst (l.map hrT)) = some true := by
  refine eqT_self ?_ ?_
  · have : pls (l.map hrT) = true := pls_all fun t ht => by
      obtain ⟨f, hf, rfl⟩ := List.mem_map.mp ht
      simpa [hrT, pl, pls] using h f hf
    simpa [pl] using this
  · have : dps (l.map hrT) ≤ 1 := dps_all fun t ht => by
      obtain ⟨f, hf, rfl⟩ := List.mem_map.mp ht
      simp [hrT, dp, dps]
    simp [dp]; omega
section
variable {cst : Str → Option T} {fuel : Nat} {ds : List Dn} {S : Store}
def Law8J (ns : List Int) (i : Nat) (ρ : Env) (S : Store) : Prop := ∃ s1 s2 s3 s4 s5 s6 s7 s8 s9 s10 s11 s12 s13 s14 s15, ρ = [.val (.scr ns), s1, s2, s3, s4, s5, s6, s7, s8, s9, s10, s11, s12, s13, s14, s15]
def Turn8J (ns : List Int) (n : Nat) (h : T) (cs : List Cs) (pn : List Pn) (m : Nat) (ps : List Str) (i : Nat) (ρ : Env) (S : Store) : Prop := ∃ (s1 s11 s12 s13 s14 s15 : Slot) (hs : List Hr), ρ = [.val (.scr ns), s1, .val (.ref n), .val h, .val (.tup (cs.map cT)), .val (.tup (pn.map pT)), .val (.int (m : Int)), .val (.dct (knT cs)), .val (.lst ((latM cs pn m).map fT)), .own (hs.map hrT), .own (hs.map (hrT ∘ ovR cs (latM cs pn m))), s11, s12, s13, s14, s15] ∧ BagAt S n ∧ (∀ h ∈ hs, pl (.str h.who) = true) ∧ hs.length ≤ i
theorem law8_spec (H1 : HasD ds) (H2 : HasT ds) (H3 : HasW ds) (hla : Has ds d_latest) (hbe : Has ds d_beyond) (hlaw : Has ds d_law_k08) (k : Nat) (ns : List Int) (hns : ns.length ≤ 63) : Y (callK cst fuel ds (k + 9) "law" [.scr ns] S) fun t _ => t = .bl true := by
  refine y_callK hlaw rfl ?_
  simp [d_law_k08, startE, getV, Ex.strict, strictAll, newE, Itr.strict]
  refine ⟨okR_small (by omega) (by omega), ?_⟩
  refine y_forI (Law8J ns) ?_ ?_ ⟨_, _, _, _, _, _, _, _, _, _, _, _, _, _, _, rfl⟩
  · rintro i x ρ S1 hx ⟨s1, s2, s3, s4, s5, s6, s7, s8, s9, s10, s11, s12, s13, s14, s15, rfl⟩
    obtain ⟨b, hb, rfl⟩ := mem_rng (List.mem_of_getElem? hx)
    simp [forF, bindTg, setAll, getV, getO, Ex.strict, strictAll, newE, Itr.strict]
    refine (bag_spec H1.draws.bag _ (by omega) (by omega)).mono fun t S2 ⟨n, e, b2⟩ => ?_
    subst e
    refine (drawn_spec H1.draws H1.plan H1.drawn _ b2 (by decide) (by decide)).mono fun t S3 ⟨b3, r, ps, cs, pn, e, r1, r4, p5, hps, hcs, c8, hpn, p8, hnm, hnd, hp5, hpr⟩ => ?_
    subst e
    have G : Good cs pn := goodP_of hps hcs hpn (by omega)
    have V : Vals cs pn := vals_of hcs hpn
    simp [setAll]
    refine (take_spec H1.draws.take _ b3 (by decide) (by decide)).mono fun t S7 ⟨b7, i3, e, i30, i31⟩ => ?_
    subst e
    obtain ⟨m, rfl⟩ := Int.eq_ofNat_of_zero_le i30
    refine y_mapLx (g := fun t => [prG t]) (fun x hx => ?_) ?_
    · obtain ⟨c, hc, rfl⟩ := List.mem_map.mp hx
      simp [lcF, bindTg, Tg.slots, wipeE, condT, getV, Ex.strict, strictAll, cT, prG]
    rw [pairs_map]
    simp [pairs_cs]
    have hk : mergeT [] (cs.map fun c => ((.inr c.name : Key), cT c)) = knT cs := rfl
    simp only [hk]
    refine (worst_spec H3.worst H3.lots H3.minutes H3.ltold H3.lleans G (by omega) (by omega) _).mono fun t S10 ⟨e, eS⟩ => ?_
    subst e eS
    rw [← latest_worst G V]
    simp [hT]
    refine y_forI (Turn8J ns n (hT r ps) cs pn m ps) ?_ ?_ ⟨_, _, _, _, _, _, [], rfl, b7, by simp, by simp⟩
    · rintro i2 x ρ S6 hx2 ⟨s1, s11, s12, s13, s14, s15, hs, rfl, b6, hw, hl⟩
      obtain ⟨z, hz, rfl⟩ := mem_strsL.mp (List.mem_of_getElem? hx2)
      have hi2 : i2 < ps.length := by
        have := (List.getElem?_eq_some_iff.mp hx2).1
        simpa [strsL] using this
      simp [forF, bindTg, getV, Ex.strict, strictAll, Itr.strict]
      refine (take_spec H1.draws.take _ b6 (by decide) (by decide)).mono fun t S7 ⟨b7, i4, e, i40, i41⟩ => ?_
      subst e
      by_cases h0 : 0 < i4
      · simp [h0]
        refine (take_spec H1.draws.take _ b7 (by decide) (by decide)).mono fun t S7 ⟨b8, i5, e, i50, i51⟩ => ?_
        subst e
        obtain ⟨a, ea, ha⟩ := atI_of (l := [T.int 50, .int 700, .int 4001]) i50 (by simpa using i51)
        have ha' : ∃ m : Int, a = .int m ∧ 0 < m ∧ m ≤ 4001 := by
          simp only [List.mem_cons, List.not_mem_nil, or_false] at ha
          rcases ha with rfl | rfl | rfl <;> exact ⟨_, rfl, by decide, by decide⟩
        obtain ⟨mn, rfl, m0, m1⟩ := ha'
        simp [ea]
        refine (take_spec H1.draws.take _ b8 m0 (by omega)).mono fun t S7 ⟨b9, i6, e, i60, i61⟩ => ?_
        subst e
        refine y_mapLx (g := ovG cs z i6) (fun x hx => ?_) ?_
        · obtain ⟨f, hf, rfl⟩ := List.mem_map.mp hx
          obtain ⟨c, e1, e2⟩ := in_team G (lat_ok G) hf (hps z hz)
          simp [lcF, bindTg, Tg.slots, wipeE, getV, Ex.strict, strictAll, fT, e1, cT, e2]
          have e3 : hasW cs z f = (teamOf cs f.name).any fun y => y == z := rfl
          cases hB : hasW cs z f with
          | false => rw [e3] at hB; simp [condT, ovG, hB]
          | true => rw [e3] at hB; simp [condT, ovG, hB, getV]
        · rw [ovG_map]
          have hlen : (ovL cs (latM cs pn m) z i6).length ≤ 1000 := by
            unfold ovL
            rw [List.length_map]
            refine Nat.le_trans (List.length_filter_le _ _) ?_
            rw [lat_eq G]; simp
            exact G.len
          have e1 : intsT (intsL (ovL cs (latM cs pn m) z i6) ++ [T.int 0]) = some (ovL cs (latM cs pn m) z i6 ++ [0]) := by
            have := intsT_ints (ovL cs (latM cs pn m) z i6 ++ [0])
            simpa [intsL] using this
          have hlim : hs.length < lim := Nat.lt_of_le_of_lt (show hs.length ≤ 1000 by omega) (by decide)
          simp [getO, e1, hlim]
          refine ⟨by simp [intsL]; exact Nat.le_trans (Nat.add_le_add_right hlen 1) (by decide), _, ⟨_, maxI_app _, rfl⟩, ?_⟩
          exact ⟨s1, .val (.str z), .val (.int i6), .val (.lst (intsL (ovL cs (latM cs pn m) z i6))), s14, s15, hs ++ [⟨z, i6⟩], by simp [hrT, ovR, ovM], b9, by
            intro h hh
            rcases List.mem_append.mp hh with hh | hh
            · exact hw h hh
            · rw [List.mem_singleton.mp hh]; exact hps z hz, by simp; omega⟩
      · simp [h0]
        exact ⟨_, _, _, _, _, _, hs, rfl, b7, hw, by omega⟩
    · rintro ρ S6 ⟨s1, s11, s12, s13, s14, s15, hs, rfl, b6, hw, hl⟩
      simp [getV, getP, strictAll, Ex.strict]
      have hl2 : hs.length ≤ 1000 := by simp [strsL] at hl; omega
      refine (beyond_spec hbe hla H2 G (by omega) hl2 hw _).mono fun t S11 ⟨e, eS⟩ => ?_
      subst e eS
      have := eq_hrs (l := hs.map (ovR cs (latM cs pn m))) (fun f hf => by
        obtain ⟨h, hh, rfl⟩ := List.mem_map.mp hf
        exact hw h hh)
      simp at this
      simp [this]
      exact ⟨_, _, _, _, _, _, _, _, _, _, _, _, _, _, _, rfl⟩
  · rintro ρ S1 ⟨s1, s2, s3, s4, s5, s6, s7, s8, s9, s10, s11, s12, s13, s14, s15, rfl⟩
    simp
end
end RD

/-! plan_by: the plain law -/
namespace RD
open PySem
theorem eqv_int (a b : Int) : PyData.eqv (.int a) (.int b) = decide (a = b) := by
  by_cases h : a = b
  · subst h; simp [PyData.eqv]
  · simp [PyData.eqv, h]
theorem dataLt2 (a b c d : Int) : W.dataLt (.tuple [.int a, .int b]) (.tuple [.int c, .int d]) = if a = c then decide (b < d) else decide (a < c) := by
  rw [W.dataLt_tuple, W.dataLt_cons (by rfl), W.dataLt_cons (by rfl), eqv_int, eqv_int, W.dataLt_int, W.dataLt_int]
  by_cases h : a = c
  · subst h
    by_cases h2 : b = d
    · subst h2; simp; rfl
    · simp [h2]
  · simp [h]
theorem dataLt3 (a c : Int) (x y : Str) (b d : Int) : W.dataLt (.tuple [.int a, .str x, .int b]) (.tuple [.int c, .str y, .int d]) = if a = c then (if x = y then decide (b < d) else decide (x.cps.toList < y.cps.toList)) else decide (a < c) := by
  rw [W.dataLt_tuple, W.dataLt_cons (by rfl), W.dataLt_cons (by rfl), W.dataLt_cons (by rfl), eqv_int, eqv_int, W.dataLt_int, W.dataLt_int, W.dataLt_str]
  have es : PyData.eqv (.str x) (.str y) = decide (x = y) := by
    by_cases h : x = y
    · subst h; simp [PyData.eqv]
    · simp [PyData.eqv, h]
  rw [es]
  by_cases h : a = c
  · subst h
    by_cases h2 : x = y
    · subst h2
      by_cases h3 : b = d
      · subst h3; simp; rfl
      · simp [h3]
    · simp [h2]
  · simp [h]
def endP (cs : List Cs) (p : Pn) : Int := p.start + usOf cs p.name
/-- the start of the case x in the room when the cases found so far stand -/
def stAt (cs : List Cs) (fd : List Pn) (x : Str) (first room : Int) : Int := ((fd.filter (meetB cs ⟨0, x, room⟩)).map (endP cs)).foldl mx first
def bestF (f : Int → Int) (b : Option (Int × Int)) (r : Int) : Option (Int × Int) := match b with
  | none => some (f r, r)
  | some (s, q) => if f r < s then some (f r, r) else some (s, q)
def bestP (cs : List Cs) (fd : List Pn) (c : Cs) : Pn := match c.places.foldl (bestF (stAt cs fd c.name c.first)) none with
  | some (s, r) => ⟨s, c.name, r⟩
  | none => ⟨0, c.name, 0⟩
theorem bestF_spec {f : Int → Int} : ∀ {l : List Int} {s q : Int}, ∃ s' q', l.foldl (bestF f) (some (s, q)) = some (s', q') ∧ ((s' = s ∧ q' = q) ∨ (q' ∈ l ∧ s' = f q'))
  | [], s, q => ⟨s, q, rfl, .inl ⟨rfl, rfl⟩⟩
  | r :: l, s, q => by
    simp only [List.foldl_cons, bestF]
    split
    · obtain ⟨s', q', e, h⟩ := bestF_spec (f := f) (l := l) (s := f r) (q := r)
      refine ⟨s', q', e, .inr ?_⟩
      rcases h with ⟨rfl, rfl⟩ | ⟨h1, h2⟩
      · exact ⟨by simp, rfl⟩
      · exact ⟨List.mem_cons_of_mem _ h1, h2⟩
    · obtain ⟨s', q', e, h⟩ := bestF_spec (f := f) (l := l) (s := s) (q := q)
      refine ⟨s', q', e, ?_⟩
      rcases h with h | ⟨h1, h2⟩
      · exact .inl h
      · exact .inr ⟨List.mem_cons_of_mem _ h1, h2⟩
theorem best_spec {cs : List Cs} {fd : List Pn} {c : Cs} (h : c.places ≠ []) : (bestP cs fd c).name = c.name ∧ (bestP cs fd c).room ∈ c.places ∧ (bestP cs fd c).start = stAt cs fd c.name c.first (bestP cs fd c).room ∧ c.places.foldl (bestF (stAt cs fd c.name c.first)) none = some ((bestP cs fd c).start, (bestP cs fd c).room) := by
  obtain ⟨r, l, e⟩ : ∃ r l, c.places = r :: l := by
    cases hc : c.places with
    | nil => exact absurd hc h
    | cons r l => exact ⟨r, l, rfl⟩
  have e0 : c.places.foldl (bestF (stAt cs fd c.name c.first)) none = l.foldl (bestF (stAt cs fd c.name c.first)) (some (stAt cs fd c.name c.first r, r)) := by rw [e]; rfl
  obtain ⟨s', q', e1, h1⟩ := bestF_spec (f := stAt cs fd c.name c.first) (l := l) (s := stAt cs fd c.name c.first r) (q := r)
  have e2 := e0.trans e1
  have e3 : bestP cs fd c = ⟨s', c.name, q'⟩ := by unfold bestP; rw [e2]
  rw [e3]
  refine ⟨rfl, ?_, ?_, e2⟩
  · rcases h1 with ⟨_, rfl⟩ | ⟨h1, _⟩
    · rw [e]; simp
    · rw [e]; exact List.mem_cons_of_mem _ h1
  · rcases h1 with ⟨rfl, rfl⟩ | ⟨_, h1⟩
    · rfl
    · exact h1
/-- the least of the pairs (start, room), the rooms rising, is the first with the least start -/
theorem min_best {f : Int → Int} : ∀ {l : List Int} {s q : Int}, (∀ r ∈ l, q < r) → l.Pairwise (· < ·) →
    ∃ s' q', l.foldl (bestF f) (some (s, q)) = some (s', q') ∧ (l.map fun r => T.tup [.int (f r), .int r]).foldl (fun a y => if W.dataLt (encT y) (encT a) = true then y else a) (.tup [.int s, .int q]) = .tup [.int s', .int q']
  | [], s, q, _, _ => ⟨s, q, rfl, rfl⟩
  | r :: l, s, q, h1, h2 => by
    have hq := h1 r (by simp)
    have hp := List.pairwise_cons.mp h2
    have e : W.dataLt (encT (.tup [.int (f r), .int r])) (encT (.tup [.int s, .int q])) = decide (f r < s) := by
      have : W.dataLt (encT (.tup [.int (f r), .int r])) (encT (.tup [.int s, .int q])) = W.dataLt (.tuple [.int (f r), .int r]) (.tuple [.int s, .int q]) := rfl
      rw [this, dataLt2]
      split
      · rename_i e
        rw [e]
        simp
        omega
      · rfl
    simp only [List.foldl_cons, List.map_cons, bestF, e, decide_eq_true_eq]
    by_cases hlt : f r < s
    · rw [if_pos hlt, if_pos hlt]
      exact min_best (f := f) (l := l) hp.1 hp.2
    · rw [if_neg hlt, if_neg hlt]
      exact min_best (f := f) (l := l) (fun x hx => h1 x (List.mem_cons_of_mem _ hx)) hp.2
theorem min_places {cs : List Cs} {fd : List Pn} {c : Cs} (h : c.places ≠ []) (hr : c.places.Pairwise (· < ·)) :
    minT (c.places.map fun r => T.tup [.int (stAt cs fd c.name c.first r), .int r]) = some (.tup [.int (bestP cs fd c).start, .int (bestP cs fd c).room]) := by
  obtain ⟨r, l, e⟩ : ∃ r l, c.places = r :: l := by
    cases hc : c.places with
    | nil => exact absurd hc h
    | cons r l => exact ⟨r, l, rfl⟩
  have hb := (best_spec (cs := cs) (fd := fd) h).2.2.2
  generalize stAt cs fd c.name c.first = f at hb ⊢
  generalize (bestP cs fd c).start = bs at hb ⊢
  generalize (bestP cs fd c).room = br at hb ⊢
  rw [e] at hr hb ⊢
  have hp := List.pairwise_cons.mp hr
  obtain ⟨s', q', e1, e2⟩ := min_best (f := f) (l := l) (s := f r) (q := r) hp.1 hp.2
  have e3 : (r :: l).foldl (bestF f) none = l.foldl (bestF f) (some (f r, r)) := rfl
  rw [e3, e1] at hb
  cases hb
  have hds : ∀ l : List Int, T.toDs (l.map fun r => T.tup [.int (f r), .int r]) = some (l.map fun r => PyData.tuple [.int (f r), .int r]) := by
    intro l
    induction l with
    | nil => rfl
    | cons a l ih => simp [T.toDs, T.toD, ih]
  have hal : alikeB ((r :: l).map fun r => PyData.tuple [.int (f r), .int r]) = true := by
    have hd : ∀ l : List Int, PyData.depthAll (l.map fun r => PyData.tuple [.int (f r), .int r]) ≤ 1 := by
      intro l
      induction l with
      | nil => simp [PyData.depthAll]
      | cons a l ih => simp only [List.map_cons, PyData.depthAll]; simp [PyData.depth, PyData.depthAll]; omega
    simp only [alikeB, Bool.and_eq_true, List.all_eq_true, List.mem_map, decide_eq_true_eq]
    refine ⟨⟨?_, Nat.le_trans (hd _) (by decide)⟩, ?_⟩
    · rintro _ ⟨p, _, rfl⟩ _ ⟨q, _, rfl⟩
      simp [W.alike, W.alikeAll]
    · rintro _ ⟨p, _, rfl⟩
      rfl
  simp only [minT, List.map_cons]
  have := hds (r :: l)
  simp only [List.map_cons] at this
  rw [this]
  simp only [List.map_cons] at hal
  simp only [hal, if_true, minF, e2]
end RD

/-! what plan_by makes: a plan, a smooth one -/
namespace RD
open PySem
def madeF (cs : List Cs) (fd : List Pn) (c : Cs) : List Pn := fd ++ [bestP cs fd c]
structure MadeOk (cs ord : List Cs) (fd : List Pn) : Prop where
  nm : fd.map (·.name) = ord.map (·.name)
  each : ∀ p ∈ fd, ∃ c ∈ ord, p.name = c.name ∧ p.room ∈ c.places ∧ c.first ≤ p.start
  bd : ∀ (i : Nat) (p : Pn), fd[i]? = some p → p.start ≤ 600 + 200 * (i : Int)
  pw : fd.Pairwise fun p q => meetB cs q p = true → endP cs p ≤ q.start
theorem made_nil {cs : List Cs} : MadeOk cs [] [] := ⟨rfl, by simp, by simp, .nil⟩
theorem st_ge {cs : List Cs} {fd : List Pn} {x : Str} {first room : Int} : first ≤ stAt cs fd x first room ∧ ∀ p ∈ fd, meetB cs ⟨0, x, room⟩ p = true → endP cs p ≤ stAt cs fd x first room := by
  refine ⟨fmx_init, fun p hp hm => fmx_mem (List.mem_map.mpr ⟨p, List.mem_filter.mpr ⟨hp, hm⟩, rfl⟩)⟩
theorem st_le {cs : List Cs} {fd : List Pn} {x : Str} {first room b : Int} (h1 : first ≤ b) (h2 : ∀ p ∈ fd, endP cs p ≤ b) : stAt cs fd x first room ≤ b := by
  refine fmx_le.mpr ⟨h1, fun y hy => ?_⟩
  obtain ⟨p, hp, rfl⟩ := List.mem_map.mp hy
  exact h2 p (List.mem_filter.mp hp).1
theorem made_step {cs ord : List Cs} {fd : List Pn} {c : Cs} (h : MadeOk cs ord fd) (h1 : c.places ≠ []) (hf : c.first ≤ 600) (hu : ∀ c ∈ ord, usOf cs c.name ≤ 200) : MadeOk cs (ord ++ [c]) (madeF cs fd c) := by
  obtain ⟨b1, b2, b3, _⟩ := best_spec (cs := cs) (fd := fd) h1
  have g := st_ge (cs := cs) (fd := fd) (x := c.name) (first := c.first) (room := (bestP cs fd c).room)
  refine ⟨by simp [madeF, h.nm, b1], fun p hp => ?_, fun i p hp => ?_, ?_⟩
  · rcases List.mem_append.mp hp with hp | hp
    · obtain ⟨c', hc, r⟩ := h.each p hp
      exact ⟨c', List.mem_append_left _ hc, r⟩
    · rw [List.mem_singleton.mp hp]
      exact ⟨c, by simp, b1, b2, by rw [b3]; exact g.1⟩
  · unfold madeF at hp
    rcases Nat.lt_or_ge i fd.length with hi | hi
    · rw [List.getElem?_append_left hi] at hp
      exact h.bd i p hp
    · rw [List.getElem?_append_right hi] at hp
      have : i - fd.length = 0 := by
        rcases Nat.eq_zero_or_pos (i - fd.length) with z | z
        · exact z
        · rw [List.getElem?_eq_none (by simp; omega)] at hp; cases hp
      rw [this] at hp
      cases hp
      rw [b3]
      refine st_le (by omega) fun p hp => ?_
      obtain ⟨j, hj⟩ := List.getElem?_of_mem hp
      have hjl := (List.getElem?_eq_some_iff.mp hj).1
      have h2 := h.bd j p hj
      obtain ⟨c', hc, e, _⟩ := h.each p hp
      have h3 := hu c' hc
      unfold endP
      rw [e]
      omega
  · unfold madeF
    rw [List.pairwise_append]
    refine ⟨h.pw, by simp, fun p hp q hq hm => ?_⟩
    rw [List.mem_singleton.mp hq] at hm ⊢
    rw [b3]
    refine g.2 p hp ?_
    have : meetB cs (bestP cs fd c) p = meetB cs ⟨0, c.name, (bestP cs fd c).room⟩ p := by unfold meetB; rw [b1]
    rw [← this]; exact hm
theorem meet_comm {cs : List Cs} {p q : Pn} : meetB cs p q = meetB cs q p := by
  unfold meetB
  congr 1
  · exact decide_eq_decide.mpr ⟨fun h => h.symm, fun h => h.symm⟩
  · rw [Bool.eq_iff_iff]
    simp only [List.any_eq_true, beq_iff_eq]
    constructor
    · rintro ⟨z, hz, y, hy, rfl⟩; exact ⟨y, hy, y, hz, rfl⟩
    · rintro ⟨z, hz, y, hy, rfl⟩; exact ⟨y, hy, y, hz, rfl⟩
/-- in the sorted plan who leans on an earlier one begins when that one has ended -/
theorem made_gap {cs ord : List Cs} {fd qs : List Pn} (h : MadeOk cs ord fd) (hu : ∀ p ∈ fd, 1 ≤ usOf cs p.name) (hp : qs.Perm fd) (hs : qs.Pairwise fun p q => p.start ≤ q.start) {i j : Nat} (hj : j < i) (hi : i < qs.length) (hm : meetB cs qs[i] qs[j] = true) : endP cs qs[j] ≤ qs[i].start := by
  have hle : qs[j].start ≤ qs[i].start := List.pairwise_iff_getElem.mp hs j i (by omega) hi hj
  have sym : fd.Pairwise fun p q => meetB cs p q = true → endP cs p ≤ q.start ∨ endP cs q ≤ p.start := h.pw.imp fun {p q} k hm => .inl (k (by rw [meet_comm]; exact hm))
  have sq : qs.Pairwise fun p q => meetB cs p q = true → endP cs p ≤ q.start ∨ endP cs q ≤ p.start := (hp.pairwise_iff (fun {p q} k hm => (k (by rw [meet_comm]; exact hm)).symm)).mpr sym
  rcases List.pairwise_iff_getElem.mp sq j i (by omega) hi hj (by rw [meet_comm]; exact hm) with k | k
  · exact k
  · have h1 := hu qs[i] (hp.mem_iff.mp (List.getElem_mem hi))
    unfold endP at k
    omega
theorem usual_get {cs : List Cs} {pn : List Pn} {i : Nat} (h : i < pn.length) : (usual cs pn)[i]? = some (usOf cs pn[i].name) := by simp [usual, h]
theorem told_smooth {cs : List Cs} {pn : List Pn} (h : ∀ i j, (hj : j < i) → (hi : i < pn.length) → meetB cs pn[i] pn[j] = true → endP cs pn[j] ≤ pn[i].start) : ∀ i, (hi : i < pn.length) → rowAt cs pn (usual cs pn) (told cs pn (usual cs pn) i) i = ⟨pn[i].name, pn[i].start, endP cs pn[i]⟩ := by
  intro i
  induction i using Nat.strongRecOn with
  | ind i ih =>
    intro hi
    rw [row_eq (List.getElem?_eq_getElem hi) (usual_get hi)]
    have hb : begAt cs pn (told cs pn (usual cs pn) i) i pn[i] = pn[i].start := by
      unfold begAt
      refine Int.le_antisymm (fmx_le.mpr ⟨Int.le_refl _, fun y hy => ?_⟩) fmx_init
      obtain ⟨j, hj, rfl⟩ := List.mem_map.mp hy
      have hja := lean_lt hj
      have hjl : j < pn.length := by omega
      have hm : meetB cs pn[i] pn[j] = true := by
        simp only [leanRow, List.mem_filter] at hj
        have := hj.2
        unfold meetAt at this
        rw [List.getElem?_eq_getElem hi, List.getElem?_eq_getElem hjl] at this
        exact this
      rw [told_end hja, ih j hja hjl]
      exact h i j hja hi hm
    rw [hb]
    rfl
theorem smooth_of {cs : List Cs} {pn : List Pn} (h : ∀ i j, (hj : j < i) → (hi : i < pn.length) → meetB cs pn[i] pn[j] = true → endP cs pn[j] ≤ pn[i].start) : smooth cs pn = true := by
  unfold smooth
  rw [decide_eq_true_eq]
  refine List.ext_getElem? fun i => ?_
  rw [List.getElem?_map, List.getElem?_map]
  rcases Nat.lt_or_ge i pn.length with hi | hi
  · rw [told_get hi, told_smooth h i hi, List.getElem?_eq_getElem hi]; rfl
  · rw [List.getElem?_eq_none (by rw [told_len]; exact hi), List.getElem?_eq_none hi]; rfl
end RD

/-! the order of a sorted plan -/
namespace RD
open PySem
def encP (p : Pn) : PyData := .tuple [.int p.start, .str p.name, .int p.room]
theorem encT_pT (p : Pn) : encT (pT p) = encP p := by simp [encT, enc_pT, encP]
theorem sort_pT2 (ps : List Pn) (h : ps.length ≤ 1000) : ∃ qs : List Pn, sortT (ps.map pT) = some (qs.map pT) ∧ qs.Perm ps ∧ qs.Pairwise fun p q => W.dataLt (encP q) (encP p) = false := by
  obtain ⟨qs, e, pm⟩ := sort_pT ps h
  refine ⟨qs, e, pm, ?_⟩
  have e2 : (ps.map pT).mergeSort (W.dataLe false encT) = qs.map pT := by
    unfold sortT at e
    rw [toDs_pT] at e
    simp only at e
    split at e
    · exact Option.some.inj e
    · cases e
  have hp := W.sort_pairwise (W.sortLe_total (PyProof.Rows.listOrd PyProof.Rows.itemOrd) false fun b => W.keyToks (encT b)) (ps.map pT)
  have e3 : (ps.map pT).mergeSort (W.sortLe (PyProof.Rows.listOrd PyProof.Rows.itemOrd) false fun b => W.keyToks (encT b)) = qs.map pT := e2
  rw [e3, List.pairwise_map] at hp
  refine hp.imp fun {p q} k => ?_
  have k' : W.dataLe false encT (pT p) (pT q) = true := k
  rw [W.dataLe_eq] at k'
  simp only [cond_false, encT_pT, Bool.not_eq_true'] at k'
  exact k'
theorem str_tri {x y : Str} (h1 : ¬ y.cps.toList < x.cps.toList) (h2 : x ≠ y) : x.cps.toList < y.cps.toList := by
  refine Decidable.byContradiction fun h => h2 (W.str_of_cps ?_)
  exact List.le_antisymm (List.not_lt.mp h1) (List.not_lt.mp h)
theorem rising_pairs {qs : List Pn} (hs : qs.Pairwise fun p q => W.dataLt (encP q) (encP p) = false) (hn : (qs.map (·.name)).Nodup) : qs.Pairwise fun p q => W.dataLt (encP p) (encP q) = true ∧ p.start ≤ q.start := by
  have hn' : qs.Pairwise fun p q => p.name ≠ q.name := List.pairwise_map.mp hn
  refine (hs.and hn').imp fun {p q} ⟨k, hne⟩ => ?_
  unfold encP at k ⊢
  rw [dataLt3] at k
  rw [dataLt3]
  by_cases he : p.start = q.start
  · rw [if_pos he.symm, if_neg (fun z => hne z.symm)] at k
    rw [if_pos he, if_neg hne]
    exact ⟨decide_eq_true (str_tri (of_decide_eq_false k) hne), by omega⟩
  · rw [if_neg (fun z => he z.symm)] at k
    rw [if_neg he]
    have := of_decide_eq_false k
    exact ⟨decide_eq_true (by omega), by omega⟩
end RD

namespace RD
open PySem

/-! ### papers -/
def rI (l : List Int) : T := .tup (intsL l)
def papT (R : List (List Int)) : T := .tup (R.map rI)
def paperM (cs : List Cs) (pn : List Pn) (m : Nat) : List (List Int) := (tabM cs pn m pn.length).map (·.bs)
def bsT (t : T) : T := match t with | .tup [.lst l, _] => .tup l | _ => .non
/-- plain things -/
def isIntT : T → Bool
  | .int _ => true
  | _ => false
def numB (m : Nat) : T → Bool
  | .tup l => decide (l.length = m + 1) && l.all isIntT
  | _ => false
mutual
/-- data of the written kinds, at any depth -/
def plain : T → Bool
  | .non => true
  | .bl _ => true
  | .int _ => true
  | .str _ => true
  | .tup l => plains l
  | .lst l => plains l
  | _ => false
def plains : List T → Bool
  | [] => true
  | t :: ts => plain t && plains ts
end
theorem plains_mem {l : List T} (h : plains l = true) : ∀ t ∈ l, plain t = true := by
  induction l with
  | nil => intro t ht; cases ht
  | cons a ts ih =>
    simp only [plains, Bool.and_eq_true] at h
    intro t ht
    rcases List.mem_cons.mp ht with rfl | ht
    · exact h.1
    · exact ih h.2 t ht
theorem ints_of_all : ∀ {l : List T}, l.all isIntT = true → ∃ ns, l = intsL ns
  | [], _ => ⟨[], rfl⟩
  | t :: l, h => by
    simp only [List.all_cons, Bool.and_eq_true] at h
    obtain ⟨ns, rfl⟩ := ints_of_all h.2
    cases t with
    | int i => exact ⟨i :: ns, rfl⟩
    | _ => cases h.1
section
variable {cst : Str → Option T} {fuel : Nat} {ds : List Dn} {S : Store} {cs : List Cs} {pn : List Pn} {m : Nat}
theorem paper_spec (h : Has ds d_paper) (H2 : HasT ds) (G : Good cs pn) (hm0 : m ≤ 100) (k : Nat) :
    Y (callK cst fuel ds (k + 4) "paper" [.tup (cs.map cT), .tup (pn.map pT), .int (m : Int)] S) fun t S' => t = papT (paperM cs pn m) ∧ S' = S := by
  refine y_callK h rfl ?_
  simp [d_paper, startE, getV, Ex.strict, strictAll]
  refine (table_spec H2.table H2.leans H2.by_name H2.meet H2.ends G hm0 _).mono fun t S1 ⟨e, eS⟩ => ?_
  subst e eS
  simp
  refine y_mapLx (g := fun t => [bsT t]) (fun x hx => ?_) ?_
  · obtain ⟨r, hr, rfl⟩ := List.mem_map.mp hx
    simp [lcF, bindTg, Tg.slots, wipeE, condT, getV, Ex.strict, strictAll, rwT, bsT]
  · rw [map1]
    simp [papT, paperM, bsT, rwT, rI, Function.comp_def]
theorem whole_spec (h : Has ds d_is_whole) (k : Nat) {t : T} (hp : plain t = true) : Y (callK cst fuel ds (k + 1) "is_whole" [t] S) fun r S' => r = .bl (isIntT t) ∧ S' = S := by
  refine y_callK h rfl ?_
  cases t <;> simp [plain] at hp <;> simp [d_is_whole, startE, getV, Ex.strict, strictAll, anyTy, isaT, isIntT]
def whG (t : T) : T := .bl (isIntT t)
theorem numbers_spec (h : Has ds d_is_numbers) (hw : Has ds d_is_whole) (k : Nat) {t : T} (hp : plain t = true) : Y (callK cst fuel ds (k + 2) "is_numbers" [t, .int ((m : Int) + 1)] S) fun r S' => r = .bl (numB m t) ∧ S' = S := by
  refine y_callK h rfl ?_
  cases t with
  | tup l =>
    have hl := plains_mem (show plains l = true by simpa [plain] using hp)
    simp [d_is_numbers, startE, getV, Ex.strict, strictAll, anyTy, isaT, eqT_int]
    by_cases hlen : l.length = m + 1
    · refine .inr ⟨by omega, ?_⟩
      refine y_mapLx (g := fun t => [whG t]) (fun x hx => ?_) ?_
      · simp [lcF, bindTg, Tg.slots, wipeE, condT, getV, Ex.strict, strictAll]
        exact (whole_spec hw _ (hl x hx)).mono fun r S1 ⟨e, eS⟩ => by subst e eS; simp [whG]
      · have e1 : l.flatMap (fun t => [whG t]) = (l.map isIntT).map T.bl := by
          rw [flat1, List.map_map]; rfl
        rw [e1]
        refine ⟨_, ⟨_, blsT_map _, rfl⟩, ?_, rfl⟩
        simp [numB, hlen, List.all_map, Function.comp_def]
    · refine .inl ⟨by omega, ?_⟩
      simp [numB, hlen]
  | _ => simp [plain] at hp <;> simp [d_is_numbers, startE, getV, Ex.strict, strictAll, anyTy, isaT, numB]
def getR (R : List (List Int)) (a c : Nat) : Int := ((R[a]?).getD []).getD c 0
/-- what a number may not be below, by the places so far -/
def leastL (cs : List Cs) (pn : List Pn) (R : List (List Int)) (s : Int) (c : Nat) : List Nat → List Int
  | [] => [s]
  | p :: ps => leastL cs pn R s c ps ++ ([getR R p c + usOf cs (nmAt pn p)] ++ if 0 < c then [getR R p (c - 1) + loOf cs (nmAt pn p)] else [])
def leastM (cs : List Cs) (pn : List Pn) (R : List (List Int)) (a c : Nat) : Int := (maxI (leastL cs pn R (((pn[a]?).map (·.start)).getD 0) c (leanRow cs pn a).reverse)).getD 0
def paperB (cs : List Cs) (pn : List Pn) (m : Nat) (R : List (List Int)) : Bool := (List.range pn.length).all fun a => (List.range (m + 1)).all fun c => decide (leastM cs pn R a c ≤ getR R a c)
theorem least_ne (cs : List Cs) (pn : List Pn) (R : List (List Int)) (s : Int) (c : Nat) : ∀ ps, ∃ x xs, leastL cs pn R s c ps = x :: xs
  | [] => ⟨s, [], rfl⟩
  | p :: ps => by
    obtain ⟨x, xs, e⟩ := least_ne cs pn R s c ps
    exact ⟨x, _, by rw [leastL, e]; rfl⟩
theorem least_len (cs : List Cs) (pn : List Pn) (R : List (List Int)) (s : Int) (c : Nat) : ∀ ps, (leastL cs pn R s c ps).length ≤ 2 * ps.length + 1
  | [] => by simp [leastL]
  | p :: ps => by
    have := least_len cs pn R s c ps
    rw [leastL]
    simp only [List.length_append, List.length_cons, List.length_nil]
    split <;> simp <;> omega
theorem papT_at {R : List (List Int)} {a : Nat} (h : a < R.length) : L2.atI (R.map rI) (a : Int) = some (rI R[a]) := atI_nat (by simp [h])
theorem getR_eq {R : List (List Int)} {a c : Nat} (h : a < R.length) : getR R a c = (R[a]).getD c 0 := by simp [getR, h]
structure PapOk (pn : List Pn) (m : Nat) (R : List (List Int)) : Prop where
  len : R.length = pn.length
  each : ∀ r ∈ R, r.length = m + 1
def IJ1 (cs : List Cs) (pn : List Pn) (m : Nat) (R : List (List Int)) (S : Store) (i : Nat) (ρ : Env) (S' : Store) : Prop := (∃ s5 s6 s7 s8 s9 s10 s11 s12, ρ = [.val (.tup (cs.map cT)), .val (.tup (pn.map pT)), .val (.int (m : Int)), .val (papT R), .val (.dct (knT cs)), s5, s6, s7, s8, s9, s10, s11, s12] ∧ S' = S) ∧ ∀ a, a < i → ∀ c, c < m + 1 → leastM cs pn R a c ≤ getR R a c
def IJ2 (cs : List Cs) (pn : List Pn) (m : Nat) (R : List (List Int)) (S : Store) (a : Nat) (p : Pn) (i : Nat) (ρ : Env) (S' : Store) : Prop := (∃ s8 s9 s10 s11 s12, ρ = [.val (.tup (cs.map cT)), .val (.tup (pn.map pT)), .val (.int (m : Int)), .val (papT R), .val (.dct (knT cs)), .val (pT p), .val (rowT (leanRow cs pn a)), .val (rI ((R[a]?).getD [])), s8, s9, s10, s11, s12] ∧ S' = S) ∧ ∀ c, c < i → leastM cs pn R a c ≤ getR R a c
def IJ3 (cs : List Cs) (pn : List Pn) (m : Nat) (R : List (List Int)) (S : Store) (a : Nat) (p : Pn) (c : Nat) (i : Nat) (ρ : Env) (S' : Store) : Prop := ∃ s11 s12, ρ = [.val (.tup (cs.map cT)), .val (.tup (pn.map pT)), .val (.int (m : Int)), .val (papT R), .val (.dct (knT cs)), .val (pT p), .val (rowT (leanRow cs pn a)), .val (rI ((R[a]?).getD [])), .val (.int (c : Int)), .val (.int (getR R a c)), .own (intsL (leastL cs pn R p.start c ((leanRow cs pn a).take i).reverse)), s11, s12] ∧ S' = S
theorem is_paper_spec (h : Has ds d_is_paper) (hn : Has ds d_is_numbers) (hw : Has ds d_is_whole) (hl : Has ds d_leans) (hb : Has ds d_by_name) (hm : Has ds d_meet) (G : Good cs pn) {R : List (List Int)} (hm0 : m ≤ 100) (O : PapOk pn m R) (k : Nat) :
    Y (callK cst fuel ds (k + 3) "is_paper" [.tup (cs.map cT), .tup (pn.map pT), .int (m : Int), papT R] S) fun t S' => t = .bl (paperB cs pn m R) ∧ S' = S := by
  refine y_callK h rfl ?_
  have hlen := G.len
  simp [d_is_paper, startE, getV, Ex.strict, strictAll, newE, Itr.strict, anyTy, isaT, papT, eqT_int, O.len]
  refine y_mapLx (g := fun t => [T.bl (numB m t)]) (fun x hx => ?_) ?_
  · obtain ⟨r, hr, rfl⟩ := List.mem_map.mp hx
    have pr : plain (rI r) = true := by
      have : ∀ l : List Int, plains (intsL l) = true := fun l => by
        induction l with
        | nil => rfl
        | cons a l ih => simpa [intsL, plains, plain] using ih
      simpa [rI, plain] using this r
    simp [lcF, bindTg, Tg.slots, wipeE, condT, getV, Ex.strict, strictAll]
    exact (numbers_spec hn hw _ pr).mono fun r S1 ⟨e, eS⟩ => by subst e eS; simp
  · have e1 : (R.map rI).flatMap (fun t => [T.bl (numB m t)]) = (R.map fun _ => true).map T.bl := by
      rw [flat1, List.map_map, List.map_map]
      refine List.map_congr_left fun r hr => ?_
      have : (intsL r).all isIntT = true := by
        rw [List.all_eq_true]; intro t ht
        obtain ⟨i, _, rfl⟩ := mem_intsL.mp ht; rfl
      simp only [Function.comp, numB, rI, this, Bool.and_true, T.bl.injEq]; simp [intsL, O.each r hr]
    rw [e1, blsT_map]
    simp
    refine (by_name_spec hb _ cs).mono fun t S1 ⟨e, eS⟩ => ?_
    subst e eS
    refine (leans_spec hl hb hm G _).mono fun t S1 ⟨e, eS⟩ => ?_
    subst e eS
    simp
    have hz : (zip3T (pn.map pT) (rowsT cs pn pn.length) (R.map rI)).length = pn.length := by rw [zip3T_len]; simp [rowsT, O.len]
    refine y_forI (IJ1 cs pn m R S1) ?_ ?_ ⟨⟨_, _, _, _, _, _, _, _, rfl, rfl⟩, fun a ha => by omega⟩
    · rintro a x ρ S2 hx ⟨⟨s5, s6, s7, s8, s9, s10, s11, s12, rfl, rfl⟩, hdone⟩
      have ha : a < pn.length := by
        have := (List.getElem?_eq_some_iff.mp hx).1
        omega
      have haR : a < R.length := by rw [O.len]; exact ha
      have hp : pn[a]? = some pn[a] := List.getElem?_eq_getElem ha
      have e := zip3T_get (l := pn.map pT) (r := rowsT cs pn pn.length) (q := R.map rI) (i := a) (t := pT pn[a]) (u := rowT (leanRow cs pn a)) (v := rI R[a]) (by simp [ha]) (by simp [rowsT, ha]) (by simp [haR])
      rw [hx] at e
      cases e
      have hRa : rI R[a] = rI ((R[a]?).getD []) := by simp [haR]
      have hRlen : R[a].length = m + 1 := O.each _ (List.getElem_mem haR)
      simp [forF, bindTg, setAll, getV, getO, Ex.strict, strictAll, Itr.strict, rI]
      have hzl : (enumT (intsL R[a])).length = m + 1 := by rw [enumT_len]; simp [intsL, hRlen]
      refine y_forI (IJ2 cs pn m R S2 a pn[a]) ?_ ?_ ⟨⟨s8, s9, s10, s11, s12, by simp [papT, rI, haR], rfl⟩, fun c hc => by omega⟩
      · rintro c x ρ S3 hx ⟨⟨s8, s9, s10, s11, s12, rfl, rfl⟩, hdone2⟩
        obtain ⟨t, ht, rfl⟩ := enum_at hx
        have hc : c < m + 1 := by
          have := (List.getElem?_eq_some_iff.mp hx).1
          omega
        have et : t = .int (getR R a c) := by
          have hc2 : c < R[a].length := by omega
          simp [intsL, hc2] at ht
          rw [← ht, getR_eq haR, List.getD_eq_getElem?_getD, List.getElem?_eq_getElem hc2]; rfl
        subst et
        simp [forF, bindTg, setAll, getV, getO, Ex.strict, strictAll, Itr.strict, newE, pT, rowT]
        refine y_forI (IJ3 cs pn m R S3 a pn[a] c) ?_ ?_ ⟨s11, s12, by simp [leastL, intsL, pT, rowT], rfl⟩
        · rintro b x ρ S4 hx ⟨s11, s12, rfl, rfl⟩
          rw [List.getElem?_map, Option.map_eq_some_iff] at hx
          obtain ⟨j, hj, rfl⟩ := hx
          have hja : j < a := lean_lt (List.mem_of_getElem? hj)
          have hjp : j < pn.length := by omega
          have hjR : j < R.length := by rw [O.len]; exact hjp
          obtain ⟨cc, hcc, ec, u, lo⟩ := G.ul (List.getElem_mem hjp)
          have hjl : R[j].length = m + 1 := O.each _ (List.getElem_mem hjR)
          have hpj : L2.atI (pn.map pT) (j : Int) = some (pT pn[j]) := atI_nat (by simp [hjp])
          have g1 : L2.atI (intsL R[j]) (c : Int) = some (.int (getR R j c)) := by rw [ints_at (by omega), getR_eq hjR]
          have bl := lean_len (cs := cs) (pn := pn) (i := a)
          have ll := least_len cs pn R pn[a].start c ((leanRow cs pn a).take b).reverse
          have ll2 : ((leanRow cs pn a).take b).length ≤ a := Nat.le_trans (by simp; omega) bl
          have hlm : (intsL (leastL cs pn R pn[a].start c ((leanRow cs pn a).take b).reverse)).length ≤ 3000 := by
            simp only [intsL, List.length_map]
            simp only [List.length_reverse] at ll
            omega
          have stp : leastL cs pn R pn[a].start c ((leanRow cs pn a).take (b + 1)).reverse = leastL cs pn R pn[a].start c ((leanRow cs pn a).take b).reverse ++ ([getR R j c + cc.usual] ++ if 0 < c then [getR R j (c - 1) + cc.longest] else []) := by
            rw [List.take_add_one, hj]
            simp only [Option.toList_some, List.reverse_append, List.reverse_cons, List.reverse_nil, List.nil_append, List.singleton_append, List.cons_append, leastL]
            rw [nm_get hjp, u, lo]
          simp [forF, bindTg, getV, getO, Ex.strict, strictAll, papT, papT_at hjR, rI, g1, hpj, pT, ec, cT]
          refine ⟨Nat.lt_of_le_of_lt hlm (by decide), ?_⟩
          by_cases h0 : 0 < c
          · have g2 : L2.atI (intsL R[j]) ((c : Int) - 1) = some (.int (getR R j (c - 1))) := by
              have e : ((c : Int) - 1) = ((c - 1 : Nat) : Int) := by omega
              rw [e, ints_at (by omega), getR_eq hjR]
            refine .inr ⟨h0, ?_⟩
            simp [g2]
            refine ⟨Nat.lt_of_le_of_lt (Nat.add_le_add_right hlm 1) (by decide), ?_⟩
            refine ⟨.val (.int (j : Int)), .val (cT cc), ?_, rfl⟩
            rw [stp]
            simp [h0, intsL, cT, papT, pT, rowT, rI]
          · refine .inl ⟨by omega, ?_⟩
            refine ⟨.val (.int (j : Int)), .val (cT cc), ?_, rfl⟩
            rw [stp]
            simp [h0, intsL, cT, papT, pT, rowT, rI]
        · rintro ρ S4 ⟨s11, s12, rfl, rfl⟩
          have tk : (leanRow cs pn a).take (leanRow cs pn a).length = leanRow cs pn a := List.take_of_length_le (Nat.le_refl _)
          simp only [List.length_map, tk]
          have elm : (maxI (leastL cs pn R pn[a].start c (leanRow cs pn a).reverse)) = some (leastM cs pn R a c) := by
            obtain ⟨x, xs, e⟩ := least_ne cs pn R pn[a].start c (leanRow cs pn a).reverse
            have : leastM cs pn R a c = (maxI (leastL cs pn R pn[a].start c (leanRow cs pn a).reverse)).getD 0 := by simp [leastM, ha]
            rw [this, e]; rfl
          simp [getV, getP, Ex.strict, intsT_ints, elm]
          by_cases hlt : getR R a c < leastM cs pn R a c
          · refine .inr ⟨hlt, ?_⟩
            · have : paperB cs pn m R = false := by
                unfold paperB
                rw [List.all_eq_false]
                refine ⟨a, List.mem_range.mpr ha, ?_⟩
                rw [Bool.not_eq_true, List.all_eq_false]
                exact ⟨c, List.mem_range.mpr hc, by simp; omega⟩
              rw [this]
          · refine .inl ⟨by omega, ⟨_, _, _, _, _, rfl, rfl⟩, fun d hd => ?_⟩
            · rcases Nat.lt_or_ge d c with h' | h'
              · exact hdone2 d h'
              · have : d = c := by omega
                subst this; omega
      · rintro ρ S3 ⟨⟨s8, s9, s10, s11, s12, rfl, rfl⟩, hdone2⟩
        refine ⟨⟨_, _, _, _, _, _, _, _, rfl, rfl⟩, fun d hd c hc => ?_⟩
        rcases Nat.lt_or_ge d a with h' | h'
        · exact hdone d h' c hc
        · have : d = a := by omega
          subst this
          exact hdone2 c (by rw [hzl]; exact hc)
    · rintro ρ S2 ⟨⟨s5, s6, s7, s8, s9, s10, s11, s12, rfl, rfl⟩, hdone⟩
      simp
      unfold paperB
      rw [List.all_eq_true]
      intro a ha
      rw [List.all_eq_true]
      intro c hc
      rw [decide_eq_true_eq]
      exact hdone a (by rw [hz]; exact List.mem_range.mp ha) c (List.mem_range.mp hc)
end
end RD

namespace RD
open PySem
section
variable {cs : List Cs} {pn : List Pn} {m : Nat}
theorem tab_stable : ∀ i, i < pn.length → ∀ c m m', c ≤ m → c ≤ m' → tbB cs pn m i c = tbB cs pn m' i c ∧ tbE cs pn m i c = tbE cs pn m' i c := by
  intro i
  induction i using Nat.strongRecOn with
  | _ i ih =>
    intro hi c m m' h1 h2
    have hb : ∀ c ≤ m, c ≤ m' → tbB cs pn m i c = tbB cs pn m' i c := fun c h1 h2 => by
      rw [(tab_at hi h1).1, (tab_at hi h2).1]
      congr 1
      refine List.map_congr_left fun j hj => ?_
      have hji := lean_lt hj
      exact (ih j hji (by omega) c m m' h1 h2).2
    refine ⟨hb c h1 h2, ?_⟩
    rw [(tab_at hi h1).2, (tab_at hi h2).2, hb c h1 h2]
    by_cases h0 : 0 < c
    · rw [hb (c - 1) (by omega) (by omega)]
    · rw [if_neg h0, if_neg h0]
theorem paperM_len : (paperM cs pn m).length = pn.length := by simp [paperM, tab_len]
theorem paperM_at (G : Good cs pn) {a : Nat} (ha : a < pn.length) : (paperM cs pn m)[a]? = some ((List.range (m + 1)).map fun c => tbB cs pn m a c) := by
  have hl := tab_len (cs := cs) (pn := pn) (m := m) pn.length
  have ha2 : a < (tabM cs pn m pn.length).length := by omega
  unfold paperM
  rw [List.getElem?_map, List.getElem?_eq_getElem ha2]
  simp only [Option.map_some, Option.some.injEq]
  have hr := (tab_row (m := m) G pn.length (Nat.le_refl _) _ (List.getElem_mem ha2)).1
  refine List.ext_getElem (by simp [hr]) fun c h1 h2 => ?_
  have hc : c < m + 1 := by omega
  simp [tbB, List.getElem?_eq_getElem ha2, h1]
theorem paper_ok (G : Good cs pn) : PapOk pn m (paperM cs pn m) := ⟨paperM_len, fun r hr => by
  obtain ⟨a, ha⟩ := List.getElem?_of_mem hr
  have hlt : a < pn.length := by
    have := (List.getElem?_eq_some_iff.mp ha).1
    rwa [paperM_len] at this
  rw [paperM_at G hlt] at ha
  cases ha
  simp⟩
theorem getR_paper (G : Good cs pn) {a c : Nat} (ha : a < pn.length) (hc : c ≤ m) : getR (paperM cs pn m) a c = tbB cs pn m a c := by
  unfold getR
  rw [paperM_at G ha]
  simp [show c < m + 1 by omega]
theorem mem_least {R : List (List Int)} {s : Int} {c : Nat} {y : Int} : ∀ {ps : List Nat}, y ∈ leastL cs pn R s c ps → y = s ∨ ∃ p ∈ ps, y = getR R p c + usOf cs (nmAt pn p) ∨ (0 < c ∧ y = getR R p (c - 1) + loOf cs (nmAt pn p))
  | [], h => by simp [leastL] at h; exact .inl h
  | p :: ps, h => by
    rw [leastL] at h
    rcases List.mem_append.mp h with h | h
    · rcases mem_least h with h | ⟨q, hq, h⟩
      · exact .inl h
      · exact .inr ⟨q, List.mem_cons_of_mem _ hq, h⟩
    · refine .inr ⟨p, by simp, ?_⟩
      rcases List.mem_append.mp h with h | h
      · exact .inl (by simpa using h)
      · by_cases h0 : 0 < c
        · rw [if_pos h0] at h; exact .inr ⟨h0, by simpa using h⟩
        · rw [if_neg h0] at h; cases h
theorem least_le {R : List (List Int)} {a c : Nat} {x : Int} (h : ∀ y ∈ leastL cs pn R (((pn[a]?).map (·.start)).getD 0) c (leanRow cs pn a).reverse, y ≤ x) : leastM cs pn R a c ≤ x := by
  obtain ⟨z, zs, e⟩ := least_ne cs pn R (((pn[a]?).map (·.start)).getD 0) c (leanRow cs pn a).reverse
  unfold leastM
  have hs : ∃ v, maxI (leastL cs pn R (((pn[a]?).map (·.start)).getD 0) c (leanRow cs pn a).reverse) = some v := by rw [e]; exact ⟨_, rfl⟩
  obtain ⟨v, hv⟩ := hs
  rw [hv]
  exact h v (maxI_spec hv).2.1
/-- what is told is a paper -/
theorem paper_is (G : Good cs pn) : paperB cs pn m (paperM cs pn m) = true := by
  unfold paperB
  rw [List.all_eq_true]
  intro a ha
  have ha := List.mem_range.mp ha
  rw [List.all_eq_true]
  intro c hc
  have hc : c ≤ m := by have := List.mem_range.mp hc; omega
  rw [decide_eq_true_eq, getR_paper G ha hc, (tab_at ha hc).1]
  refine least_le fun y hy => ?_
  rcases mem_least hy with rfl | ⟨p, hp, h⟩
  · simp only [List.getElem?_eq_getElem ha, Option.map_some, Option.getD_some]
    exact fmx_init
  · have hpr := List.mem_reverse.mp hp
    have hpa := lean_lt hpr
    have hpn : p < pn.length := by omega
    refine Int.le_trans ?_ (fmx_mem (List.mem_map.mpr ⟨p, hpr, rfl⟩))
    rw [(tab_at hpn hc).2]
    rcases h with rfl | ⟨h0, rfl⟩
    · rw [getR_paper G hpn hc, nm_get hpn]; exact le_mxl
    · rw [getR_paper G hpn (by omega), nm_get hpn, if_pos h0]; exact le_mxr
theorem frs_b (G : Good cs pn) {a : Nat} (ha : a < pn.length) : ∃ f : Fr, (latM cs pn m)[a]? = some f ∧ f.b = tbB cs pn m a m ∧ f.e = tbE cs pn m a m ∧ f.name = pn[a].name := by
  rw [lat_eq G]
  refine ⟨_, by simp [ha]; rfl, rfl, rfl, nm_get ha⟩
end
def wrG (cs : List Cs) (pn : List Pn) (t : T) : T := match t with
  | .int c => .lst ((latM cs pn c.toNat).map fT)
  | _ => .non
def duG (a : Nat) (t : T) : T := match t with
  | .lst l => match l[a]? with
    | some (.tup [_, b, _]) => b
    | _ => .non
  | _ => .non
def du2G (cs : List Cs) (pn : List Pn) (m : Nat) (t : T) : T := match t with
  | .int a => rI ((List.range (m + 1)).map fun c => tbB cs pn m a.toNat c)
  | _ => .non
theorem eq_pap (R : List (List Int)) : eqT (papT R) (papT R) = some true := by
  have hp : ∀ l : List Int, pls (intsL l) = true := fun l => pls_all fun t ht => by obtain ⟨s, hs, rfl⟩ := mem_intsL.mp ht; rfl
  have hd : ∀ l : List Int, dps (intsL l) = 0 := fun l => Nat.le_zero.mp (dps_all fun t ht => by obtain ⟨s, hs, rfl⟩ := mem_intsL.mp ht; simp [dp])
  refine eqT_self ?_ ?_
  · have : pls (R.map rI) = true := pls_all fun t ht => by
      obtain ⟨l, _, rfl⟩ := List.mem_map.mp ht
      simpa [rI, pl] using hp l
    simpa [papT, pl] using this
  · have : dps (R.map rI) ≤ 1 := dps_all fun t ht => by
      obtain ⟨l, _, rfl⟩ := List.mem_map.mp ht
      simp [rI, dp, hd]
    simp [papT, dp]; omega
section
variable {cst : Str → Option T} {fuel : Nat} {ds : List Dn} {S : Store}
structure HasP (ds : List Dn) : Prop where
  paper : Has ds d_paper
  is_paper : Has ds d_is_paper
  numbers : Has ds d_is_numbers
  whole : Has ds d_is_whole
def Law6J (ns : List Int) (i : Nat) (ρ : Env) (S : Store) : Prop := ∃ s1 s2 s3 s4 s5 s6 s7 s8 s9 s10 s11, ρ = [.val (.scr ns), s1, s2, s3, s4, s5, s6, s7, s8, s9, s10, s11]
theorem law6_spec (H1 : HasD ds) (H2 : HasT ds) (H3 : HasW ds) (H4 : HasP ds) (hlaw : Has ds d_law_k06) (k : Nat) (ns : List Int) (hns : ns.length ≤ 63) : Y (callK cst fuel ds (k + 8) "law" [.scr ns] S) fun t _ => t = .bl true := by
  refine y_callK hlaw rfl ?_
  simp [d_law_k06, startE, getV, Ex.strict, strictAll, newE, Itr.strict]
  refine ⟨okR_small (by omega) (by omega), ?_⟩
  refine y_forI (Law6J ns) ?_ ?_ ⟨_, _, _, _, _, _, _, _, _, _, _, rfl⟩
  · rintro i x ρ S1 hx ⟨s1, s2, s3, s4, s5, s6, s7, s8, s9, s10, s11, rfl⟩
    obtain ⟨b, hb, rfl⟩ := mem_rng (List.mem_of_getElem? hx)
    simp [forF, bindTg, setAll, getV, getO, Ex.strict, strictAll, newE, Itr.strict]
    refine (bag_spec H1.draws.bag _ (by omega) (by omega)).mono fun t S2 ⟨n, e, b2⟩ => ?_
    subst e
    refine (drawn_spec H1.draws H1.plan H1.drawn _ b2 (by decide) (by decide)).mono fun t S3 ⟨b3, r, ps, cs, pn, e, r1, r4, p5, hps, hcs, c8, hpn, p8, hnm, hnd, hp5, hpr⟩ => ?_
    subst e
    have G : Good cs pn := goodP_of hps hcs hpn (by omega)
    have V : Vals cs pn := vals_of hcs hpn
    simp [setAll]
    refine (take_spec H1.draws.take _ b3 (by decide) (by decide)).mono fun t S7 ⟨b7, i3, e, i30, i31⟩ => ?_
    subst e
    obtain ⟨m, rfl⟩ := Int.eq_ofNat_of_zero_le i30
    simp
    refine ⟨okR_small (by omega) (by omega), ?_⟩
    refine y_mapLx (g := fun t => [wrG cs pn t]) (fun x hx => ?_) ?_
    · obtain ⟨c, hc, rfl⟩ := mem_rng hx
      simp [lcF, bindTg, Tg.slots, wipeE, condT, getV, Ex.strict, strictAll]
      refine (worst_spec (m := c) H3.worst H3.lots H3.minutes H3.ltold H3.lleans G (by omega) (by omega) _).mono fun t S10 ⟨e, eS⟩ => ?_
      subst e eS
      rw [← latest_worst G V]
      simp [wrG]
    · rw [rng_map]
      simp [okR_small (i := (pn.length : Int)) (by omega) (by omega)]
      refine ⟨by omega, ?_⟩
      refine y_mapLx (g := fun t => [du2G cs pn m t]) (fun x hx => ?_) ?_
      · obtain ⟨a, ha, rfl⟩ := mem_rng hx
        simp [lcF, bindTg, Tg.slots, wipeE, condT, getV, Ex.strict, strictAll]
        refine y_mapLx (g := fun t => [duG a t]) (fun x hx => ?_) ?_
        · obtain ⟨c, hc, rfl⟩ := List.mem_map.mp hx
          obtain ⟨f, hf, f1, f2, f3⟩ := frs_b (cs := cs) (m := c) G ha
          have ef : L2.atI ((latM cs pn c).map fT) (a : Int) = some (fT f) := atI_nat (by rw [List.getElem?_map, hf]; rfl)
          simp [lcF, bindTg, Tg.slots, wipeE, condT, getV, Ex.strict, strictAll, wrG, ef, fT, duG, hf]
        · rw [map1]
          simp
          simp only [du2G, rI, intsL, List.map_map]
          refine congrArg T.tup (List.map_congr_left fun c hc => ?_)
          have hc := List.mem_range.mp hc
          obtain ⟨f, hf, f1, f2, f3⟩ := frs_b (cs := cs) (m := c) G ha
          simp only [Function.comp, wrG, duG, Int.toNat_natCast, List.getElem?_map, hf, Option.map_some, fT, f1]
          rw [(tab_stable a ha c c m (Nat.le_refl _) (by omega)).1]
      · have e1 : (rngT 0 pn.length).flatMap (fun t => [du2G cs pn m t]) = (paperM cs pn m).map rI := by
          rw [rng_map]
          refine List.ext_getElem? fun a => ?_
          rw [List.getElem?_map, List.getElem?_map]
          by_cases ha : a < pn.length
          · rw [paperM_at G ha, List.getElem?_range ha]; simp [du2G]
          · rw [List.getElem?_eq_none (by simp; omega), List.getElem?_eq_none (by rw [paperM_len]; omega)]; rfl
        rw [e1]
        refine (paper_spec H4.paper H2 G (by omega) _).mono fun t S10 ⟨e, eS⟩ => ?_
        subst e eS
        have e2 := eq_pap (paperM cs pn m)
        unfold papT at e2
        simp [papT, e2]
        refine (is_paper_spec H4.is_paper H4.numbers H4.whole H2.leans H2.by_name H2.meet G (m := m) (by omega) (paper_ok G) _).mono fun t S10 ⟨e, eS⟩ => ?_
        subst e eS
        simp [paper_is G]
        exact ⟨_, _, _, _, _, _, _, _, _, _, _, rfl⟩
  · rintro ρ S1 ⟨s1, s2, s3, s4, s5, s6, s7, s8, s9, s10, s11, rfl⟩
    simp
end
end RD

namespace RD
open PySem

/-! ### more is never earlier -/
theorem tab_embed {W W' : Wd} (O' : W'.Ok) {σ : Nat → Nat} (hσ : ∀ i < W'.n, σ i < W.n) (hs : ∀ i < W'.n, W'.s i ≤ W.s (σ i)) (hu : ∀ i < W'.n, W'.u i ≤ W.u (σ i)) (hl : ∀ i < W'.n, W'.l i ≤ W.l (σ i)) (hrow : ∀ i < W'.n, ∀ j ∈ W'.row i, σ j ∈ W.row (σ i))
    {TB TE TB' TE' : Nat → Nat → Int} (HT : W.IsTab TB TE) (HT' : W'.IsTab TB' TE') : ∀ i, i < W'.n → ∀ c, TB' i c ≤ TB (σ i) c ∧ TE' i c ≤ TE (σ i) c := by
  intro i
  induction i using Nat.strongRecOn with
  | _ i ih =>
    intro hi
    have hB : ∀ c, TB' i c ≤ TB (σ i) c := fun c => by
      rw [(HT' i hi c).1, (HT (σ i) (hσ i hi) c).1, fmx_le]
      refine ⟨Int.le_trans (hs i hi) fmx_init, fun y hy => ?_⟩
      obtain ⟨j, hj, rfl⟩ := List.mem_map.mp hy
      have hji := O'.row i j hj
      exact Int.le_trans (ih j hji (by omega) c).2 (fmx_mem (List.mem_map.mpr ⟨σ j, hrow i hi j hj, rfl⟩))
    refine fun c => ⟨hB c, ?_⟩
    rw [(HT' i hi c).2, (HT (σ i) (hσ i hi) c).2, mx_le]
    refine ⟨Int.le_trans (Int.add_le_add (hB c) (hu i hi)) le_mxl, ?_⟩
    by_cases h0 : 0 < c
    · rw [if_pos h0, if_pos h0]
      exact Int.le_trans (Int.add_le_add (hB (c - 1)) (hl i hi)) le_mxr
    · rw [if_neg h0, if_neg h0]
      exact le_mxr
theorem tab_up {W : Wd} (O : W.Ok) {TB TE : Nat → Nat → Int} (HT : W.IsTab TB TE) : ∀ i, i < W.n → ∀ c, TB i c ≤ TB i (c + 1) ∧ TE i c ≤ TE i (c + 1) := by
  intro i
  induction i using Nat.strongRecOn with
  | _ i ih =>
    intro hi
    have hB : ∀ c, TB i c ≤ TB i (c + 1) := fun c => by
      rw [(HT i hi c).1, (HT i hi (c + 1)).1, fmx_le]
      refine ⟨fmx_init, fun y hy => ?_⟩
      obtain ⟨j, hj, rfl⟩ := List.mem_map.mp hy
      have hji := O.row i j hj
      exact Int.le_trans (ih j hji (by omega) c).2 (fmx_mem (List.mem_map.mpr ⟨j, hj, rfl⟩))
    refine fun c => ⟨hB c, ?_⟩
    rw [(HT i hi c).2, (HT i hi (c + 1)).2, mx_le, if_pos (by omega)]
    refine ⟨Int.le_trans (Int.add_le_add_right (hB c) _) le_mxl, ?_⟩
    by_cases h0 : 0 < c
    · rw [if_pos h0]
      have := hB (c - 1)
      rw [show c - 1 + 1 = c by omega] at this
      exact Int.le_trans (Int.add_le_add_right this _) (by rw [show c + 1 - 1 = c by omega]; exact le_mxr)
    · rw [if_neg h0]
      have h1 := tab_nonneg O HT i hi (c + 1)
      have h2 := O.u0 i hi
      exact Int.le_trans (by omega) le_mxl
theorem day_mono {W : Wd} (O : W.Ok) {f g : Nat → Bool} (hfg : ∀ i, f i = true → g i = true) {B E B' E' : Nat → Int} (h1 : W.IsDay f B E) (h2 : W.IsDay g B' E') : ∀ i, i < W.n → B i ≤ B' i ∧ E i ≤ E' i := by
  intro i
  induction i using Nat.strongRecOn with
  | _ i ih =>
    intro hi
    have hb : B i ≤ B' i := by
      rw [(h1 i hi).1, (h2 i hi).1, fmx_le]
      refine ⟨fmx_init, fun y hy => ?_⟩
      obtain ⟨j, hj, rfl⟩ := List.mem_map.mp hy
      have hji := O.row i j hj
      exact Int.le_trans (ih j hji (by omega)).2 (fmx_mem (List.mem_map.mpr ⟨j, hj, rfl⟩))
    refine ⟨hb, ?_⟩
    rw [(h1 i hi).2, (h2 i hi).2]
    have ul := O.ul i hi
    cases hf : f i with
    | true => rw [hfg i hf]; simp; omega
    | false => cases g i <;> simp <;> omega
theorem cnt_le (f : Nat → Bool) : ∀ n, cnt f n ≤ n
  | 0 => Nat.le_refl _
  | n + 1 => by have := cnt_le f n; simp only [cnt]; split <;> omega
theorem cnt_none {f : Nat → Bool} : ∀ {n : Nat}, cnt f n = 0 → ∀ j < n, f j = false
  | n + 1, h, j, hj => by
    simp only [cnt] at h
    rcases Nat.lt_or_ge j n with h' | h'
    · exact cnt_none (n := n) (by omega) j h'
    · have : j = n := by omega
      subst this
      cases hf : f j with
      | false => rfl
      | true => simp [hf] at h
section
variable {cs : List Cs} {pn : List Pn} {m : Nat}
theorem wd_n : (wdOf cs pn).n = pn.length := rfl
theorem lat_up (V : Vals cs pn) {j : Nat} (hj : j < pn.length) : tbB cs pn m j m ≤ tbB cs pn (m + 1) j (m + 1) ∧ tbE cs pn m j m ≤ tbE cs pn (m + 1) j (m + 1) := by
  obtain ⟨TB, TE, HT, hT⟩ := is_tab_ext V
  have := tab_up (wd_ok V) HT j hj m
  rw [(hT j hj m).1, (hT j hj m).2, (hT j hj (m + 1)).1, (hT j hj (m + 1)).2] at this
  exact this
theorem lat_embed {cs' : List Cs} {pn' : List Pn} (V : Vals cs pn) (V' : Vals cs' pn') {σ : Nat → Nat} (hσ : ∀ i < pn'.length, σ i < pn.length) (hs : ∀ i < pn'.length, (wdOf cs' pn').s i ≤ (wdOf cs pn).s (σ i)) (hu : ∀ i < pn'.length, usOf cs' (nmAt pn' i) ≤ usOf cs (nmAt pn (σ i)))
    (hl : ∀ i < pn'.length, loOf cs' (nmAt pn' i) ≤ loOf cs (nmAt pn (σ i))) (hrow : ∀ i < pn'.length, ∀ j ∈ leanRow cs' pn' i, σ j ∈ leanRow cs pn (σ i)) {j : Nat} (hj : j < pn'.length) : tbB cs' pn' m j m ≤ tbB cs pn m (σ j) m ∧ tbE cs' pn' m j m ≤ tbE cs pn m (σ j) m := by
  obtain ⟨TB, TE, HT, hT⟩ := is_tab_ext V
  obtain ⟨TB', TE', HT', hT'⟩ := is_tab_ext V'
  have := tab_embed (wd_ok V') (W := wdOf cs pn) (σ := σ) hσ hs hu hl hrow HT HT' j hj m
  rw [(hT' j hj m).1, (hT' j hj m).2, (hT (σ j) (hσ j hj) m).1, (hT (σ j) (hσ j hj) m).2] at this
  exact this
theorem lat_usual (G : Good cs pn) (V : Vals cs pn) : latM cs pn 0 = told cs pn (timesF cs pn fun _ => false) pn.length := by
  rw [lat_eq G]
  refine List.ext_getElem (by simp [told_len]) fun j h1 h2 => ?_
  have hj : j < pn.length := by simpa using h1
  obtain ⟨TB, TE, HT, hT⟩ := is_tab_ext V
  have HD := fun f => is_day (cs := cs) (pn := pn) f
  obtain ⟨⟨f, f1, f2, f3⟩, ⟨g, g1, g2, g3⟩⟩ := tab_reach (wd_ok V) HT HD j hj 0
  have ef : f = fun _ => false := funext fun k => by
    rcases Nat.lt_or_ge k j with h | h
    · exact cnt_none (Nat.le_zero.mp f2) k h
    · exact f1 k h
  have eg : g = fun _ => false := funext fun k => by
    rcases Nat.lt_or_ge k (j + 1) with h | h
    · exact cnt_none (Nat.le_zero.mp g2) k h
    · exact g1 k h
  subst ef eg
  rw [(hT j hj 0).1] at f3
  rw [(hT j hj 0).2] at g3
  have hg := told_get (cs := cs) (pn := pn) (ms := timesF cs pn fun _ => false) hj
  rw [List.getElem?_eq_getElem h2, Option.some.injEq] at hg
  have hp := List.getElem?_eq_getElem hj
  have hm : (timesF cs pn fun _ => false)[j]? = some (usOf cs (nmAt pn j)) := by simp [timesF, hj]
  rw [hg]
  rw [told_beg hj] at f3
  rw [told_end hj] at g3
  rw [row_eq hp hm] at f3 g3 ⊢
  simp only [List.getElem_map, List.getElem_range, nm_get hj]
  simp only [nm_get hj] at f3 g3
  rw [← f3, ← g3]
theorem lat_all (G : Good cs pn) (V : Vals cs pn) (hn : pn.length ≤ m) {f : Nat → Bool} (hf : ∀ i < pn.length, f i = true) : latM cs pn m = told cs pn (timesF cs pn f) pn.length := by
  rw [lat_eq G]
  refine List.ext_getElem (by simp [told_len]) fun j h1 h2 => ?_
  have hj : j < pn.length := by simpa using h1
  obtain ⟨TB, TE, HT, hT⟩ := is_tab_ext V
  have HD := fun f => is_day (cs := cs) (pn := pn) f
  have hup := tab_upper (wd_ok V) HT (HD f) j hj m
  obtain ⟨⟨f', f1, f2, f3⟩, ⟨g, g1, g2, g3⟩⟩ := tab_reach (wd_ok V) HT HD j hj m
  have ht : timesF cs pn f = timesF cs pn fun _ => true := by
    unfold timesF
    refine List.map_congr_left fun i hi => ?_
    rw [hf i (List.mem_range.mp hi)]
  have m1 := (day_mono (wd_ok V) (f := f') (g := fun _ => true) (fun _ _ => rfl) (HD f') (HD _) j hj).1
  have m2 := (day_mono (wd_ok V) (f := g) (g := fun _ => true) (fun _ _ => rfl) (HD g) (HD _) j hj).2
  rw [f3, (hT j hj m).1] at m1
  rw [g3, (hT j hj m).2] at m2
  have u1 := hup.1 (Nat.le_trans (cnt_le _ _) (by omega))
  have u2 := hup.2 (Nat.le_trans (cnt_le _ _) (by omega))
  rw [(hT j hj m).1] at u1
  rw [(hT j hj m).2] at u2
  rw [← ht] at m1 m2
  have hg := told_get (cs := cs) (pn := pn) (ms := timesF cs pn f) hj
  rw [List.getElem?_eq_getElem h2, Option.some.injEq] at hg
  have hp := List.getElem?_eq_getElem hj
  have hm : (timesF cs pn f)[j]? = some (if f j = true then loOf cs (nmAt pn j) else usOf cs (nmAt pn j)) := by simp [timesF, hj]
  rw [hg]
  rw [told_beg hj] at m1 u1
  rw [told_end hj] at m2 u2
  rw [row_eq hp hm] at m1 m2 u1 u2 ⊢
  simp only [List.getElem_map, List.getElem_range, nm_get hj, Fr.mk.injEq, true_and]
  simp only [nm_get hj] at m1 m2 u1 u2
  exact ⟨Int.le_antisymm m1 u1, Int.le_antisymm m2 u2⟩
end
/-! ### the law's own comparison -/
theorem valT_merge {k : Key} {v : T} : ∀ {more acc : List (Key × T)}, valT (mergeT acc more) k = some v → valT acc k = some v ∨ (k, v) ∈ more
  | [], acc, h => .inl h
  | (j, u) :: more, acc, h => by
    rcases valT_merge (more := more) (acc := putT acc j u) h with h | h
    · rw [valT_put] at h
      by_cases e : j = k
      · rw [if_pos e] at h; cases h; subst e; exact .inr (by simp)
      · rw [if_neg e] at h; exact .inl h
    · exact .inr (List.mem_cons_of_mem _ h)
def fpG (t : T) : T := .tup [match t with | .tup (x :: _) => x | _ => .non, t]
theorem pairs_fr (l : List Fr) : pairsT ((l.map fT).flatMap fun t => [fpG t]) = some (l.map fun f => ((.inr f.name : Key), fT f)) := by
  rw [map1]
  induction l with
  | nil => rfl
  | cons f l ih =>
    simp only [List.map_cons, pairsT, fpG, fT, keyT] at ih ⊢
    rw [ih]
def frD (l : List Fr) : List (Key × T) := mergeT [] (l.map fun f => ((.inr f.name : Key), fT f))
theorem frD_mem {l : List Fr} {x : Str} {v : T} (h : valT (frD l) (.inr x) = some v) : ∃ f ∈ l, v = fT f ∧ f.name = x := by
  rcases valT_merge h with h | h
  · simp [valT] at h
  · obtain ⟨f, hf, e⟩ := List.mem_map.mp h
    simp only [Prod.mk.injEq, Sum.inr.injEq] at e
    exact ⟨f, hf, e.2.symm, e.1⟩
section
variable {cst : Str → Option T} {fuel : Nat} {ds : List Dn} {S : Store} {cs : List Cs} {pn : List Pn} {m : Nat}
def NEJ (one two : List Fr) (S : Store) (i : Nat) (ρ : Env) (S' : Store) : Prop := ∃ s3, ρ = [.val (.lst (one.map fT)), .val (.lst (two.map fT)), .val (.dct (frD two)), s3] ∧ S' = S
theorem no_earlier_spec (h : Has ds d__law_no_earlier) {one two : List Fr} (hle : ∀ f ∈ one, ∀ g ∈ two, g.name = f.name → f.b ≤ g.b ∧ f.e ≤ g.e) (k : Nat) : Y (callK cst fuel ds (k + 1) "_law_no_earlier" [.lst (one.map fT), .lst (two.map fT)] S) fun t S' => t = .bl true ∧ S' = S := by
  refine y_callK h rfl ?_
  simp [d__law_no_earlier, startE, getV, Ex.strict, strictAll, Itr.strict]
  refine y_mapLx (g := fun t => [fpG t]) (fun x hx => ?_) ?_
  · obtain ⟨f, hf, rfl⟩ := List.mem_map.mp hx
    simp [lcF, bindTg, Tg.slots, wipeE, condT, getV, Ex.strict, strictAll, fT, fpG]
  · rw [pairs_fr]
    simp
    refine y_forI (NEJ one two S) ?_ ?_ ⟨_, rfl, rfl⟩
    · rintro i x ρ S1 hx ⟨s3, rfl, rfl⟩
      rw [List.getElem?_map, Option.map_eq_some_iff] at hx
      obtain ⟨f, hf, rfl⟩ := hx
      have hfm := List.mem_of_getElem? hf
      simp [forF, bindTg, getV, Ex.strict, strictAll, fT]
      have ein : inT (.str f.name) (.dct (frD two)) = some (valT (frD two) (.inr f.name)).isSome := rfl
      cases hv : valT (frD two) (.inr f.name) with
      | none =>
        rw [hv] at ein
        simp [ein]
        exact ⟨_, rfl, rfl⟩
      | some v =>
        rw [hv] at ein
        obtain ⟨g, hg, rfl, en⟩ := frD_mem hv
        obtain ⟨l1, l2⟩ := hle f hfm g hg en
        simp [ein, fT]
        exact ⟨l1, l2, _, rfl, rfl⟩
    · rintro ρ S1 ⟨s3, rfl, rfl⟩
      simp
end
end RD

namespace RD
open PySem

theorem cut_take {α : Type} {l : List α} {k : Nat} (h : k ≤ l.length) : cutT l none (some (k : Int)) = l.take k := by
  unfold cutT
  rw [HT.sIx_nat, HT.sIx_none, Nat.min_eq_left h]; simp
theorem cut_drop {α : Type} {l : List α} {k : Nat} (h : k ≤ l.length) : cutT l (some (k : Int)) none = l.drop k := by
  unfold cutT
  rw [HT.sIx_nat, HT.sIx_none, Nat.min_eq_left h]
  exact List.take_of_length_le (by simp)
theorem cut_init {α : Type} {l : List α} : cutT l none (some (-1)) = l.take (l.length - 1) := by
  unfold cutT
  have e : HT.sIx l.length l.length (some (-1)) = l.length - 1 := by
    show (if (-1 : Int) < 0 then ((-1 : Int) + (l.length : Int)).toNat else min (-1 : Int).toNat l.length) = l.length - 1
    rw [if_pos (by decide)]; omega
  rw [HT.sIx_none, e]; simp
theorem atI_end {α : Type} {l : List α} (h : l ≠ []) : L2.atI l (-1) = some (l.getLast h) := by
  have hp := List.length_pos_iff.mpr h
  unfold L2.atI L2.ixN
  rw [if_neg (by omega), if_pos (by omega)]
  have e : ((-1 : Int) + (l.length : Int)).toNat = l.length - 1 := by omega
  simp only [e]
  rw [List.getLast_eq_getElem]
  simp [show l.length - 1 < l.length by omega]
/-! ### longer cases -/
structure Lng (c c' : Cs) : Prop where
  name : c'.name = c.name
  usual : c'.usual = c.usual
  team : c'.team = c.team
  places : c'.places = c.places
  first : c'.first = c.first
  le : c.longest ≤ c'.longest
  most : c'.longest ≤ 400
theorem lng_look {cs cs' : List Cs} (h : All2 Lng cs cs') (x : Str) : (look' cs x = none ∧ look' cs' x = none) ∨ ∃ c c', look' cs x = some c ∧ look' cs' x = some c' ∧ Lng c c' := by
  unfold look'
  have key : ∀ {cs cs' : List Cs}, All2 Lng cs cs' → ∀ o o' : Option Cs, ((o = none ∧ o' = none) ∨ ∃ c c', o = some c ∧ o' = some c' ∧ Lng c c') →
      ((cs.foldl (fun acc c => if c.name = x then some c else acc) o = none ∧ cs'.foldl (fun acc c => if c.name = x then some c else acc) o' = none) ∨ ∃ c c', cs.foldl (fun acc c => if c.name = x then some c else acc) o = some c ∧ cs'.foldl (fun acc c => if c.name = x then some c else acc) o' = some c' ∧ Lng c c') := by
    intro cs cs' h
    induction h with
    | nil => intro o o' h; exact h
    | @cons a b l m h _ ih =>
      intro o o' ho
      simp only [List.foldl_cons]
      refine ih _ _ ?_
      by_cases e : a.name = x
      · rw [if_pos e, if_pos (by rw [h.name, e])]
        exact .inr ⟨_, _, rfl, rfl, h⟩
      · rw [if_neg e, if_neg (by rw [h.name]; exact e)]
        exact ho
  exact key h none none (.inl ⟨rfl, rfl⟩)
section
variable {cs cs' : List Cs} {pn : List Pn}
theorem lng_us (h : All2 Lng cs cs') (x : Str) : usOf cs' x = usOf cs x ∧ loOf cs x ≤ loOf cs' x ∧ teamOf cs' x = teamOf cs x := by
  rcases lng_look h x with ⟨h1, h2⟩ | ⟨c, c', h1, h2, h3⟩
  · simp [usOf, loOf, teamOf, h1, h2]
  · simp [usOf, loOf, teamOf, h1, h2, h3.usual, h3.team, h3.le]
theorem lng_row (h : All2 Lng cs cs') (a : Nat) : leanRow cs' pn a = leanRow cs pn a := by
  unfold leanRow
  congr 1
  funext b
  unfold meetAt
  cases pn[a]? <;> cases pn[b]? <;> simp only []
  unfold meetB
  rw [(lng_us h _).2.2, (lng_us h _).2.2]
end
/-! ### fewer cases, a later start -/
def skipAt (at_ j : Nat) : Nat := if j < at_ then j else j + 1
theorem fewer_get {α : Type} {l : List α} {a j : Nat} (ha : a < l.length) : (l.take a ++ l.drop (a + 1))[j]? = l[skipAt a j]? := by
  unfold skipAt
  by_cases h : j < a
  · rw [if_pos h, List.getElem?_append_left (by simp; omega), List.getElem?_take_of_lt h]
  · rw [if_neg h, List.getElem?_append_right (by simp; omega), List.getElem?_drop]
    congr 1
    simp
    omega
def laterP (p : Pn) (s : Int) : Pn := ⟨s, p.name, p.room⟩
theorem last_get {l : List Pn} (h : l ≠ []) (s : Int) {j : Nat} (hj : j < l.length) : ∃ q, (l.take (l.length - 1) ++ [laterP (l.getLast h) s])[j]? = some q ∧ q.name = l[j].name ∧ q.room = l[j].room ∧ (q.start = l[j].start ∨ (j = l.length - 1 ∧ q.start = s)) := by
  by_cases hl : j < l.length - 1
  · refine ⟨l[j], ?_, rfl, rfl, .inl rfl⟩
    rw [List.getElem?_append_left (by simp; omega), List.getElem?_take_of_lt hl]; simp [hj]
  · have e : j = l.length - 1 := by omega
    refine ⟨laterP (l.getLast h) s, ?_, ?_, ?_, .inr ⟨e, rfl⟩⟩
    · rw [List.getElem?_append_right (by simp; omega)]
      simp [e]
    · subst e; simp [laterP, List.getLast_eq_getElem]
    · subst e; simp [laterP, List.getLast_eq_getElem]
theorem lat_no {cs cs' : List Cs} {pn pn' : List Pn} {m m' : Nat} (G : Good cs pn) (G' : Good cs' pn') (nd : (pn.map (·.name)).Nodup) {σ : Nat → Nat} (hσ : ∀ j < pn'.length, σ j < pn.length) (hn : ∀ j < pn'.length, nmAt pn' j = nmAt pn (σ j))
    (h : ∀ j < pn'.length, tbB cs' pn' m' j m' ≤ tbB cs pn m (σ j) m ∧ tbE cs' pn' m' j m' ≤ tbE cs pn m (σ j) m) : ∀ f ∈ latM cs' pn' m', ∀ g ∈ latM cs pn m, g.name = f.name → f.b ≤ g.b ∧ f.e ≤ g.e := by
  intro f hf g hg en
  rw [lat_eq G'] at hf
  rw [lat_eq G] at hg
  obtain ⟨j, hj, rfl⟩ := List.mem_map.mp hf
  obtain ⟨i, hi, rfl⟩ := List.mem_map.mp hg
  have hj := List.mem_range.mp hj
  have hi := List.mem_range.mp hi
  have hs := hσ j hj
  simp only [hn j hj] at en
  rw [nm_get hi, nm_get hs] at en
  have : i = σ j := by
    have h1 : i < (pn.map (·.name)).length := by simpa using hi
    have h2 : σ j < (pn.map (·.name)).length := by simpa using hs
    exact (List.getElem_inj (h₀ := h1) (h₁ := h2) nd).mp (by rw [List.getElem_map, List.getElem_map]; exact en)
  subst this
  exact h j hj
theorem lat_no1 {cs cs' : List Cs} {pn pn' : List Pn} {m m' : Nat} (G : Good cs pn) (G' : Good cs' pn') (nd : (pn.map (·.name)).Nodup) (hl : pn'.length = pn.length) (hn : ∀ j < pn.length, nmAt pn' j = nmAt pn j)
    (h : ∀ j < pn.length, tbB cs pn m j m ≤ tbB cs' pn' m' j m' ∧ tbE cs pn m j m ≤ tbE cs' pn' m' j m') : ∀ f ∈ latM cs pn m, ∀ g ∈ latM cs' pn' m', g.name = f.name → f.b ≤ g.b ∧ f.e ≤ g.e := by
  have e : pn'.map (·.name) = pn.map (·.name) := by
    refine List.ext_getElem (by simp [hl]) fun j h1 h2 => ?_
    have hj : j < pn.length := by simpa using h2
    have := hn j hj
    rw [nm_get hj, nm_get (by omega)] at this
    simpa using this
  exact lat_no (σ := fun j => j) G' G (by rw [e]; exact nd) (fun j hj => by omega) (fun j hj => (hn j hj).symm) h
theorem lat_pl {cs : List Cs} {pn : List Pn} {m : Nat} (G : Good cs pn) : ∀ f ∈ latM cs pn m, pl (.str f.name) = true := fun f hf => by
  obtain ⟨p, hp, e⟩ := lat_ok G f hf
  rw [e]; exact G.nm p hp
theorem in_lrow {i : Nat} {n : Nat} : inT (.int (i : Int)) (.lst ((List.range n).map fun (j : Nat) => T.int (j : Int))) = some (inL (List.range n) i) := by
  have h : pls ((List.range n).map fun (n : Nat) => T.int (n : Int)) = true := pls_all fun t ht => by obtain ⟨n, _, rfl⟩ := List.mem_map.mp ht; rfl
  have hd : dps ((List.range n).map fun (n : Nat) => T.int (n : Int)) ≤ 0 := dps_all fun t ht => by obtain ⟨n, _, rfl⟩ := List.mem_map.mp ht; simp [dp]
  have e := in_row (i := i) (L := List.range n)
  unfold rowT at e
  rw [inT_tup rfl h (by simp [dp]) (by omega)] at e
  have e2 : shp (.lst ((List.range n).map fun (n : Nat) => T.int (n : Int))) = some (.list (((List.range n).map fun (n : Nat) => T.int (n : Int)).map encT)) := by rw [← enc_lst h]; exact shp_of (by simpa [pl] using h) (by simp [dp]; omega)
  unfold inT
  simp only [shp_of (t := .int (i : Int)) rfl (by simp [dp]), e2, List.any_map, Function.comp_def] at e ⊢
  exact e
theorem in_lnil {i : Nat} : inT (.int (i : Int)) (.lst []) = some false := rfl
section
variable {cst : Str → Option T} {fuel : Nat} {ds : List Dn} {S : Store}
def Law28J (ns : List Int) (i : Nat) (ρ : Env) (S : Store) : Prop := ∃ s1 s2 s3 s4 s5 s6 s7 s8 s9 s10 s11 s12 s13 s14 s15, ρ = [.val (.scr ns), s1, s2, s3, s4, s5, s6, s7, s8, s9, s10, s11, s12, s13, s14, s15]
def Turn28J (ns : List Int) (cs : List Cs) (pn : List Pn) (i : Nat) (ρ : Env) (S : Store) : Prop := ∃ s1 s2 s3 s6 s7 s8 s9 s10 s11 s12 s13 s14 s15, ρ = [.val (.scr ns), s1, s2, s3, .val (.tup (cs.map cT)), .val (.tup (pn.map pT)), s6, s7, s8, s9, s10, s11, s12, s13, s14, s15]
theorem tail28 {ns : List Int} {cs : List Cs} {pn : List Pn} {k : Nat} (H2 : HasT ds) (hla : Has ds d_latest) (hmi : Has ds d__law_minutes) (ht : Has ds d__law_told_day) (hl : Has ds d__law_leans) (G : Good cs pn) (V : Vals cs pn) (h8 : pn.length ≤ 8) {x : T} {ρ : Env} {i : Nat} (hx : x = .tup [.int 0, .lst []] ∨ x = .tup [.int 8, .lst ((List.range pn.length).map fun (j : Nat) => T.int (j : Int))]) (hJ : Turn28J ns cs pn i ρ S) :
    Y (forF (.tup [12, 13]) (exs (gl cst fuel ds (k + 7) "law") ((.cons (.set 14 (.call "_law_told_day" (.cons (.var 4) (.cons (.var 5) (.cons (.call "_law_minutes" (.cons (.var 4) (.cons (.var 5) (.cons (.var 13) .nil)))) .nil))))) (.cons (.ite (.cmp .ne (.call "latest" (.cons (.var 4) (.cons (.var 5) (.cons (.var 12) .nil)))) (.var 14))
    (.cons (.ret (.bl false)) .nil)
    .nil) .nil)))) x ρ S) fun r S' => match r.2 with
      | .next => Turn28J ns cs pn (i + 1) r.1 S'
      | .cont => Turn28J ns cs pn (i + 1) r.1 S'
      | .brk => False
      | .ret t => False := by
  obtain ⟨s1, s2, s3, s6, s7, s8, s9, s10, s11, s12, s13, s14, s15, rfl⟩ := hJ
  have key : ∀ (c : Nat) (lt : T) (f : Nat → Bool), x = .tup [.int (c : Int), lt] → (∀ S, view S lt = some lt) → (∀ i : Nat, inT (.int (i : Int)) lt = some (f i)) → c ≤ 100 → latM cs pn c = told cs pn (timesF cs pn f) pn.length →
      Y (forF (.tup [12, 13]) (exs (gl cst fuel ds (k + 7) "law") ((.cons (.set 14 (.call "_law_told_day" (.cons (.var 4) (.cons (.var 5) (.cons (.call "_law_minutes" (.cons (.var 4) (.cons (.var 5) (.cons (.var 13) .nil)))) .nil))))) (.cons (.ite (.cmp .ne (.call "latest" (.cons (.var 4) (.cons (.var 5) (.cons (.var 12) .nil)))) (.var 14))
    (.cons (.ret (.bl false)) .nil)
    .nil) .nil)))) x [.val (.scr ns), s1, s2, s3, .val (.tup (cs.map cT)), .val (.tup (pn.map pT)), s6, s7, s8, s9, s10, s11, s12, s13, s14, s15] S) fun r S' => match r.2 with
      | .next => Turn28J ns cs pn (i + 1) r.1 S'
      | .cont => Turn28J ns cs pn (i + 1) r.1 S'
      | .brk => False
      | .ret t => False := fun c lt f ex hlv hin hc he => by
    subst ex
    simp [forF, bindTg, setAll, getV, Ex.strict, strictAll]
    refine (minutes_spec hmi G hlv hin _).mono fun t S3 ⟨e, eS⟩ => ?_
    subst e eS
    refine (law_told_spec ht hl G (by simp [timesF]) _).mono fun t S4 ⟨e, eS⟩ => ?_
    subst e eS
    refine (latest_spec hla H2.table H2.leans H2.by_name H2.meet H2.ends G hc _).mono fun t S5 ⟨e, eS⟩ => ?_
    subst e eS
    rw [← he]
    simp [eq_frs (lat_pl G)]
    exact ⟨_, _, _, _, _, _, _, _, _, _, _, _, _, rfl⟩
  rcases hx with rfl | rfl
  · exact key 0 _ (fun _ => false) rfl (fun _ => rfl) (fun _ => in_lnil) (by decide) (lat_usual G V)
  · exact key 8 _ (inL (List.range pn.length)) rfl (fun _ => rfl) (fun _ => in_lrow) (by decide) (lat_all G V (by omega) fun i hi => by simp [inL, hi])
end
end RD

/-! From here on simp takes one statement of a def at a time: what comes behind it waits (exsL) until y_go. -/
namespace RD
open PySem
noncomputable def exsL (G : Glob) (ss : Sts) (ρ : Env) : M (Env × Fl) := exs G ss ρ
section
variable {G : Glob} {ρ : Env} {S : Store} {P : Env × Fl → Store → Prop}
@[simp high] theorem yx_consL {s : St} {ss : Sts} : Y (exs G (.cons s ss) ρ S) P ↔ Y (ex G s ρ S) fun r S1 => match r.2 with
    | .next => Y (exsL G ss r.1 S1) P
    | .ret t => P (r.1, .ret t) S1
    | .brk => P (r.1, .brk) S1
    | .cont => P (r.1, .cont) S1 := yx_cons
theorem y_go {ss : Sts} (h : Y (exs G ss ρ S) P) : Y (exsL G ss ρ S) P := h
@[simp] theorem yx_nilL : Y (exsL G .nil ρ S) P ↔ P (ρ, .next) S := yx_nil
end
end RD

namespace RD
open PySem

@[simp] theorem cut6_2 {α : Type} {a b c d e f : α} : cutT [a, b, c, d, e, f] none (some 2) = [a, b] := rfl
@[simp] theorem cut6_3 {α : Type} {a b c d e f : α} : cutT [a, b, c, d, e, f] (some 3) none = [d, e, f] := rfl
@[simp] theorem cut3_1 {α : Type} {a b c : α} : cutT [a, b, c] (some 1) none = [b, c] := rfl
theorem all2_lng {cs : List Cs} {R : T → T → Prop} {l m : List T} (h : All2 R l m) : ∀ {cs : List Cs}, l = cs.map cT → (∀ c y, R (cT c) y → ∃ c', y = cT c' ∧ Lng c c') → ∃ cs', m = cs'.map cT ∧ All2 Lng cs cs' := by
  induction h with
  | nil =>
    intro cs e k
    cases cs with
    | nil => exact ⟨[], rfl, .nil⟩
    | cons _ _ => cases e
  | @cons a b l m h _ ih =>
    intro cs e k
    cases cs with
    | nil => cases e
    | cons c cs =>
      simp only [List.map_cons, List.cons.injEq] at e
      obtain ⟨rfl, rfl⟩ := e
      obtain ⟨c', rfl, hc⟩ := k c b h
      obtain ⟨cs', rfl, hcs⟩ := ih rfl k
      exact ⟨c' :: cs', rfl, .cons hc hcs⟩
theorem lng_mem {cs cs' : List Cs} (h : All2 Lng cs cs') : ∀ c' ∈ cs', ∃ c ∈ cs, Lng c c' := by
  induction h with
  | nil => intro c hc; cases hc
  | @cons a b l m h _ ih =>
    intro c hc
    rcases List.mem_cons.mp hc with rfl | hc
    · exact ⟨a, by simp, h⟩
    · obtain ⟨d, hd, l⟩ := ih c hc
      exact ⟨d, List.mem_cons_of_mem _ hd, l⟩
theorem lng_mem' {cs cs' : List Cs} (h : All2 Lng cs cs') : ∀ c ∈ cs, ∃ c' ∈ cs', Lng c c' := by
  induction h with
  | nil => intro c hc; cases hc
  | @cons a b l m h _ ih =>
    intro c hc
    rcases List.mem_cons.mp hc with rfl | hc
    · exact ⟨b, by simp, h⟩
    · obtain ⟨d, hd, l⟩ := ih c hc
      exact ⟨d, List.mem_cons_of_mem _ hd, l⟩
theorem lng_okC {r : Int} {ps : List Str} {c c' : Cs} (o : OkC r ps c) (h : Lng c c') : OkC r ps c' := by
  obtain ⟨n, u, l, t, p, f⟩ := c
  obtain ⟨n', u', l', t', p', f'⟩ := c'
  obtain ⟨h1, h2, h3, h4, h5, h6, h7⟩ := h
  simp only at h1 h2 h3 h4 h5 h6 h7
  subst h1 h2 h3 h4 h5
  exact ⟨o.nm, o.tl, o.u0, o.u1, Int.le_trans o.l0 h6, h7, o.team, o.pl0, o.pl1, o.pl, o.f0, o.f1, o.tr, o.t3, o.prr⟩
theorem good_names {cs : List Cs} {pn pn' : List Pn} (G : Good cs pn) (h : ∀ q ∈ pn', ∃ p ∈ pn, q.name = p.name) (hl : pn'.length ≤ 1000) : Good cs pn' :=
  ⟨G.tm, fun q hq => by obtain ⟨p, hp, e⟩ := h q hq; rw [e]; exact G.nm p hp, fun q hq => by obtain ⟨p, hp, e⟩ := h q hq; rw [e]; exact G.lk p hp, hl⟩
theorem vals_names {cs : List Cs} {pn pn' : List Pn} (V : Vals cs pn) (h : ∀ q ∈ pn', ∃ p ∈ pn, q.name = p.name ∧ p.start ≤ q.start) : Vals cs pn' :=
  ⟨fun q hq => by obtain ⟨p, hp, _, e⟩ := h q hq; exact Int.le_trans (V.s0 p hp) e, fun q hq => by obtain ⟨p, hp, e, _⟩ := h q hq; rw [e]; exact V.u0 p hp, fun q hq => by obtain ⟨p, hp, e, _⟩ := h q hq; rw [e]; exact V.ul p hp⟩
section
variable {cs : List Cs} {pn : List Pn} {a m : Nat}
theorem few_len (ha : a < pn.length) : (pn.take a ++ pn.drop (a + 1)).length = pn.length - 1 := by simp; omega
theorem skip_lt {j : Nat} (ha : a < pn.length) (hj : j < pn.length - 1) : skipAt a j < pn.length := by unfold skipAt; split <;> omega
theorem few_nm {j : Nat} (ha : a < pn.length) : nmAt (pn.take a ++ pn.drop (a + 1)) j = nmAt pn (skipAt a j) := by unfold nmAt; rw [fewer_get ha]
theorem few_no (G : Good cs pn) (V : Vals cs pn) (nd : (pn.map (·.name)).Nodup) (ha : a < pn.length) (G' : Good cs (pn.take a ++ pn.drop (a + 1))) (V' : Vals cs (pn.take a ++ pn.drop (a + 1))) :
    ∀ f ∈ latM cs (pn.take a ++ pn.drop (a + 1)) m, ∀ g ∈ latM cs pn m, g.name = f.name → f.b ≤ g.b ∧ f.e ≤ g.e := by
  have hσ : ∀ j < (pn.take a ++ pn.drop (a + 1)).length, skipAt a j < pn.length := fun j hj => skip_lt ha (by rw [few_len ha] at hj; exact hj)
  refine lat_no (σ := skipAt a) G G' nd hσ (fun j _ => few_nm ha) fun j hj => lat_embed V V' hσ (fun i _ => ?_) (fun i _ => by rw [few_nm ha]; exact Int.le_refl _) (fun i _ => by rw [few_nm ha]; exact Int.le_refl _) (fun i _ k hk => ?_) hj
  · simp only [wdOf]; rw [fewer_get ha]; exact Int.le_refl _
  · simp only [leanRow, List.mem_filter, List.mem_range] at hk ⊢
    refine ⟨by unfold skipAt; split <;> split <;> omega, ?_⟩
    have := hk.2
    unfold meetAt at this ⊢
    rw [fewer_get ha, fewer_get ha] at this
    exact this
end
section
variable {cs : List Cs} {pn : List Pn} {m : Nat} {s : Int}
def lastP (pn : List Pn) (h : pn ≠ []) (s : Int) : List Pn := pn.take (pn.length - 1) ++ [laterP (pn.getLast h) s]
theorem last_len (h : pn ≠ []) : (lastP pn h s).length = pn.length := by
  have := List.length_pos_iff.mpr h
  simp [lastP]; omega
theorem last_at (h : pn ≠ []) {j : Nat} (hj : j < pn.length) : ∃ q, (lastP pn h s)[j]? = some q ∧ q.name = pn[j].name ∧ q.room = pn[j].room ∧ (q.start = pn[j].start ∨ (j = pn.length - 1 ∧ q.start = s)) := last_get h s hj
theorem last_names (h : pn ≠ []) (hs : (pn.getLast h).start ≤ s) : ∀ q ∈ lastP pn h s, ∃ p ∈ pn, q.name = p.name ∧ p.start ≤ q.start := fun q hq => by
  rcases List.mem_append.mp hq with hq | hq
  · exact ⟨q, List.mem_of_mem_take hq, rfl, Int.le_refl _⟩
  · rw [List.mem_singleton.mp hq]
    exact ⟨_, List.getLast_mem h, rfl, hs⟩
theorem last_nm (h : pn ≠ []) {j : Nat} (hj : j < pn.length) : nmAt (lastP pn h s) j = nmAt pn j := by
  obtain ⟨q, e, n, _⟩ := last_at (s := s) h hj
  unfold nmAt
  rw [e, List.getElem?_eq_getElem hj]
  exact n
theorem last_no (G : Good cs pn) (V : Vals cs pn) (nd : (pn.map (·.name)).Nodup) (h : pn ≠ []) (hs : (pn.getLast h).start ≤ s) (G' : Good cs (lastP pn h s)) (V' : Vals cs (lastP pn h s)) :
    ∀ f ∈ latM cs pn m, ∀ g ∈ latM cs (lastP pn h s) m, g.name = f.name → f.b ≤ g.b ∧ f.e ≤ g.e := by
  have hl := last_len (s := s) h
  refine lat_no1 G G' nd hl (fun j hj => last_nm h hj) fun j hj => lat_embed (σ := fun j => j) V' V (fun i hi => by rw [hl]; exact hi) (fun i hi => ?_) (fun i hi => by rw [last_nm h hi]; exact Int.le_refl _) (fun i hi => by rw [last_nm h hi]; exact Int.le_refl _) (fun i hi k hk => ?_) hj
  · obtain ⟨q, e, _, _, st⟩ := last_at (s := s) h hi
    simp only [wdOf, e, List.getElem?_eq_getElem hi, Option.map_some, Option.getD_some]
    rcases st with st | ⟨ej, st⟩
    · rw [st]; exact Int.le_refl _
    · rw [st]
      subst ej
      rw [← List.getLast_eq_getElem h]; exact hs
  · simp only [leanRow, List.mem_filter, List.mem_range] at hk ⊢
    refine ⟨hk.1, ?_⟩
    obtain ⟨q, e, n, r, _⟩ := last_at (s := s) h hi
    obtain ⟨q2, e2, n2, r2, _⟩ := last_at (s := s) (j := k) h (by omega)
    have hk2 := hk.2
    unfold meetAt at hk2 ⊢
    rw [e, e2]
    rw [List.getElem?_eq_getElem hi, List.getElem?_eq_getElem (show k < pn.length by omega)] at hk2
    simp only [meetB, n, n2, r, r2] at hk2 ⊢
    exact hk2
end
theorem eq_pnNil {pn : List Pn} (h : ∀ p ∈ pn, pl (.str p.name) = true) : eqT (.tup (pn.map pT)) (.tup []) = some pn.isEmpty := by
  rw [eqT_tupNil (pls_all fun t ht => by
      obtain ⟨p, hp, rfl⟩ := List.mem_map.mp ht
      simp [pT, pl, pls]; simpa [pl] using h p hp) (by
      have : dps (pn.map pT) ≤ 1 := dps_all fun t ht => by
        obtain ⟨p, hp, rfl⟩ := List.mem_map.mp ht
        simp [pT, dp, dps]
      omega)]
  simp
section
variable {cst : Str → Option T} {fuel : Nat} {ds : List Dn} {S : Store}
set_option maxHeartbeats 8000000 in
theorem law28_spec (H1 : HasD ds) (H2 : HasT ds) (hla : Has ds d_latest) (hmi : Has ds d__law_minutes) (ht : Has ds d__law_told_day) (hl : Has ds d__law_leans) (hne : Has ds d__law_no_earlier) (hlaw : Has ds d_law_k28) (k : Nat) (ns : List Int) (hns : ns.length ≤ 63) : Y (callK cst fuel ds (k + 8) "law" [.scr ns] S) fun t _ => t = .bl true := by
  refine y_callK hlaw rfl ?_
  simp [d_law_k28, startE, getV, Ex.strict, strictAll, newE, Itr.strict]
  refine ⟨okR_small (by omega) (by omega), ?_⟩
  refine y_forI (Law28J ns) ?_ ?_ ⟨_, _, _, _, _, _, _, _, _, _, _, _, _, _, _, rfl⟩
  · rintro i x ρ S1 hx ⟨s1, s2, s3, s4, s5, s6, s7, s8, s9, s10, s11, s12, s13, s14, s15, rfl⟩
    obtain ⟨b, hb, rfl⟩ := mem_rng (List.mem_of_getElem? hx)
    simp [forF, bindTg, setAll, getV, getO, Ex.strict, strictAll, newE, Itr.strict]
    refine (bag_spec H1.draws.bag _ (by omega) (by omega)).mono fun t S2 ⟨n, e, b2⟩ => ?_
    subst e
    (try simp [forF, bindTg, setAll, getV, getO, getP, Ex.strict, strictAll, newE, Itr.strict])
    repeat (refine y_go ?_; simp [forF, bindTg, setAll, getV, getO, getP, Ex.strict, strictAll, newE, Itr.strict])
    refine (drawn_spec H1.draws H1.plan H1.drawn _ b2 (by decide) (by decide)).mono fun t S3 ⟨b3, r, ps, cs, pn, e, r1, r4, p5, hps, hcs, c8, hpn, p8, hnm, hnd, hp5, hpr⟩ => ?_
    subst e
    have G : Good cs pn := goodP_of hps hcs hpn (by omega)
    have V : Vals cs pn := vals_of hcs hpn
    (try simp [forF, bindTg, setAll, getV, getO, getP, Ex.strict, strictAll, newE, Itr.strict])
    repeat (refine y_go ?_; simp [forF, bindTg, setAll, getV, getO, getP, Ex.strict, strictAll, newE, Itr.strict])
    refine (take_spec H1.draws.take _ b3 (by decide) (by decide)).mono fun t S7 ⟨b7, i3, e, i30, i31⟩ => ?_
    subst e
    obtain ⟨m, rfl⟩ := Int.eq_ofNat_of_zero_le i30
    (try simp [forF, bindTg, setAll, getV, getO, getP, Ex.strict, strictAll, newE, Itr.strict])
    repeat (refine y_go ?_; simp [forF, bindTg, setAll, getV, getO, getP, Ex.strict, strictAll, newE, Itr.strict])
    refine (latest_spec (m := m) hla H2.table H2.leans H2.by_name H2.meet H2.ends G (by omega) _).mono fun t S8 ⟨e, eS⟩ => ?_
    subst e eS
    (try simp [forF, bindTg, setAll, getV, getO, getP, Ex.strict, strictAll, newE, Itr.strict])
    repeat (refine y_go ?_; simp [forF, bindTg, setAll, getV, getO, getP, Ex.strict, strictAll, newE, Itr.strict])
    refine (latest_spec (m := m + 1) hla H2.table H2.leans H2.by_name H2.meet H2.ends G (by omega) _).mono fun t S9 ⟨e, eS⟩ => ?_
    subst e eS
    (try simp [forF, bindTg, setAll, getV, getO, getP, Ex.strict, strictAll, newE, Itr.strict])
    repeat (refine y_go ?_; simp [forF, bindTg, setAll, getV, getO, getP, Ex.strict, strictAll, newE, Itr.strict])
    refine (no_earlier_spec hne (lat_no1 G G hnd rfl (fun _ _ => rfl) fun j hj => lat_up V hj) _).mono fun t S10 ⟨e, eS⟩ => ?_
    subst e eS
    (try simp [forF, bindTg, setAll, getV, getO, getP, Ex.strict, strictAll, newE, Itr.strict])
    repeat (refine y_go ?_; simp [forF, bindTg, setAll, getV, getO, getP, Ex.strict, strictAll, newE, Itr.strict])
    refine y_mapL1 (I := fun S => BagAt S n) (R := fun x y => ∃ c c', x = cT c ∧ y = cT c' ∧ Lng c c') (fun x hx S11 b11 => ?_) b7 fun q S12 b12 hr => ?_
    · obtain ⟨c, hc, rfl⟩ := List.mem_map.mp hx
      have ok := hcs c hc
      simp [lcF, bindTg, Tg.slots, wipeE, condT, getV, Ex.strict, strictAll, cT]
      refine (take_spec H1.draws.take _ b11 (by decide) (by decide)).mono fun t S13 ⟨b13, v, e, v0, v1⟩ => ?_
      subst e
      (try simp [forF, bindTg, setAll, getV, getO, getP, Ex.strict, strictAll, newE, Itr.strict])
      repeat (refine y_go ?_; simp [forF, bindTg, setAll, getV, getO, getP, Ex.strict, strictAll, newE, Itr.strict])
      refine ⟨by decide, by decide, b13, ?_⟩
      refine ⟨c, ⟨rfl, rfl, rfl, rfl, rfl, rfl⟩, ⟨c.name, c.usual, if c.longest + v < 400 then c.longest + v else 400, c.team, c.places, c.first⟩, ⟨rfl, rfl, rfl, rfl, rfl, rfl⟩, ⟨rfl, rfl, rfl, rfl, rfl, ?_, ?_⟩⟩
      · have := ok.l1; simp only; split <;> omega
      · simp only; split <;> omega
    · obtain ⟨cs', rfl, hL⟩ := all2_lng (cs := cs) hr rfl fun c y ⟨d, c', e1, e2, e3⟩ => ⟨c', e2, by rw [cT_inj e1]; exact e3⟩
      have hcs' : ∀ c ∈ cs', OkC r ps c := fun c hc => by
        obtain ⟨d, hd, l⟩ := lng_mem hL c hc
        exact lng_okC (hcs d hd) l
      have hpn' : ∀ p ∈ pn, OkP cs' p := fun p hp => by
        obtain ⟨c, hc, e1, e2, e3, e4⟩ := hpn p hp
        obtain ⟨d, hd, l⟩ := lng_mem' hL c hc
        exact ⟨d, hd, by rw [l.name, e1], by rw [l.places]; exact e2, by rw [l.first]; exact e3, e4⟩
      have G' : Good cs' pn := goodP_of hps hcs' hpn' (by omega)
      have V' : Vals cs' pn := vals_of hcs' hpn'
      (try simp [forF, bindTg, setAll, getV, getO, getP, Ex.strict, strictAll, newE, Itr.strict])
      repeat (refine y_go ?_; simp [forF, bindTg, setAll, getV, getO, getP, Ex.strict, strictAll, newE, Itr.strict])
      refine (latest_spec (m := m) hla H2.table H2.leans H2.by_name H2.meet H2.ends G' (by omega) _).mono fun t S8 ⟨e, eS⟩ => ?_
      subst e eS
      (try simp [forF, bindTg, setAll, getV, getO, getP, Ex.strict, strictAll, newE, Itr.strict])
      repeat (refine y_go ?_; simp [forF, bindTg, setAll, getV, getO, getP, Ex.strict, strictAll, newE, Itr.strict])
      refine (no_earlier_spec hne (lat_no1 G G' hnd rfl (fun _ _ => rfl) fun j hj => lat_embed (σ := fun j => j) V' V (fun _ h => h) (fun _ _ => Int.le_refl _) (fun i hi => by rw [(lng_us hL _).1]; exact Int.le_refl _) (fun i hi => (lng_us hL _).2.1) (fun i hi j hj => by rw [lng_row hL]; exact hj) hj) _).mono fun t S10 ⟨e, eS⟩ => ?_
      subst e eS
      (try simp [forF, bindTg, setAll, getV, getO, getP, Ex.strict, strictAll, newE, Itr.strict, eq_pnNil G.nm])
      repeat (refine y_go ?_; simp [forF, bindTg, setAll, getV, getO, getP, Ex.strict, strictAll, newE, Itr.strict, eq_pnNil G.nm])
      have hgo : ∀ {ρ : Env} {ss : Sts} {S : Store} {P : Env × Fl → Store → Prop}, Y (exs (gl cst fuel ds (k + 7) "law") ss ρ S) P → Y (exsL (gl cst fuel ds (k + 7) "law") ss ρ S) P := fun h => y_go h
      by_cases hpe : pn = []
      · subst hpe
        simp
        refine hgo ?_
        simp [forF, bindTg, setAll, getV, getO, getP, Ex.strict, strictAll, newE, Itr.strict]
        refine y_forI (Turn28J ns cs []) ?_ ?_ ⟨_, _, _, _, _, _, _, _, _, _, _, _, _, rfl⟩
        · rintro i2 x ρ S20 hx2 hJ
          refine (tail28 (k := k) H2 hla hmi ht hl G V p8 (by
            have := List.mem_of_getElem? hx2
            simp only [List.mem_cons, List.not_mem_nil, or_false] at this
            exact this) hJ).mono fun r S21 q => ?_
          obtain ⟨ρ2, fl⟩ := r
          cases fl with
          | next => exact q
          | cont => exact q
          | brk => exact q.elim
          | ret t => exact q.elim
        · rintro ρ S20 ⟨s1, s2, s3, s6, s7, s8, s9, s10, s11, s12, s13, s14, s15, rfl⟩
          exact ⟨_, _, _, _, _, _, _, _, _, _, _, _, _, _, _, rfl⟩
      · have hpos : 0 < pn.length := List.length_pos_iff.mpr hpe
        simp [forF, bindTg, setAll, getV, getO, getP, Ex.strict, strictAll, newE, Itr.strict, hpe]
        refine (take_spec H1.draws.take _ b12 (by omega) (by omega)).mono fun t S13 ⟨b13, at_, e, a0, a1⟩ => ?_
        subst e
        obtain ⟨a, rfl⟩ := Int.eq_ofNat_of_zero_le a0
        have ha : a < pn.length := by omega
        have c1 : cutT (pn.map pT) none (some (a : Int)) = (pn.take a).map pT := by rw [cut_take (by simp; omega), List.map_take]
        have c2 : cutT (pn.map pT) (some ((a : Int) + 1)) none = (pn.drop (a + 1)).map pT := by
          have := cut_drop (l := pn.map pT) (k := a + 1) (by simp; omega)
          rw [List.map_drop]; exact this
        have c3 : (pn.map pT).take a ++ (pn.map pT).drop (a + 1) = (pn.take a ++ pn.drop (a + 1)).map pT := by simp
        (try simp [forF, bindTg, setAll, getV, getO, getP, Ex.strict, strictAll, newE, Itr.strict, c1, c2])
        repeat (refine y_go ?_; simp [forF, bindTg, setAll, getV, getO, getP, Ex.strict, strictAll, newE, Itr.strict, c1, c2])
        refine ⟨Nat.le_trans (by omega : _ ≤ 1000) (by decide), ?_⟩
        have G2 : Good cs (pn.take a ++ pn.drop (a + 1)) := good_names G (fun q hq => by
          rcases List.mem_append.mp hq with h | h
          · exact ⟨q, List.mem_of_mem_take h, rfl⟩
          · exact ⟨q, List.mem_of_mem_drop h, rfl⟩) (by rw [few_len ha]; omega)
        have V2 : Vals cs (pn.take a ++ pn.drop (a + 1)) := vals_names V (fun q hq => by
          rcases List.mem_append.mp hq with h | h
          · exact ⟨q, List.mem_of_mem_take h, rfl, Int.le_refl _⟩
          · exact ⟨q, List.mem_of_mem_drop h, rfl, Int.le_refl _⟩)
        (try simp [forF, bindTg, setAll, getV, getO, getP, Ex.strict, strictAll, newE, Itr.strict])
        repeat (refine y_go ?_; simp [forF, bindTg, setAll, getV, getO, getP, Ex.strict, strictAll, newE, Itr.strict])
        rw [c3]
        refine (latest_spec (m := m) hla H2.table H2.leans H2.by_name H2.meet H2.ends G2 (by omega) _).mono fun t S8 ⟨e, eS⟩ => ?_
        subst e eS
        (try simp [forF, bindTg, setAll, getV, getO, getP, Ex.strict, strictAll, newE, Itr.strict])
        repeat (refine y_go ?_; simp [forF, bindTg, setAll, getV, getO, getP, Ex.strict, strictAll, newE, Itr.strict])
        refine (no_earlier_spec hne (few_no G V hnd ha G2 V2) _).mono fun t S10 ⟨e, eS⟩ => ?_
        subst e eS
        have c4 : L2.atI (pn.map pT) (-1) = some (pT (pn.getLast hpe)) := by
          rw [atI_end (by simpa using hpe), List.getLast_map]
        have c5 : cutT (pn.map pT) none (some (-1)) = (pn.take (pn.length - 1)).map pT := by rw [cut_init, List.map_take, List.length_map]
        (try simp [forF, bindTg, setAll, getV, getO, getP, Ex.strict, strictAll, newE, Itr.strict, c4, c5, pT])
        repeat (refine y_go ?_; simp [forF, bindTg, setAll, getV, getO, getP, Ex.strict, strictAll, newE, Itr.strict, c4, c5, pT])
        refine (take_spec H1.draws.take _ b13 (by decide) (by decide)).mono fun t S14 ⟨b14, v, e, v0, v1⟩ => ?_
        subst e
        simp [forF, bindTg, setAll, getV, getO, getP, Ex.strict, strictAll, newE, Itr.strict]
        refine ⟨by decide, Nat.le_trans (by omega : _ ≤ 1000) (by decide), ?_⟩
        have hst : (pn.getLast hpe).start ≤ 1000 := by
          obtain ⟨c, _, _, _, _, h⟩ := hpn _ (List.getLast_mem hpe)
          exact h
        have hge : (pn.getLast hpe).start ≤ (if (pn.getLast hpe).start + v < 2000 then (pn.getLast hpe).start + v else 2000) := by split <;> omega
        have hlen3 := last_len (s := if (pn.getLast hpe).start + v < 2000 then (pn.getLast hpe).start + v else 2000) hpe
        have G3 := good_names G (fun q hq => by obtain ⟨p, hp, e, _⟩ := last_names hpe hge q hq; exact ⟨p, hp, e⟩) (by rw [hlen3]; omega)
        have V3 := vals_names V (last_names hpe hge)
        have c6 : (pn.map pT).take (pn.length - 1) ++ [T.tup [.int (if (pn.getLast hpe).start + v < 2000 then (pn.getLast hpe).start + v else 2000), .str (pn.getLast hpe).name, .int (pn.getLast hpe).room]] = (lastP pn hpe (if (pn.getLast hpe).start + v < 2000 then (pn.getLast hpe).start + v else 2000)).map pT := by simp [lastP, laterP, pT]
        (try simp [forF, bindTg, setAll, getV, getO, getP, Ex.strict, strictAll, newE, Itr.strict])
        repeat (refine y_go ?_; simp [forF, bindTg, setAll, getV, getO, getP, Ex.strict, strictAll, newE, Itr.strict])
        rw [c6]
        refine (latest_spec (m := m) hla H2.table H2.leans H2.by_name H2.meet H2.ends G3 (by omega) _).mono fun t S8 ⟨e, eS⟩ => ?_
        subst e eS
        (try simp [forF, bindTg, setAll, getV, getO, getP, Ex.strict, strictAll, newE, Itr.strict])
        repeat (refine y_go ?_; simp [forF, bindTg, setAll, getV, getO, getP, Ex.strict, strictAll, newE, Itr.strict])
        refine (no_earlier_spec hne (last_no G V hnd hpe hge G3 V3) _).mono fun t S10 ⟨e, eS⟩ => ?_
        subst e eS
        simp [forF, bindTg, setAll, getV, getO, getP, Ex.strict, strictAll, newE, Itr.strict]
        refine y_go ?_
        simp [forF, bindTg, setAll, getV, getO, getP, Ex.strict, strictAll, newE, Itr.strict]
        refine ⟨by omega, ?_⟩
        refine y_forI (Turn28J ns cs pn) ?_ ?_ ⟨_, _, _, _, _, _, _, _, _, _, _, _, _, rfl⟩
        · rintro i2 x ρ S20 hx2 hJ
          refine (tail28 (k := k) H2 hla hmi ht hl G V p8 (by
            have := List.mem_of_getElem? hx2
            simp only [List.mem_cons, List.not_mem_nil, or_false] at this
            exact this) hJ).mono fun r S21 q => ?_
          obtain ⟨ρ2, fl⟩ := r
          cases fl with
          | next => exact q
          | cont => exact q
          | brk => exact q.elim
          | ret t => exact q.elim
        · rintro ρ S20 ⟨s1, s2, s3, s6, s7, s8, s9, s10, s11, s12, s13, s14, s15, rfl⟩
          exact ⟨_, _, _, _, _, _, _, _, _, _, _, _, _, _, _, rfl⟩
  · rintro ρ S1 ⟨s1, s2, s3, s4, s5, s6, s7, s8, s9, s10, s11, s12, s13, s14, s15, rfl⟩
    (try simp [forF, bindTg, setAll, getV, getO, getP, Ex.strict, strictAll, newE, Itr.strict])
    repeat (refine y_go ?_; simp [forF, bindTg, setAll, getV, getO, getP, Ex.strict, strictAll, newE, Itr.strict])
end
end RD

namespace RD
open PySem

/-! ### days of any times; papers; the way back to a worst day -/
def Wd.IsDayT (W : Wd) (t : Nat → Int) (B E : Nat → Int) : Prop := ∀ i < W.n, B i = ((W.row i).map E).foldl mx (W.s i) ∧ E i = B i + t i
theorem day_le {W : Wd} (O : W.Ok) {t t' : Nat → Int} (ht : ∀ i < W.n, t i ≤ t' i) {B E B' E' : Nat → Int} (h1 : W.IsDayT t B E) (h2 : W.IsDayT t' B' E') : ∀ i, i < W.n → B i ≤ B' i ∧ E i ≤ E' i := by
  intro i
  induction i using Nat.strongRecOn with
  | _ i ih =>
    intro hi
    have hb : B i ≤ B' i := by
      rw [(h1 i hi).1, (h2 i hi).1, fmx_le]
      refine ⟨fmx_init, fun y hy => ?_⟩
      obtain ⟨j, hj, rfl⟩ := List.mem_map.mp hy
      have hji := O.row i j hj
      exact Int.le_trans (ih j hji (by omega)).2 (fmx_mem (List.mem_map.mpr ⟨j, hj, rfl⟩))
    refine ⟨hb, ?_⟩
    rw [(h1 i hi).2, (h2 i hi).2]
    have := ht i hi
    omega
/-- a paper's numbers -/
structure Wd.IsPaper (W : Wd) (m : Nat) (R : Nat → Nat → Int) : Prop where
  st : ∀ i < W.n, ∀ c ≤ m, W.s i ≤ R i c
  us : ∀ i < W.n, ∀ c ≤ m, ∀ j ∈ W.row i, R j c + W.u j ≤ R i c
  lo : ∀ i < W.n, ∀ c ≤ m, 0 < c → ∀ j ∈ W.row i, R j (c - 1) + W.l j ≤ R i c
theorem paper_day {W : Wd} (O : W.Ok) {m : Nat} {R : Nat → Nat → Int} (P : W.IsPaper m R) {f : Nat → Bool} {B E : Nat → Int} (HD : W.IsDay f B E) : ∀ i, i < W.n → ∀ c, c ≤ m → cnt f i ≤ c → B i ≤ R i c := by
  intro i
  induction i using Nat.strongRecOn with
  | _ i ih =>
    intro hi c hc hf
    rw [(HD i hi).1, fmx_le]
    refine ⟨P.st i hi c hc, fun y hy => ?_⟩
    obtain ⟨j, hj, rfl⟩ := List.mem_map.mp hy
    have hji := O.row i j hj
    have hjn : j < W.n := by omega
    rw [(HD j hjn).2]
    have hm := cnt_mono (f := f) (show j + 1 ≤ i by omega)
    cases hfj : f j with
    | true =>
      simp only [cnt, hfj, if_pos] at hm
      have h1 := ih j hji hjn (c - 1) (by omega) (by omega)
      have h2 := P.lo i hi c hc (by omega) j hj
      simp
      omega
    | false =>
      simp only [cnt, hfj] at hm
      have h1 := ih j hji hjn c hc (by simp at hm; omega)
      have h2 := P.us i hi c hc j hj
      simp
      omega
def orF (f g : Nat → Bool) (i : Nat) : Bool := f i || g i
def oneF (a : Nat) (i : Nat) : Bool := decide (i = a)
def noF (_ : Nat) : Bool := false
section
variable {W : Wd} (O : W.Ok) {TB TE : Nat → Nat → Int} (HT : W.IsTab TB TE) {DB DE : (Nat → Bool) → Nat → Int} (HD : ∀ f, W.IsDay f (DB f) (DE f))
/-- what is chosen so far, and where the way stands: whatever reaches this end within the count makes the wanted end -/
structure Way (W : Wd) (TE : Nat → Nat → Int) (DE : (Nat → Bool) → Nat → Int) (a m : Nat) (F : Nat → Bool) (at_ c : Nat) : Prop where
  lt : at_ < W.n
  above : ∀ j, j ≤ at_ → F j = false
  cnt : cnt F W.n + c ≤ m
  fit : ∀ f : Nat → Bool, (∀ j, at_ < j → f j = false) → RD.cnt f (at_ + 1) ≤ c → DE f at_ = TE at_ c → DE (orF F f) a = TE a m
theorem cnt_or {F f : Nat → Bool} : ∀ n, cnt (orF F f) n ≤ cnt F n + cnt f n
  | 0 => Nat.le_refl _
  | n + 1 => by
    have := cnt_or (F := F) (f := f) n
    simp only [cnt]
    rcases Bool.eq_false_or_eq_true (F n) with h1 | h1 <;> rcases Bool.eq_false_or_eq_true (f n) with h2 | h2 <;> simp [orF, h1, h2] <;> omega
theorem cnt_above {f : Nat → Bool} {i : Nat} (h : ∀ j, i ≤ j → f j = false) : ∀ {k}, i ≤ k → cnt f k = cnt f i := by
  intro k
  induction k with
  | zero => intro hk; rw [show i = 0 by omega]
  | succ k ih =>
    intro hk
    rcases Nat.lt_or_ge k i with h' | h'
    · rw [show i = k + 1 by omega]
    · simp only [cnt]; rw [ih h', h k h']; rfl
theorem cnt_one (a : Nat) : ∀ n, cnt (oneF a) n = if a < n then 1 else 0
  | 0 => rfl
  | n + 1 => by
    simp only [cnt, cnt_one a n]
    by_cases h : n = a
    · subst h; simp [oneF]
    · have : oneF a n = false := by simp [oneF, h]
      simp only [this]
      simp only [Bool.false_eq_true, if_false, Nat.add_zero]
      by_cases h2 : a < n
      · rw [if_pos h2, if_pos (by omega)]
      · rw [if_neg h2, if_neg (by omega)]
include O HT HD
/-- the step: the place joins the chosen where its end comes by its longest time -/
theorem way_end {a m at_ c c' : Nat} {F G : Nat → Bool} (w : Way W TE DE a m F at_ c)
    (hG : (TE at_ c > TB at_ c + W.u at_ ∧ G = oneF at_ ∧ c = c' + 1) ∨ (TE at_ c = TB at_ c + W.u at_ ∧ G = noF ∧ c' = c)) {f : Nat → Bool} (hf : ∀ j, at_ ≤ j → f j = false) (hc : cnt f at_ ≤ c') (hb : DB f at_ = TB at_ c') : DE (orF F (orF G f)) a = TE a m := by
  refine w.fit (orF G f) (fun j hj => ?_) ?_ ?_
  · unfold orF
    rw [hf j (by omega)]
    rcases hG with ⟨_, rfl, _⟩ | ⟨_, rfl, _⟩
    · simp [oneF]; omega
    · simp [noF]
  · have h1 := cnt_or (F := G) (f := f) (at_ + 1)
    have h2 : cnt f (at_ + 1) = cnt f at_ := cnt_above hf (by omega)
    rcases hG with ⟨_, rfl, rfl⟩ | ⟨_, rfl, rfl⟩
    · rw [cnt_one, if_pos (by omega)] at h1; omega
    · have : cnt noF (at_ + 1) = 0 := cnt_zero fun _ _ => rfl
      omega
  · have e1 : DB (orF G f) at_ = DB f at_ := (day_congr O (HD _) (HD _) at_ w.lt fun j hj => by
      unfold orF
      rcases hG with ⟨_, rfl, _⟩ | ⟨_, rfl, _⟩
      · simp [oneF]; omega
      · simp [noF]).1
    rw [(HD (orF G f) at_ w.lt).2, e1, hb]
    rcases hG with ⟨h, rfl, rfl⟩ | ⟨h, rfl, rfl⟩
    · have : orF (oneF at_) f at_ = true := by simp [orF, oneF]
      rw [if_pos this]
      have hte := (HT at_ w.lt (c' + 1)).2
      rw [if_pos (by omega)] at hte
      rcases mx_or (a := TB at_ (c' + 1) + W.u at_) (b := TB at_ (c' + 1 - 1) + W.l at_) with e | e
      · rw [e] at hte; omega
      · rw [hte, e]; rfl
    · have : orF noF f at_ = false := by simp [orF, noF, hf at_ (Nat.le_refl _)]
      rw [if_neg (by rw [this]; decide), h]
theorem over_pos {at_ c : Nat} (h : at_ < W.n) (hg : TE at_ c > TB at_ c + W.u at_) : 0 < c := by
  rcases Nat.eq_zero_or_pos c with rfl | h0
  · have hte := (HT at_ h 0).2
    rw [if_neg (by omega)] at hte
    have h1 := tab_nonneg O HT at_ h 0
    have h2 := O.u0 at_ h
    unfold mx at hte
    split at hte <;> omega
  · exact h0
/-- the way ends: nobody makes it wait -/
theorem way_stop {a m at_ c c' : Nat} {F G : Nat → Bool} (w : Way W TE DE a m F at_ c) (ha : a < W.n)
    (hG : (TE at_ c > TB at_ c + W.u at_ ∧ G = oneF at_ ∧ c = c' + 1) ∨ (TE at_ c = TB at_ c + W.u at_ ∧ G = noF ∧ c' = c)) (hs : TB at_ c' = W.s at_) : DE (orF F G) a = TE a m ∧ cnt (orF F G) W.n ≤ m := by
  refine ⟨?_, ?_⟩
  · have hb : DB noF at_ = TB at_ c' := by
      refine Int.le_antisymm ((tab_upper O HT (HD _) at_ w.lt c').1 (by rw [cnt_zero (f := noF) fun _ _ => rfl]; exact Nat.zero_le _)) ?_
      rw [hs, (HD _ at_ w.lt).1]; exact fmx_init
    have := way_end O HT HD w hG (f := noF) (fun _ _ => rfl) (by rw [cnt_zero (f := noF) fun _ _ => rfl]; exact Nat.zero_le _) hb
    have e : orF F (orF G noF) = orF F G := by funext j; simp [orF, noF]
    rw [e] at this; exact this
  · have h1 := cnt_or (F := F) (f := G) W.n
    have h2 := w.cnt
    rcases hG with ⟨_, rfl, rfl⟩ | ⟨_, rfl, rfl⟩
    · rw [cnt_one] at h1
      have := w.lt
      rw [if_pos this] at h1; omega
    · have : cnt noF W.n = 0 := cnt_zero fun _ _ => rfl
      omega
/-- the way goes on to one that makes it wait -/
theorem way_next {a m at_ c c' p : Nat} {F G : Nat → Bool} (w : Way W TE DE a m F at_ c)
    (hG : (TE at_ c > TB at_ c + W.u at_ ∧ G = oneF at_ ∧ c = c' + 1) ∨ (TE at_ c = TB at_ c + W.u at_ ∧ G = noF ∧ c' = c)) (hp : p ∈ W.row at_) (he : TE p c' = TB at_ c') : Way W TE DE a m (orF F G) p c' := by
  have hpa := O.row _ _ hp
  have hlt := w.lt
  refine ⟨by omega, fun j hj => ?_, ?_, fun f f1 f2 f3 => ?_⟩
  · unfold orF
    rw [w.above j (by omega)]
    rcases hG with ⟨_, rfl, _⟩ | ⟨_, rfl, _⟩
    · simp [oneF]; omega
    · simp [noF]
  · have h1 := cnt_or (F := F) (f := G) W.n
    have h2 := w.cnt
    rcases hG with ⟨_, rfl, rfl⟩ | ⟨_, rfl, rfl⟩
    · rw [cnt_one, if_pos hlt] at h1; omega
    · have : cnt noF W.n = 0 := cnt_zero fun _ _ => rfl
      omega
  · have hcf : cnt f at_ ≤ c' := by rw [cnt_above f1 (show p + 1 ≤ at_ by omega)]; exact f2
    have hb : DB f at_ = TB at_ c' := by
      refine Int.le_antisymm ((tab_upper O HT (HD _) at_ hlt c').1 hcf) ?_
      rw [← he, ← f3, (HD _ at_ hlt).1]
      exact fmx_mem (List.mem_map.mpr ⟨p, hp, rfl⟩)
    have := way_end O HT HD w hG (f := f) (fun j hj => f1 j (by omega)) hcf hb
    have e : orF F (orF G f) = orF (orF F G) f := by funext j; simp [orF, Bool.or_assoc]
    rw [e] at this; exact this
omit O HT HD in
theorem way_start {a m : Nat} (ha : a < W.n) : Way W TE DE a m noF a m :=
  ⟨ha, fun _ _ => rfl, by rw [cnt_zero (f := noF) fun _ _ => rfl]; omega, fun f _ _ h => by
    have e : orF noF f = f := by funext j; simp [orF, noF]
    rw [e]; exact h⟩
end
/-- a while -/
theorem y_whL {c : Env → M T} {b : Env → M (Env × Fl)} {P : Env × Fl → Store → Prop} (J : Nat → Env → Store → Prop) (step : ∀ k ρ S, J k ρ S → Y (c ρ S) fun x S1 => (x = .bl false ∧ P (ρ, .next) S1) ∨ (x = .bl true ∧ Y (b ρ S1) fun r S2 => match r.2 with
      | .next => ∃ k', k' < k ∧ J k' r.1 S2
      | .cont => ∃ k', k' < k ∧ J k' r.1 S2
      | .brk => P (r.1, .next) S2
      | .ret t => P (r.1, .ret t) S2)) : ∀ (n k : Nat) (ρ : Env) (S : Store), k < n → J k ρ S → Y (whL c b n ρ S) P
  | 0, k, ρ, S, h, _ => by omega
  | n + 1, k, ρ, S, h, hj => by
    unfold whL
    refine y_bnd.mpr ((step k ρ S hj).mono fun x S1 q => ?_)
    rcases q with ⟨rfl, q⟩ | ⟨rfl, q⟩
    · exact y_ret.mpr q
    · refine y_bnd.mpr (q.mono fun r S2 q => ?_)
      obtain ⟨ρ1, fl⟩ := r
      cases fl with
      | next => obtain ⟨k', h', q⟩ := q; exact y_whL J step n k' _ _ (by omega) q
      | cont => obtain ⟨k', h', q⟩ := q; exact y_whL J step n k' _ _ (by omega) q
      | brk => exact y_ret.mpr q
      | ret t => exact y_ret.mpr q
section
variable {G : Glob} {ρ : Env} {S : Store} {P : Env × Fl → Store → Prop}
@[simp] theorem yx_whl {c : Ex} {b : Sts} : Y (ex G (.whl c b) ρ S) P ↔ Y (whL (ev G c) (exs G b) G.fuel ρ S) P := by simp [ex]
end
end RD

namespace RD
open PySem

theorem times_set {cs : List Cs} {pn : List Pn} {F : Nat → Bool} {a : Nat} (ha : a < pn.length) : (intsL (timesF cs pn F)).set a (.int (loOf cs (nmAt pn a))) = intsL (timesF cs pn (orF F (oneF a))) := by
  refine List.ext_getElem (by simp [intsL, timesF]) fun j h1 h2 => ?_
  have hj : j < pn.length := by simpa [intsL, timesF] using h2
  rw [List.getElem_set]
  by_cases e : a = j
  · subst e; simp [intsL, timesF, orF, oneF]
  · have : oneF a j = false := by simp [oneF]; omega
    simp [intsL, timesF, orF, e, this]
theorem times_no {cs : List Cs} {pn : List Pn} : usual cs pn = timesF cs pn noF := by
  refine List.ext_getElem (by simp [usual, timesF]) fun j h1 h2 => ?_
  have hj : j < pn.length := by simpa [timesF] using h2
  simp [usual, timesF, noF, nm_get hj]
def nmG (t : T) : T := match t with | .tup [_, x, _] => x | _ => .non
def us1G (cs : List Cs) (t : T) : T := match t with | .str x => .int (usOf cs x) | _ => .non
def someL (cs : List Cs) (pn : List Pn) (m a c : Nat) : List Nat := (leanRow cs pn a).filter fun p => decide (tbE cs pn m p c = tbB cs pn m a c)
def smF (f : Nat → Bool) (t : T) : List T := if (match t with | .int j => f j.toNat | _ => false) = true then [t] else []
theorem smF_map (l : List Nat) (f : Nat → Bool) : (l.map fun (n : Nat) => T.int (n : Int)).flatMap (smF f) = natsT (l.filter f) := by
  induction l with
  | nil => rfl
  | cons a l ih =>
    simp only [List.map_cons, List.flatMap_cons, ih, List.filter_cons, smF, natsT]
    by_cases h : f a = true <;> simp [h]
theorem eq_natsNil (l : List Nat) : eqT (.lst (natsT l)) (.lst []) = some l.isEmpty := by
  rw [eqT_lstNil (pls_all fun t ht => by obtain ⟨n, _, rfl⟩ := List.mem_map.mp ht; rfl) (Nat.le_trans (dps_all (n := 0) fun t ht => by obtain ⟨n, _, rfl⟩ := List.mem_map.mp ht; simp [dp]) (by decide))]
  simp [natsT]
theorem find_nodup {l : List Str} {a : Nat} (nd : l.Nodup) (ha : a < l.length) : l.findIdx? (· == l[a]) = some a := by
  rw [List.findIdx?_eq_some_iff_getElem]
  refine ⟨ha, by simp, fun j hj e => ?_⟩
  have : l[j]'(by omega) = l[a] := by simpa using e
  have := (List.getElem_inj nd).mp this
  omega
section
variable {cst : Str → Option T} {fuel : Nat} {ds : List Dn} {S : Store} {cs : List Cs} {pn : List Pn} {m : Nat}
abbrev dayB (cs : List Cs) (pn : List Pn) (f : Nat → Bool) : Nat → Int := frB (told cs pn (timesF cs pn f) pn.length)
abbrev dayE (cs : List Cs) (pn : List Pn) (f : Nat → Bool) : Nat → Int := endAt (told cs pn (timesF cs pn f) pn.length)
def WdJ (cs : List Cs) (pn : List Pn) (m a : Nat) (TE : Nat → Nat → Int) (S : Store) (k : Nat) (ρ : Env) (S' : Store) : Prop := ∃ (F : Nat → Bool) (nm at_ ct : T) (s11 s12 s13 s14 s15 : Slot), ρ = [.val (.tup (cs.map cT)), .val (.tup (pn.map pT)), .val (.int (m : Int)), .val nm, .val (.lst (strsL (pn.map (·.name)))), .val (.dct (knT cs)), .val (.lst ((tabM cs pn m pn.length).map rwT)), .val (.lst (rowsT cs pn pn.length)), .own (intsL (timesF cs pn F)), .val at_, .val ct, s11, s12, s13, s14, s15] ∧ S' = S ∧
  ((at_ = .non ∧ dayE cs pn F a = TE a m ∧ cnt F pn.length ≤ m) ∨ ∃ i c : Nat, at_ = .int (i : Int) ∧ ct = .int (c : Int) ∧ i < k ∧ Way (wdOf cs pn) TE (dayE cs pn) a m F i c)
theorem worst_day_spec (h : Has ds d_worst_day) (H2 : HasT ds) (G : Good cs pn) (V : Vals cs pn) (nd : (pn.map (·.name)).Nodup) {a : Nat} (ha : a < pn.length) (hm0 : m ≤ 100) (hfu : pn.length + 2 ≤ fuel) (k : Nat) :
    Y (callK cst fuel ds (k + 4) "worst_day" [.tup (cs.map cT), .tup (pn.map pT), .int (m : Int), .str (pn[a]).name] S) fun t S' => S' = S ∧ ∃ F, t = .tup (intsL (timesF cs pn F)) ∧ cnt F pn.length ≤ m ∧ dayE cs pn F a = tbE cs pn m a m := by
  obtain ⟨TB, TE, HT, hT⟩ := is_tab_ext V
  have O := wd_ok V
  have HD := fun f => is_day (cs := cs) (pn := pn) f
  have hB : ∀ i, i < pn.length → ∀ c ≤ m, tbB cs pn m i c = TB i c := fun i hi c hc => by rw [(hT i hi c).1]; exact (tab_stable i hi c m c hc (Nat.le_refl _)).1
  have hE : ∀ i, i < pn.length → ∀ c ≤ m, tbE cs pn m i c = TE i c := fun i hi c hc => by rw [(hT i hi c).2]; exact (tab_stable i hi c m c hc (Nat.le_refl _)).2
  have hlen := G.len
  have hnmp := G.nm _ (List.getElem_mem ha)
  refine y_callK h rfl ?_
  simp [d_worst_day, startE, getV, Ex.strict, strictAll]
  refine y_mapLx (g := fun t => [nmG t]) (fun x hx => ?_) ?_
  · obtain ⟨p, hp, rfl⟩ := List.mem_map.mp hx
    simp [lcF, bindTg, setAll, Tg.slots, wipeE, condT, getV, getP, Ex.strict, strictAll, pT, nmG]
  have en : (pn.map pT).flatMap (fun t => [nmG t]) = strsL (pn.map (·.name)) := by
    rw [map1]; simp [strsL, nmG, pT, Function.comp_def]
  rw [en]
  have hin : inT (.str pn[a].name) (.lst (strsL (pn.map (·.name)))) = some true := by
    have hp : pls (strsL (pn.map (·.name))) = true := pls_strs fun z hz => by obtain ⟨p, hp, rfl⟩ := List.mem_map.mp hz; exact G.nm p hp
    have e2 : shp (.lst (strsL (pn.map (·.name)))) = some (.list ((strsL (pn.map (·.name))).map encT)) := by rw [← enc_lst hp]; exact shp_of (by simpa [pl] using hp) (by simp [dp, dps_strs])
    unfold inT
    simp only [shp_of hnmp (by simp [dp]), e2]
    congr 1
    rw [List.any_eq_true]
    exact ⟨encT (.str pn[a].name), List.mem_map.mpr ⟨_, mem_strsL.mpr ⟨_, List.mem_map.mpr ⟨_, List.getElem_mem ha, rfl⟩, rfl⟩, rfl⟩, by simp [PyData.eqv]⟩
  (try simp [forF, bindTg, setAll, getV, getO, getP, Ex.strict, strictAll, newE, Itr.strict, hin])
  repeat (refine y_go ?_; simp [forF, bindTg, setAll, getV, getO, getP, Ex.strict, strictAll, newE, Itr.strict, hin])
  refine (by_name_spec H2.by_name _ cs).mono fun t S1 ⟨e, eS⟩ => ?_
  subst e eS
  (try simp [forF, bindTg, setAll, getV, getO, getP, Ex.strict, strictAll, newE, Itr.strict])
  repeat (refine y_go ?_; simp [forF, bindTg, setAll, getV, getO, getP, Ex.strict, strictAll, newE, Itr.strict])
  refine (table_spec H2.table H2.leans H2.by_name H2.meet H2.ends G hm0 _).mono fun t S1 ⟨e, eS⟩ => ?_
  subst e eS
  (try simp [forF, bindTg, setAll, getV, getO, getP, Ex.strict, strictAll, newE, Itr.strict])
  repeat (refine y_go ?_; simp [forF, bindTg, setAll, getV, getO, getP, Ex.strict, strictAll, newE, Itr.strict])
  refine (leans_spec H2.leans H2.by_name H2.meet G _).mono fun t S1 ⟨e, eS⟩ => ?_
  subst e eS
  (try simp [forF, bindTg, setAll, getV, getO, getP, Ex.strict, strictAll, newE, Itr.strict])
  repeat (refine y_go ?_; simp [forF, bindTg, setAll, getV, getO, getP, Ex.strict, strictAll, newE, Itr.strict])
  refine y_mapLx (g := fun t => [us1G cs t]) (fun x hx => ?_) ?_
  · obtain ⟨z, hz, rfl⟩ := mem_strsL.mp hx
    obtain ⟨p, hp, rfl⟩ := List.mem_map.mp hz
    obtain ⟨c, hc, ec, u, lo⟩ := G.ul hp
    simp [lcF, bindTg, setAll, Tg.slots, wipeE, condT, getV, getP, Ex.strict, strictAll, ec, cT, us1G, u]
  have eu : (strsL (pn.map (·.name))).flatMap (fun t => [us1G cs t]) = intsL (timesF cs pn noF) := by
    rw [flat1, ← times_no]; simp [strsL, us1G, usual, intsL, Function.comp_def]
  rw [eu]
  have hfi : mopT .index (.lst (strsL (pn.map (·.name)))) (.str pn[a].name) = some (.int (a : Int)) := by
    have h1 : a < (pn.map (·.name)).length := by simpa using ha
    have := find_nodup nd h1
    rw [List.getElem_map] at this
    simp [mopT, strsT_strs, this]
  (try simp [forF, bindTg, setAll, getV, getO, getP, Ex.strict, strictAll, newE, Itr.strict, hfi])
  repeat (refine y_go ?_; simp [forF, bindTg, setAll, getV, getO, getP, Ex.strict, strictAll, newE, Itr.strict, hfi])
  refine y_whL (WdJ cs pn m a TE S1) ?_ fuel (a + 1) _ _ (by omega) ⟨noF, _, _, _, _, _, _, _, _, rfl, rfl, .inr ⟨a, m, rfl, rfl, by omega, way_start ha⟩⟩
  · rintro k1 ρ S2 ⟨F, nm, at_, ct, s11, s12, s13, s14, s15, rfl, rfl, hJ⟩
    rcases hJ with ⟨rfl, hd, hc⟩ | ⟨i, c, rfl, rfl, hik, w⟩
    · refine ⟨.bl false, _, by simp [ev, bnd, opt, getV, isNon, RD.ret]; rfl, .inl ⟨rfl, ?_⟩⟩
      (try simp [forF, bindTg, setAll, getV, getO, getP, Ex.strict, strictAll, newE, Itr.strict])
      repeat (refine y_go ?_; simp [forF, bindTg, setAll, getV, getO, getP, Ex.strict, strictAll, newE, Itr.strict])
      exact ⟨F, rfl, hc, by rw [hE a ha m (Nat.le_refl _)]; exact hd⟩
    · have hi : i < pn.length := w.lt
      have hcm : c ≤ m := by have := w.cnt; omega
      simp [getV, isNon]
      have htl := tab_len (cs := cs) (pn := pn) (m := m) pn.length
      have hit : i < (tabM cs pn m pn.length).length := by omega
      have e1 : L2.atI ((tabM cs pn m pn.length).map rwT) (i : Int) = some (rwT (tabM cs pn m pn.length)[i]) := rw_at hit
      have hr := tab_row (m := m) G pn.length (Nat.le_refl _) _ (List.getElem_mem hit)
      have eB : ∀ d ≤ m, L2.atI (intsL (tabM cs pn m pn.length)[i].bs) (d : Int) = some (.int (tbB cs pn m i d)) := fun d hd => by
        rw [ints_at (by omega)]; simp [tbB, List.getElem?_eq_getElem hit]
      have eE : ∀ (p d : Nat) (hp : p < (tabM cs pn m pn.length).length), d ≤ m → L2.atI (intsL (tabM cs pn m pn.length)[p].es) (d : Int) = some (.int (tbE cs pn m p d)) := fun p d hp hd => by
        have hr := tab_row (m := m) G pn.length (Nat.le_refl _) _ (List.getElem_mem hp)
        rw [ints_at (by omega)]; simp [tbE, eAt, List.getElem?_eq_getElem hp]
      have eN : L2.atI (strsL (pn.map (·.name))) (i : Int) = some (.str pn[i].name) := atI_nat (by simp [strsL, hi])
      obtain ⟨cc, hcc, ec, u, lo⟩ := G.ul (List.getElem_mem hi)
      have eP : L2.atI (pn.map pT) (i : Int) = some (pT pn[i]) := atI_nat (by simp [hi])
      have eR : L2.atI (rowsT cs pn pn.length) (i : Int) = some (rowT (leanRow cs pn i)) := atI_nat (by simp [rowsT, hi])
      have eU : (wdOf cs pn).u i = cc.usual := by simp only [wdOf]; rw [nm_get hi, u]
      have eS : (wdOf cs pn).s i = pn[i].start := by simp [wdOf, hi]
      simp [Ex.strict, e1, rwT, setAll]
      have eI : L2.ixN (intsL (timesF cs pn F)).length (i : Int) = some i := by
        unfold L2.ixN
        have : (intsL (timesF cs pn F)).length = pn.length := by simp [intsL, timesF]
        rw [this, if_pos (by omega), if_pos (by omega)]; simp
      refine y_go ?_
      by_cases hov : tbB cs pn m i c + cc.usual < tbE cs pn m i c
      · have h0 : 0 < c := over_pos O HT HD hi (by rw [← hB i hi c hcm, ← hE i hi c hcm, eU]; exact hov)
        simp [forF, bindTg, setAll, getV, getO, getP, Ex.strict, strictAll, newE, Itr.strict, eB c hcm, eE i c hit hcm, eN, ec, cT, hov, eI]
        refine y_go ?_
        simp [forF, bindTg, setAll, getV, getO, getP, Ex.strict, strictAll, newE, Itr.strict]
        have ec1 : ((c : Int) - 1) = ((c - 1 : Nat) : Int) := by omega
        rw [ec1, ← lo, ← nm_get hi, times_set hi]
        have hcc' : c - 1 ≤ m := by omega
        have hG : (TE i c > TB i c + (wdOf cs pn).u i ∧ oneF i = oneF i ∧ c = (c - 1) + 1) ∨ (TE i c = TB i c + (wdOf cs pn).u i ∧ oneF i = noF ∧ c - 1 = c) := .inl ⟨by rw [← hB i hi c hcm, ← hE i hi c hcm, eU]; exact hov, rfl, by omega⟩
        refine y_go ?_
        simp [forF, bindTg, setAll, getV, getO, getP, Ex.strict, strictAll, newE, Itr.strict, eR, rowT]
        refine y_mapLx (g := smF fun p => decide (tbE cs pn m p (c - 1) = tbB cs pn m i (c - 1))) (fun x hx => ?_) ?_
        · simp only [List.mem_map] at hx
          obtain ⟨p, hp, rfl⟩ := hx
          have hpi := lean_lt hp
          have hpt : p < (tabM cs pn m pn.length).length := by omega
          have e1p : L2.atI ((tabM cs pn m pn.length).map rwT) (p : Int) = some (rwT (tabM cs pn m pn.length)[p]) := rw_at hpt
          simp [lcF, bindTg, setAll, Tg.slots, wipeE, condT, getV, getP, Ex.strict, strictAll, e1p, rwT, eE p (c - 1) hpt hcc', eB (c - 1) hcc', eqT_int]
          by_cases hq : tbE cs pn m p (c - 1) = tbB cs pn m i (c - 1) <;> simp [hq, condT, smF, getV, Ex.strict]
        rw [smF_map]
        generalize hsl : ((leanRow cs pn i).filter fun p => decide (tbE cs pn m p (c - 1) = tbB cs pn m i (c - 1))) = sl
        have hmem : ∀ p, p ∈ sl ↔ p ∈ leanRow cs pn i ∧ tbE cs pn m p (c - 1) = tbB cs pn m i (c - 1) := fun p => by rw [← hsl, List.mem_filter, decide_eq_true_eq]
        cases sl with
        | nil =>
          have hst : TB i (c - 1) = (wdOf cs pn).s i := by
            rw [(HT i hi (c - 1)).1]
            rcases fmx_or (l := ((wdOf cs pn).row i).map fun j => TE j (c - 1)) (s := (wdOf cs pn).s i) with h | h
            · exact h
            · obtain ⟨j, hj, e⟩ := List.mem_map.mp h
              have hjl := lean_lt (show j ∈ leanRow cs pn i from hj)
              have := (hmem j).mpr ⟨hj, by rw [hE j (by omega) (c - 1) hcc', hB i hi (c - 1) hcc', (HT i hi (c - 1)).1]; exact e⟩
              cases this
          have st := way_stop O HT HD w ha hG hst
          (try simp [forF, bindTg, setAll, getV, getO, getP, Ex.strict, strictAll, newE, Itr.strict, eq_natsNil, eB (c - 1) hcc', eP, pT])
          repeat (refine y_go ?_; simp [forF, bindTg, setAll, getV, getO, getP, Ex.strict, strictAll, newE, Itr.strict, eq_natsNil, eB (c - 1) hcc', eP, pT])
          exact ⟨0, by omega, (orF F (oneF i)), _, _, _, _, _, _, _, _, rfl, rfl, .inl ⟨rfl, st.1, st.2⟩⟩
        | cons p ps =>
          obtain ⟨hpr, hpe⟩ := (hmem p).mp (by simp)
          have hpi := lean_lt hpr
          rw [hE p (by omega) (c - 1) hcc', hB i hi (c - 1) hcc'] at hpe
          (try simp [forF, bindTg, setAll, getV, getO, getP, Ex.strict, strictAll, newE, Itr.strict, eq_natsNil, eB (c - 1) hcc', eP, pT])
          repeat (refine y_go ?_; simp [forF, bindTg, setAll, getV, getO, getP, Ex.strict, strictAll, newE, Itr.strict, eq_natsNil, eB (c - 1) hcc', eP, pT])
          by_cases hb : pn[i].start < tbB cs pn m i (c - 1)
          · exact .inr ⟨hb, .int (p : Int), by simp [natsT], i, by omega, (orF F (oneF i)), _, _, _, _, _, _, _, _, rfl, rfl, .inr ⟨p, (c - 1), rfl, rfl, hpi, way_next O HT HD w hG hpr hpe⟩⟩
          · have hst : TB i (c - 1) = (wdOf cs pn).s i := by
              refine Int.le_antisymm ?_ ?_
              · rw [eS, ← hB i hi (c - 1) hcc']; omega
              · rw [(HT i hi (c - 1)).1]; exact fmx_init
            have st := way_stop O HT HD w ha hG hst
            exact .inl ⟨by omega, 0, by omega, (orF F (oneF i)), _, _, _, _, _, _, _, _, rfl, rfl, .inl ⟨rfl, st.1, st.2⟩⟩
      · simp [forF, bindTg, setAll, getV, getO, getP, Ex.strict, strictAll, newE, Itr.strict, eB c hcm, eE i c hit hcm, eN, ec, cT, hov]
        have hcc' : c ≤ m := hcm
        have hG : (TE i c > TB i c + (wdOf cs pn).u i ∧ noF = oneF i ∧ c = c + 1) ∨ (TE i c = TB i c + (wdOf cs pn).u i ∧ noF = noF ∧ c = c) := .inr ⟨by
          have h1 := (HT i hi c).2
          have h2 : TB i c + (wdOf cs pn).u i ≤ TE i c := by rw [h1]; exact le_mxl
          rw [← hB i hi c hcm, ← hE i hi c hcm, eU] at *
          omega, rfl, rfl⟩
        have eF : F = orF F noF := by funext j; simp [orF, noF]
        rw [eF]
        refine y_go ?_
        simp [forF, bindTg, setAll, getV, getO, getP, Ex.strict, strictAll, newE, Itr.strict, eR, rowT]
        refine y_mapLx (g := smF fun p => decide (tbE cs pn m p c = tbB cs pn m i c)) (fun x hx => ?_) ?_
        · simp only [List.mem_map] at hx
          obtain ⟨p, hp, rfl⟩ := hx
          have hpi := lean_lt hp
          have hpt : p < (tabM cs pn m pn.length).length := by omega
          have e1p : L2.atI ((tabM cs pn m pn.length).map rwT) (p : Int) = some (rwT (tabM cs pn m pn.length)[p]) := rw_at hpt
          simp [lcF, bindTg, setAll, Tg.slots, wipeE, condT, getV, getP, Ex.strict, strictAll, e1p, rwT, eE p c hpt hcc', eB c hcc', eqT_int]
          by_cases hq : tbE cs pn m p c = tbB cs pn m i c <;> simp [hq, condT, smF, getV, Ex.strict]
        rw [smF_map]
        generalize hsl : ((leanRow cs pn i).filter fun p => decide (tbE cs pn m p c = tbB cs pn m i c)) = sl
        have hmem : ∀ p, p ∈ sl ↔ p ∈ leanRow cs pn i ∧ tbE cs pn m p c = tbB cs pn m i c := fun p => by rw [← hsl, List.mem_filter, decide_eq_true_eq]
        cases sl with
        | nil =>
          have hst : TB i c = (wdOf cs pn).s i := by
            rw [(HT i hi c).1]
            rcases fmx_or (l := ((wdOf cs pn).row i).map fun j => TE j c) (s := (wdOf cs pn).s i) with h | h
            · exact h
            · obtain ⟨j, hj, e⟩ := List.mem_map.mp h
              have hjl := lean_lt (show j ∈ leanRow cs pn i from hj)
              have := (hmem j).mpr ⟨hj, by rw [hE j (by omega) c hcc', hB i hi c hcc', (HT i hi c).1]; exact e⟩
              cases this
          have st := way_stop O HT HD w ha hG hst
          (try simp [forF, bindTg, setAll, getV, getO, getP, Ex.strict, strictAll, newE, Itr.strict, eq_natsNil, eB c hcc', eP, pT])
          repeat (refine y_go ?_; simp [forF, bindTg, setAll, getV, getO, getP, Ex.strict, strictAll, newE, Itr.strict, eq_natsNil, eB c hcc', eP, pT])
          exact ⟨0, by omega, (orF F noF), _, _, _, _, _, _, _, _, rfl, rfl, .inl ⟨rfl, st.1, st.2⟩⟩
        | cons p ps =>
          obtain ⟨hpr, hpe⟩ := (hmem p).mp (by simp)
          have hpi := lean_lt hpr
          rw [hE p (by omega) c hcc', hB i hi c hcc'] at hpe
          (try simp [forF, bindTg, setAll, getV, getO, getP, Ex.strict, strictAll, newE, Itr.strict, eq_natsNil, eB c hcc', eP, pT])
          repeat (refine y_go ?_; simp [forF, bindTg, setAll, getV, getO, getP, Ex.strict, strictAll, newE, Itr.strict, eq_natsNil, eB c hcc', eP, pT])
          by_cases hb : pn[i].start < tbB cs pn m i c
          · exact .inr ⟨hb, .int (p : Int), by simp [natsT], i, by omega, (orF F noF), _, _, _, _, _, _, _, _, rfl, rfl, .inr ⟨p, c, rfl, rfl, hpi, way_next O HT HD w hG hpr hpe⟩⟩
          · have hst : TB i c = (wdOf cs pn).s i := by
              refine Int.le_antisymm ?_ ?_
              · rw [eS, ← hB i hi c hcc']; omega
              · rw [(HT i hi c).1]; exact fmx_init
            have st := way_stop O HT HD w ha hG hst
            exact .inl ⟨by omega, 0, by omega, (orF F noF), _, _, _, _, _, _, _, _, rfl, rfl, .inl ⟨rfl, st.1, st.2⟩⟩
end
end RD

namespace RD
open PySem

@[simp] theorem cut6_13 {α : Type} {a b c d e f : α} : cutT [a, b, c, d, e, f] (some 1) (some 3) = [b, c] := rfl
theorem rng_at {n c : Nat} {x : T} (h : (rngT 0 n)[c]? = some x) : c < n ∧ x = .int (c : Int) := by
  have hc : c < n := by
    have := (List.getElem?_eq_some_iff.mp h).1
    rwa [rng_len] at this
  refine ⟨hc, ?_⟩
  simp [rngT, hc] at h
  exact h.symm
theorem cut_lenm {α : Type} {l : List α} {m : Nat} : (cutT l none (some (m : Int))).length ≤ m := by
  unfold cutT
  rw [HT.sIx_nat, HT.sIx_none]; simp; omega
theorem cut_map {α β : Type} {l : List α} {f : α → β} {a b : Option Int} : cutT (l.map f) a b = (cutT l a b).map f := by
  unfold cutT
  simp
theorem in_lnats {i : Nat} {L : List Nat} : inT (.int (i : Int)) (.lst (natsT L)) = some (inL L i) := by
  have h : pls (natsT L) = true := pls_all fun t ht => by obtain ⟨n, _, rfl⟩ := List.mem_map.mp ht; rfl
  have hd : dps (natsT L) ≤ 0 := dps_all fun t ht => by obtain ⟨n, _, rfl⟩ := List.mem_map.mp ht; simp [dp]
  have e : inT (.int (i : Int)) (.tup (natsT L)) = some (inL L i) := in_row (i := i) (L := L)
  rw [inT_tup rfl h (by simp [dp]) (by omega)] at e
  have e2 : shp (.lst (natsT L)) = some (.list ((natsT L).map encT)) := by rw [← enc_lst h]; exact shp_of (by simpa [pl] using h) (by simp [dp]; omega)
  unfold inT
  simp only [shp_of (t := .int (i : Int)) rfl (by simp [dp]), e2, List.any_map, Function.comp_def]
  exact e
theorem cnt_in : ∀ (L : List Nat) (n : Nat), cnt (inL L) n ≤ L.length
  | [], n => by rw [cnt_zero fun j _ => by simp [inL]]; exact Nat.zero_le _
  | a :: L, n => by
    have h1 := cnt_in L n
    have h2 := cnt_or (F := oneF a) (f := inL L) n
    have h3 := cnt_one a n
    have e : cnt (inL (a :: L)) n = cnt (orF (oneF a) (inL L)) n := cnt_congr fun j _ => by
      simp only [orF, inL, oneF, List.mem_cons]
      by_cases x : j = a <;> by_cases y : j ∈ L <;> simp [x, y]
    rw [e]
    simp only [List.length_cons]
    split at h3 <;> omega
theorem nats_of : ∀ {q : List T} {l : List Nat}, q.Perm (natsT l) → ∃ L : List Nat, q = natsT L := by
  intro q l h
  have hm : ∀ t ∈ q, ∃ n : Nat, t = .int (n : Int) := fun t ht => by
    obtain ⟨n, _, e⟩ := List.mem_map.mp (h.mem_iff.mp ht)
    exact ⟨n, e.symm⟩
  clear h
  induction q with
  | nil => exact ⟨[], rfl⟩
  | cons a q ih =>
    obtain ⟨n, rfl⟩ := hm a (by simp)
    obtain ⟨L, rfl⟩ := ih fun t ht => hm t (List.mem_cons_of_mem _ ht)
    exact ⟨n :: L, rfl⟩
section
variable {cst : Str → Option T} {fuel : Nat} {ds : List Dn} {S : Store} {cs : List Cs} {pn : List Pn} {m : Nat}
def MixJ (n : Nat) (nt : T) (l : List T) (i : Nat) (ρ : Env) (S : Store) : Prop := ∃ (q : List T) (s3 : Slot), ρ = [.val (.ref n), .val nt, .own q, s3] ∧ BagAt S n ∧ q.Perm (l.take i)
theorem mixed_spec (ht : Has ds d__law_take) (h : Has ds d__law_mixed) (k : Nat) {n : Nat} {nt : T} {l : List T} (hb : BagAt S n) (hl : itemsT nt = some l) (hn : l.length ≤ 1000) :
    Y (callK cst fuel ds (k + 2) "_law_mixed" [.ref n, nt] S) fun t S' => BagAt S' n ∧ ∃ q, t = .tup q ∧ q.Perm l := by
  refine y_callK h rfl ?_
  simp [d__law_mixed, startE]
  (try simp [forF, bindTg, setAll, getV, getO, getP, Ex.strict, strictAll, newE, Itr.strict, hl])
  repeat (refine y_go ?_; simp [forF, bindTg, setAll, getV, getO, getP, Ex.strict, strictAll, newE, Itr.strict, hl])
  refine y_forI (MixJ n nt l) ?_ ?_ ⟨[], .none, rfl, hb, by simp⟩
  · rintro i x ρ S1 hx ⟨q, s3, rfl, b1, hp⟩
    have hi := (List.getElem?_eq_some_iff.mp hx).1
    have hq : q.length ≤ 1000 := by rw [hp.length_eq]; simp; omega
    (try simp [forF, bindTg, setAll, getV, getO, getP, Ex.strict, strictAll, newE, Itr.strict])
    repeat (refine y_go ?_; simp [forF, bindTg, setAll, getV, getO, getP, Ex.strict, strictAll, newE, Itr.strict])
    refine (take_spec ht _ b1 (by omega) (by omega)).mono fun t S2 ⟨b2, r, e, r0, r1⟩ => ?_
    subst e
    (try simp [forF, bindTg, setAll, getV, getO, getP, Ex.strict, strictAll, newE, Itr.strict])
    repeat (refine y_go ?_; simp [forF, bindTg, setAll, getV, getO, getP, Ex.strict, strictAll, newE, Itr.strict])
    refine ⟨⟨Nat.lt_of_le_of_lt hq (by decide), r0, by omega⟩, q.take r.toNat ++ x :: q.drop r.toNat, .val x, rfl, b2, ?_⟩
    rw [List.take_add_one, hx]
    simp only [Option.toList_some]
    have h1 : (q.take r.toNat ++ x :: q.drop r.toNat).Perm (x :: (q.take r.toNat ++ q.drop r.toNat)) := List.perm_middle
    rw [List.take_append_drop] at h1
    refine h1.trans ?_
    exact (List.Perm.cons x hp).trans (List.perm_append_comm (l₁ := [x]))
  · rintro ρ S1 ⟨q, s3, rfl, b1, hp⟩
    rw [List.take_length] at hp
    (try simp [forF, bindTg, setAll, getV, getO, getP, Ex.strict, strictAll, newE, Itr.strict])
    repeat (refine y_go ?_; simp [forF, bindTg, setAll, getV, getO, getP, Ex.strict, strictAll, newE, Itr.strict])
    exact ⟨b1, hp⟩
def WiJ (cs : List Cs) (pn : List Pn) (m n : Nat) (q : List T) (L : List Nat) (i : Nat) (ρ : Env) (S : Store) : Prop := ∃ (ms : List Int) (s8 s9 s10 s11 s12 s13 : Slot), ρ = [.val (.ref n), .val (.tup (cs.map cT)), .val (.tup (pn.map pT)), .val (.int (m : Int)), .val (.dct (knT cs)), .val (.tup q), .val (.lst (natsT L)), .own (intsL ms), s8, s9, s10, s11, s12, s13] ∧ BagAt S n ∧ ms.length = i ∧ ∀ j (h : j < ms.length), 1 ≤ ms[j] ∧ ms[j] ≤ if inL L j = true then loOf cs (nmAt pn j) else usOf cs (nmAt pn j)
theorem within_spec (ht : Has ds d__law_take) (hm : Has ds d__law_mixed) (h : Has ds d__law_within_day) (G : Good cs pn) (V : Vals cs pn) (hlo : ∀ p ∈ pn, loOf cs p.name ≤ 400) (k : Nat) {n : Nat} (hb : BagAt S n) :
    Y (callK cst fuel ds (k + 3) "_law_within_day" [.ref n, .tup (cs.map cT), .tup (pn.map pT), .int (m : Int)] S) fun t S' => BagAt S' n ∧ ∃ (ms : List Int) (f : Nat → Bool), t = .tup (intsL ms) ∧ ms.length = pn.length ∧ cnt f pn.length ≤ m ∧ ∀ j (h : j < ms.length), 1 ≤ ms[j] ∧ ms[j] ≤ if f j = true then loOf cs (nmAt pn j) else usOf cs (nmAt pn j) := by
  have hlen := G.len
  refine y_callK h rfl ?_
  simp [d__law_within_day, startE]
  (try simp [forF, bindTg, setAll, getV, getO, getP, Ex.strict, strictAll, newE, Itr.strict])
  repeat (refine y_go ?_; simp [forF, bindTg, setAll, getV, getO, getP, Ex.strict, strictAll, newE, Itr.strict])
  refine y_mapLx (g := fun t => [prG t]) (fun x hx => ?_) ?_
  · obtain ⟨c, hc, rfl⟩ := List.mem_map.mp hx
    simp [lcF, bindTg, setAll, Tg.slots, wipeE, condT, getV, getP, Ex.strict, strictAll, cT, prG]
  rw [pairs_map]
  have hk : mergeT [] (cs.map fun c => ((.inr c.name : Key), cT c)) = knT cs := rfl
  (try simp [forF, bindTg, setAll, getV, getO, getP, Ex.strict, strictAll, newE, Itr.strict, pairs_cs, hk])
  repeat (refine y_go ?_; simp [forF, bindTg, setAll, getV, getO, getP, Ex.strict, strictAll, newE, Itr.strict, pairs_cs, hk])
  refine ⟨by omega, ?_⟩
  refine (mixed_spec ht hm _ hb (l := natsT (List.range pn.length)) rfl (by simp [natsT]; omega)).mono fun t S1 ⟨b1, q, e, hp⟩ => ?_
  subst e
  obtain ⟨Lq, rfl⟩ := nats_of hp
  have ec : cutT (natsT Lq) none (some (m : Int)) = natsT (cutT Lq none (some (m : Int))) := cut_map
  (try simp [forF, bindTg, setAll, getV, getO, getP, Ex.strict, strictAll, newE, Itr.strict, ec])
  repeat (refine y_go ?_; simp [forF, bindTg, setAll, getV, getO, getP, Ex.strict, strictAll, newE, Itr.strict, ec])
  have hcl : (cutT Lq none (some (m : Int))).length ≤ m := cut_lenm
  generalize cutT Lq none (some (m : Int)) = L at hcl
  refine y_forI (WiJ cs pn m n (natsT Lq) L) ?_ ?_ ⟨[], .none, .none, .none, .none, .none, .none, rfl, b1, rfl, by simp⟩
  · rintro i x ρ S2 hx ⟨ms, s8, s9, s10, s11, s12, s13, rfl, b2, hl, hms⟩
    obtain ⟨t, ht', rfl⟩ := enum_at hx
    obtain ⟨p, hp', rfl, hpm⟩ := plan_at ht'
    have hi : i < pn.length := (List.getElem?_eq_some_iff.mp hp').1
    obtain ⟨c, hc, ec', u, lo⟩ := G.ul hpm
    have u0 := V.u0 p hpm
    have ul := V.ul p hpm
    have l4 := hlo p hpm
    rw [u] at u0 ul
    rw [lo] at ul l4
    have en : nmAt pn i = p.name := by simp [nmAt, hp']
    (try simp [forF, bindTg, setAll, getV, getO, getP, Ex.strict, strictAll, newE, Itr.strict, pT, ec', cT, in_lnats])
    repeat (refine y_go ?_; simp [forF, bindTg, setAll, getV, getO, getP, Ex.strict, strictAll, newE, Itr.strict, pT, ec', cT, in_lnats])
    rcases Bool.eq_false_or_eq_true (inL L i) with hB | hB
    · simp only [hB]
      simp
      (try simp [forF, bindTg, setAll, getV, getO, getP, Ex.strict, strictAll, newE, Itr.strict])
      repeat (refine y_go ?_; simp [forF, bindTg, setAll, getV, getO, getP, Ex.strict, strictAll, newE, Itr.strict])
      refine (take_spec ht _ b2 (by omega) (by omega)).mono fun t S3 ⟨b3, v, e, v0, v1⟩ => ?_
      subst e
      (try simp [forF, bindTg, setAll, getV, getO, getP, Ex.strict, strictAll, newE, Itr.strict])
      repeat (refine y_go ?_; simp [forF, bindTg, setAll, getV, getO, getP, Ex.strict, strictAll, newE, Itr.strict])
      refine (take_spec ht _ b3 (by decide) (by decide)).mono fun t S4 ⟨b4, j, e, j0, j1⟩ => ?_
      subst e
      obtain ⟨a, ea, ha⟩ := atI_of (l := [T.int c.longest, .int c.longest, .int (1 + v)]) j0 (by simpa using j1)
      have ha' : ∃ z : Int, a = .int z ∧ 1 ≤ z ∧ z ≤ c.longest := by
        simp only [List.mem_cons, List.not_mem_nil, or_false] at ha
        rcases ha with rfl | rfl | rfl
        · exact ⟨_, rfl, by omega, by omega⟩
        · exact ⟨_, rfl, by omega, by omega⟩
        · exact ⟨_, rfl, by omega, by omega⟩
      obtain ⟨z, rfl, z1, z2⟩ := ha'
      (try simp [forF, bindTg, setAll, getV, getO, getP, Ex.strict, strictAll, newE, Itr.strict, ea])
      repeat (refine y_go ?_; simp [forF, bindTg, setAll, getV, getO, getP, Ex.strict, strictAll, newE, Itr.strict, ea])
      refine ⟨Nat.lt_of_le_of_lt (show (intsL ms).length ≤ 1000 by simp [intsL, hl]; omega) (by decide), ms ++ [z], _, _, _, _, _, _, by simp [intsL]; exact ⟨rfl, rfl, rfl, rfl, rfl, rfl⟩, b4, by simp [hl], fun j hj => ?_⟩
      rcases Nat.lt_or_ge j ms.length with h' | h'
      · rw [List.getElem_append_left h']; exact hms j h'
      · have : j = i := by simp at hj; omega
        subst this
        rw [List.getElem_append_right h']
        simp [hB, en, lo, z1, z2]
    · simp only [hB]
      simp
      (try simp [forF, bindTg, setAll, getV, getO, getP, Ex.strict, strictAll, newE, Itr.strict])
      repeat (refine y_go ?_; simp [forF, bindTg, setAll, getV, getO, getP, Ex.strict, strictAll, newE, Itr.strict])
      refine (take_spec ht _ b2 (by omega) (by omega)).mono fun t S3 ⟨b3, v, e, v0, v1⟩ => ?_
      subst e
      (try simp [forF, bindTg, setAll, getV, getO, getP, Ex.strict, strictAll, newE, Itr.strict])
      repeat (refine y_go ?_; simp [forF, bindTg, setAll, getV, getO, getP, Ex.strict, strictAll, newE, Itr.strict])
      refine (take_spec ht _ b3 (by decide) (by decide)).mono fun t S4 ⟨b4, j, e, j0, j1⟩ => ?_
      subst e
      obtain ⟨a, ea, ha⟩ := atI_of (l := [T.int c.usual, .int c.usual, .int (1 + v)]) j0 (by simpa using j1)
      have ha' : ∃ z : Int, a = .int z ∧ 1 ≤ z ∧ z ≤ c.usual := by
        simp only [List.mem_cons, List.not_mem_nil, or_false] at ha
        rcases ha with rfl | rfl | rfl
        · exact ⟨_, rfl, by omega, by omega⟩
        · exact ⟨_, rfl, by omega, by omega⟩
        · exact ⟨_, rfl, by omega, by omega⟩
      obtain ⟨z, rfl, z1, z2⟩ := ha'
      (try simp [forF, bindTg, setAll, getV, getO, getP, Ex.strict, strictAll, newE, Itr.strict, ea])
      repeat (refine y_go ?_; simp [forF, bindTg, setAll, getV, getO, getP, Ex.strict, strictAll, newE, Itr.strict, ea])
      refine ⟨Nat.lt_of_le_of_lt (show (intsL ms).length ≤ 1000 by simp [intsL, hl]; omega) (by decide), ms ++ [z], _, _, _, _, _, _, by simp [intsL]; exact ⟨rfl, rfl, rfl, rfl, rfl, rfl⟩, b4, by simp [hl], fun j hj => ?_⟩
      rcases Nat.lt_or_ge j ms.length with h' | h'
      · rw [List.getElem_append_left h']; exact hms j h'
      · have : j = i := by simp at hj; omega
        subst this
        rw [List.getElem_append_right h']
        simp [hB, en, u, z1, z2]
  · rintro ρ S2 ⟨ms, s8, s9, s10, s11, s12, s13, rfl, b2, hl, hms⟩
    (try simp [forF, bindTg, setAll, getV, getO, getP, Ex.strict, strictAll, newE, Itr.strict])
    repeat (refine y_go ?_; simp [forF, bindTg, setAll, getV, getO, getP, Ex.strict, strictAll, newE, Itr.strict])
    refine ⟨b2, ms, rfl, by rw [hl, enumT_len]; simp, inL L, Nat.le_trans (cnt_in L _) hcl, hms⟩
/-! ### a paper whose numbers are later here and there -/
def lstF (cs : List Cs) (pn : List Pn) (R : List (List Int)) (c : Nat) (acc : Int) (p : Nat) : Int := if 0 < c then mx (mx acc (getR R p c + usOf cs (nmAt pn p))) (getR R p (c - 1) + loOf cs (nmAt pn p)) else mx acc (getR R p c + usOf cs (nmAt pn p))
theorem lst_init {R : List (List Int)} {c : Nat} : ∀ {ps : List Nat} {s : Int}, s ≤ ps.foldl (lstF cs pn R c) s
  | [], s => Int.le_refl _
  | p :: ps, s => by
    refine Int.le_trans ?_ (lst_init (ps := ps))
    unfold lstF
    split
    · exact Int.le_trans le_mxl le_mxl
    · exact le_mxl
theorem lst_mem {R : List (List Int)} {c p : Nat} : ∀ {ps : List Nat} {s : Int}, p ∈ ps → getR R p c + usOf cs (nmAt pn p) ≤ ps.foldl (lstF cs pn R c) s ∧ (0 < c → getR R p (c - 1) + loOf cs (nmAt pn p) ≤ ps.foldl (lstF cs pn R c) s)
  | q :: ps, s, h => by
    rcases List.mem_cons.mp h with rfl | h
    · refine ⟨Int.le_trans ?_ (lst_init (ps := ps)), fun h0 => Int.le_trans ?_ (lst_init (ps := ps))⟩
      · unfold lstF
        split
        · exact Int.le_trans le_mxr le_mxl
        · exact le_mxr
      · unfold lstF
        rw [if_pos h0]; exact le_mxr
    · exact lst_mem (ps := ps) h
theorem least_lst {R : List (List Int)} {a c : Nat} (ha : a < pn.length) : leastM cs pn R a c ≤ (leanRow cs pn a).foldl (lstF cs pn R c) pn[a].start := by
  refine least_le fun y hy => ?_
  rcases mem_least hy with rfl | ⟨p, hp, h⟩
  · simp only [List.getElem?_eq_getElem ha, Option.map_some, Option.getD_some]
    exact lst_init
  · have := lst_mem (cs := cs) (pn := pn) (R := R) (c := c) (s := pn[a].start) (List.mem_reverse.mp hp)
    rcases h with rfl | ⟨h0, rfl⟩
    · exact this.1
    · exact this.2 h0
theorem lst_le {R : List (List Int)} {c : Nat} {x : Int} (hu : ∀ p ∈ pn, usOf cs p.name ≤ 400) (hl : ∀ p ∈ pn, loOf cs p.name ≤ 400) : ∀ {ps : List Nat} {s : Int}, (∀ p ∈ ps, p < pn.length ∧ getR R p c + 400 ≤ x ∧ getR R p (c - 1) + 400 ≤ x) → s ≤ x → ps.foldl (lstF cs pn R c) s ≤ x
  | [], s, _, h => h
  | p :: ps, s, hp, h => by
    obtain ⟨h0, h1, h2⟩ := hp p (by simp)
    refine lst_le hu hl (ps := ps) (fun q hq => hp q (List.mem_cons_of_mem _ hq)) ?_
    have e1 := hu _ (List.getElem_mem h0)
    have e2 := hl _ (List.getElem_mem h0)
    unfold lstF
    rw [nm_get h0]
    split
    · refine mx_le.mpr ⟨mx_le.mpr ⟨h, by omega⟩, by omega⟩
    · exact mx_le.mpr ⟨h, by omega⟩
theorem getR_app {R X : List (List Int)} {p c : Nat} (h : p < R.length) : getR (R ++ X) p c = getR R p c := by
  unfold getR; rw [List.getElem?_append_left h]
theorem getR_last {R : List (List Int)} {w : List Int} {c : Nat} : getR (R ++ [w]) R.length c = w.getD c 0 := by
  unfold getR; rw [List.getElem?_append_right (Nat.le_refl _)]; simp
theorem leastL_app {R X : List (List Int)} {s : Int} {c : Nat} : ∀ {ps : List Nat}, (∀ p ∈ ps, p < R.length) → leastL cs pn (R ++ X) s c ps = leastL cs pn R s c ps
  | [], _ => rfl
  | p :: ps, h => by
    rw [leastL, leastL, leastL_app (ps := ps) fun q hq => h q (List.mem_cons_of_mem _ hq), getR_app (h p (by simp)), getR_app (h p (by simp))]
theorem leastM_app {R X : List (List Int)} {a c : Nat} (h : a ≤ R.length) : leastM cs pn (R ++ X) a c = leastM cs pn R a c := by
  unfold leastM
  rw [leastL_app fun p hp => by have := lean_lt (List.mem_reverse.mp hp); omega]
def LaJ1 (cs : List Cs) (pn : List Pn) (m n : Nat) (i : Nat) (ρ : Env) (S : Store) : Prop := ∃ (R : List (List Int)) (s7 s8 s9 s10 s11 s12 s13 s14 s15 : Slot), ρ = [.val (.ref n), .val (.tup (cs.map cT)), .val (.tup (pn.map pT)), .val (.int (m : Int)), .val (.dct (knT cs)), .val (.lst (rowsT cs pn pn.length)), .own (R.map rI), s7, s8, s9, s10, s11, s12, s13, s14, s15] ∧ BagAt S n ∧ R.length = i ∧ (∀ r ∈ R, r.length = m + 1) ∧ (∀ a, a < i → ∀ c, c < m + 1 → leastM cs pn R a c ≤ getR R a c) ∧ ∀ a, a < i → ∀ c, c < m + 1 → 0 ≤ getR R a c ∧ getR R a c ≤ 1000 + 450 * ((a : Int) + 1)
def LaJ2 (cs : List Cs) (pn : List Pn) (m n : Nat) (R : List (List Int)) (a : Nat) (p : Pn) (c : Nat) (ρ : Env) (S : Store) : Prop := ∃ (w : List Int) (s10 s11 s12 s13 s14 s15 : Slot), ρ = [.val (.ref n), .val (.tup (cs.map cT)), .val (.tup (pn.map pT)), .val (.int (m : Int)), .val (.dct (knT cs)), .val (.lst (rowsT cs pn pn.length)), .own (R.map rI), .val (.int (a : Int)), .val (pT p), .own (intsL w), s10, s11, s12, s13, s14, s15] ∧ BagAt S n ∧ w.length = c ∧ (∀ d, d < c → leastM cs pn R a d ≤ w.getD d 0) ∧ ∀ d, d < c → 0 ≤ w.getD d 0 ∧ w.getD d 0 ≤ 1000 + 450 * ((a : Int) + 1)
def LaJ3 (cs : List Cs) (pn : List Pn) (m n : Nat) (R : List (List Int)) (a : Nat) (p : Pn) (c : Nat) (w : List Int) (S0 : Store) (b : Nat) (ρ : Env) (S : Store) : Prop := ∃ (s12 s13 s14 s15 : Slot), ρ = [.val (.ref n), .val (.tup (cs.map cT)), .val (.tup (pn.map pT)), .val (.int (m : Int)), .val (.dct (knT cs)), .val (.lst (rowsT cs pn pn.length)), .own (R.map rI), .val (.int (a : Int)), .val (pT p), .own (intsL w), .val (.int (c : Int)), .val (.int (((leanRow cs pn a).take b).foldl (lstF cs pn R c) p.start)), s12, s13, s14, s15] ∧ S = S0
theorem later_spec (ht : Has ds d__law_take) (hl : Has ds d__law_leans) (h : Has ds d__law_later) (G : Good cs pn) (hst : ∀ p ∈ pn, 0 ≤ p.start ∧ p.start ≤ 1000) (hu : ∀ p ∈ pn, usOf cs p.name ≤ 400) (hlo : ∀ p ∈ pn, loOf cs p.name ≤ 400) (hm0 : m ≤ 100) (k : Nat) {n : Nat} (hb : BagAt S n) :
    Y (callK cst fuel ds (k + 3) "_law_later" [.ref n, .tup (cs.map cT), .tup (pn.map pT), .int (m : Int)] S) fun t S' => BagAt S' n ∧ ∃ R, t = papT R ∧ PapOk pn m R ∧ paperB cs pn m R = true ∧ ∀ a, a < pn.length → ∀ c, c < m + 1 → 0 ≤ getR R a c ∧ getR R a c ≤ 1000 + 450 * ((a : Int) + 1) := by
  have hlen := G.len
  refine y_callK h rfl ?_
  simp [d__law_later, startE]
  (try simp [forF, bindTg, setAll, getV, getO, getP, Ex.strict, strictAll, newE, Itr.strict])
  repeat (refine y_go ?_; simp [forF, bindTg, setAll, getV, getO, getP, Ex.strict, strictAll, newE, Itr.strict])
  refine y_mapLx (g := fun t => [prG t]) (fun x hx => ?_) ?_
  · obtain ⟨c, hc, rfl⟩ := List.mem_map.mp hx
    simp [lcF, bindTg, setAll, Tg.slots, wipeE, condT, getV, getP, Ex.strict, strictAll, cT, prG]
  rw [pairs_map]
  have hk : mergeT [] (cs.map fun c => ((.inr c.name : Key), cT c)) = knT cs := rfl
  (try simp [forF, bindTg, setAll, getV, getO, getP, Ex.strict, strictAll, newE, Itr.strict, pairs_cs, hk])
  repeat (refine y_go ?_; simp [forF, bindTg, setAll, getV, getO, getP, Ex.strict, strictAll, newE, Itr.strict, pairs_cs, hk])
  refine (law_leans_spec hl G _).mono fun t S1 ⟨e, eS⟩ => ?_
  subst e eS
  (try simp [forF, bindTg, setAll, getV, getO, getP, Ex.strict, strictAll, newE, Itr.strict])
  repeat (refine y_go ?_; simp [forF, bindTg, setAll, getV, getO, getP, Ex.strict, strictAll, newE, Itr.strict])
  refine y_forI (LaJ1 cs pn m n) ?_ ?_ ⟨[], .none, .none, .none, .none, .none, .none, .none, .none, .none, rfl, hb, rfl, by simp, by simp, by simp⟩
  · rintro a x ρ S2 hx ⟨R, s7, s8, s9, s10, s11, s12, s13, s14, s15, rfl, b2, hRl, hRe, hRp, hRb⟩
    obtain ⟨t, ht', rfl⟩ := enum_at hx
    obtain ⟨p, hp', rfl, hpm⟩ := plan_at ht'
    have ha : a < pn.length := (List.getElem?_eq_some_iff.mp hp').1
    have hpa : pn[a] = p := by
      rw [List.getElem?_eq_getElem ha] at hp'; cases hp'; rfl
    (try simp [forF, bindTg, setAll, getV, getO, getP, Ex.strict, strictAll, newE, Itr.strict])
    repeat (refine y_go ?_; simp [forF, bindTg, setAll, getV, getO, getP, Ex.strict, strictAll, newE, Itr.strict])
    refine ⟨okR_small (by omega) (by omega), ?_⟩
    refine y_forI (LaJ2 cs pn m n R a p) ?_ ?_ ⟨[], _, _, _, _, _, _, rfl, b2, rfl, by simp, by simp⟩
    · rintro c x ρ S3 hx ⟨w, s10, s11, s12, s13, s14, s15, rfl, b3, hw, hwp, hwb⟩
      obtain ⟨hc0, hx'⟩ := rng_at hx
      have hc : c < m + 1 := by omega
      subst hx'
      have eR : L2.atI (rowsT cs pn pn.length) (a : Int) = some (rowT (leanRow cs pn a)) := atI_nat (by simp [rowsT, ha])
      (try simp [forF, bindTg, setAll, getV, getO, getP, Ex.strict, strictAll, newE, Itr.strict, pT, eR, rowT])
      repeat (refine y_go ?_; simp [forF, bindTg, setAll, getV, getO, getP, Ex.strict, strictAll, newE, Itr.strict, pT, eR, rowT])
      refine y_forI (LaJ3 cs pn m n R a p c w S3) ?_ ?_ ⟨_, _, _, _, rfl, rfl⟩
      · rintro b x ρ S4 hx ⟨s12, s13, s14, s15, rfl, rfl⟩
        rw [List.getElem?_map, Option.map_eq_some_iff] at hx
        obtain ⟨j, hj, rfl⟩ := hx
        have hja : j < a := lean_lt (List.mem_of_getElem? hj)
        have hjR : j < R.length := by omega
        have hjp : j < pn.length := by omega
        obtain ⟨cc, hcc, ec, u, lo⟩ := G.ul (List.getElem_mem hjp)
        have hjl : R[j].length = m + 1 := hRe _ (List.getElem_mem hjR)
        have e1 : L2.atI (R.map rI) (j : Int) = some (rI R[j]) := papT_at hjR
        have e2 : L2.atI (intsL R[j]) (c : Int) = some (.int (getR R j c)) := by rw [ints_at (by omega), getR_eq hjR]
        have e3 : L2.atI (pn.map pT) (j : Int) = some (pT pn[j]) := atI_nat (by simp [hjp])
        have stp : ((leanRow cs pn a).take (b + 1)).foldl (lstF cs pn R c) p.start = lstF cs pn R c (((leanRow cs pn a).take b).foldl (lstF cs pn R c) p.start) j := by
          rw [List.take_add_one, hj]; simp [List.foldl_append]
        (try simp [forF, bindTg, setAll, getV, getO, getP, Ex.strict, strictAll, newE, Itr.strict, e1, rI, e2, e3, pT, ec, cT])
        repeat (refine y_go ?_; simp [forF, bindTg, setAll, getV, getO, getP, Ex.strict, strictAll, newE, Itr.strict, e1, rI, e2, e3, pT, ec, cT])
        by_cases h0 : 0 < c
        · have e4 : L2.atI (intsL R[j]) ((c : Int) - 1) = some (.int (getR R j (c - 1))) := by
            have e : ((c : Int) - 1) = ((c - 1 : Nat) : Int) := by omega
            rw [e, ints_at (by omega), getR_eq hjR]
          refine .inr ⟨h0, ?_⟩
          simp [e4]
          refine ⟨.val (.int (j : Int)), .val (.int cc.usual), .val (.int cc.longest), s15, ?_, rfl⟩
          rw [stp]
          simp [lstF, h0, mx, nm_get hjp, u, lo, pT]
        · refine .inl ⟨by omega, .val (.int (j : Int)), .val (.int cc.usual), .val (.int cc.longest), s15, ?_, rfl⟩
          rw [stp]
          simp [lstF, h0, mx, nm_get hjp, u, lo, pT]
      · rintro ρ S4 ⟨s12, s13, s14, s15, rfl, rfl⟩
        have tk : (leanRow cs pn a).take (leanRow cs pn a).length = leanRow cs pn a := List.take_of_length_le (Nat.le_refl _)
        simp only [List.length_map, tk]
        (try simp [forF, bindTg, setAll, getV, getO, getP, Ex.strict, strictAll, newE, Itr.strict])
        repeat (refine y_go ?_; simp [forF, bindTg, setAll, getV, getO, getP, Ex.strict, strictAll, newE, Itr.strict])
        refine (take_spec ht _ b3 (by decide) (by decide)).mono fun t S5 ⟨b5, v, e, v0, v1⟩ => ?_
        subst e
        refine (take_spec ht _ b5 (by decide) (by decide)).mono fun t S6 ⟨b6, j, e, j0, j1⟩ => ?_
        subst e
        obtain ⟨z0, ea, hz⟩ := atI_of (l := [T.int 0, .int 0, .int v]) j0 (by simpa using j1)
        have hz' : ∃ z : Int, z0 = .int z ∧ 0 ≤ z ∧ z ≤ 50 := by
          simp only [List.mem_cons, List.not_mem_nil, or_false] at hz
          rcases hz with rfl | rfl | rfl
          · exact ⟨_, rfl, by omega, by omega⟩
          · exact ⟨_, rfl, by omega, by omega⟩
          · exact ⟨_, rfl, v0, by omega⟩
        obtain ⟨z, rfl, hz0, hz1⟩ := hz'
        have hF0 : p.start ≤ (leanRow cs pn a).foldl (lstF cs pn R c) p.start := lst_init
        have hF1 : (leanRow cs pn a).foldl (lstF cs pn R c) p.start ≤ 1000 + 450 * (a : Int) + 400 := lst_le hu hlo (fun q hq => by
          have hqa := lean_lt hq
          have h1 := (hRb q (by omega) c (by omega)).2
          have h2 := (hRb q (by omega) (c - 1) (by omega)).2
          exact ⟨by omega, by omega, by omega⟩) (by have := (hst p hpm).2; omega)
        have hs0 := (hst p hpm).1
        simp [ea]
        refine ⟨Nat.lt_of_le_of_lt (show (intsL w).length ≤ 1000 by simp [intsL, hw]; omega) (by decide), w ++ [(leanRow cs pn a).foldl (lstF cs pn R c) p.start + z], _, _, _, _, _, _, by simp [intsL]; exact ⟨rfl, rfl, rfl, rfl, rfl, rfl⟩, b6, by simp [hw], fun d hd => ?_, fun d hd => ?_⟩
        · rcases Nat.lt_or_ge d c with h' | h'
          · rw [List.getD_eq_getElem?_getD, List.getElem?_append_left (by omega), ← List.getD_eq_getElem?_getD]; exact hwp d h'
          · have : d = c := by omega
            subst this
            rw [List.getD_eq_getElem?_getD, List.getElem?_append_right (by omega), hw]
            simp
            have := least_lst (cs := cs) (R := R) (c := d) ha
            rw [hpa] at this
            omega
        · rcases Nat.lt_or_ge d c with h' | h'
          · rw [List.getD_eq_getElem?_getD, List.getElem?_append_left (by omega), ← List.getD_eq_getElem?_getD]; exact hwb d h'
          · have : d = c := by omega
            subst this
            rw [List.getD_eq_getElem?_getD, List.getElem?_append_right (by omega), hw]
            simp
            omega
    · rintro ρ S3 ⟨w, s10, s11, s12, s13, s14, s15, rfl, b3, hw, hwp, hwb⟩
      rw [rng_len] at hw hwp hwb
      have hw' : w.length = m + 1 := by omega
      (try simp [forF, bindTg, setAll, getV, getO, getP, Ex.strict, strictAll, newE, Itr.strict])
      repeat (refine y_go ?_; simp [forF, bindTg, setAll, getV, getO, getP, Ex.strict, strictAll, newE, Itr.strict])
      refine ⟨Nat.lt_of_le_of_lt (show R.length ≤ 1000 by omega) (by decide), R ++ [w], _, _, _, _, _, _, _, _, _, by simp [rI]; exact ⟨rfl, rfl, rfl, rfl, rfl, rfl, rfl, rfl, rfl⟩, b3, by simp [hRl], fun r hr => ?_, fun b hb c hc => ?_, fun b hb c hc => ?_⟩
      · rcases List.mem_append.mp hr with h | h
        · exact hRe r h
        · rw [List.mem_singleton.mp h]; exact hw'
      · rcases Nat.lt_or_ge b a with h' | h'
        · rw [leastM_app (by omega), getR_app (by omega)]; exact hRp b h' c hc
        · have : b = R.length := by omega
          subst this
          rw [leastM_app (Nat.le_refl _), getR_last, hRl]
          exact hwp c (by omega)
      · rcases Nat.lt_or_ge b a with h' | h'
        · rw [getR_app (by omega)]; exact hRb b h' c hc
        · have : b = R.length := by omega
          subst this
          rw [getR_last, hRl]
          exact hwb c (by omega)
  · rintro ρ S2 ⟨R, s7, s8, s9, s10, s11, s12, s13, s14, s15, rfl, b2, hRl, hRe, hRp, hRb⟩
    (try simp [forF, bindTg, setAll, getV, getO, getP, Ex.strict, strictAll, newE, Itr.strict])
    repeat (refine y_go ?_; simp [forF, bindTg, setAll, getV, getO, getP, Ex.strict, strictAll, newE, Itr.strict])
    rw [enumT_len, List.length_map] at hRl hRp hRb
    refine ⟨b2, R, rfl, ⟨hRl, hRe⟩, ?_, hRb⟩
    unfold paperB
    rw [List.all_eq_true]
    intro a ha
    rw [List.all_eq_true]
    intro c hc
    rw [decide_eq_true_eq]
    exact hRp a (List.mem_range.mp ha) c (List.mem_range.mp hc)
end
end RD

namespace RD
open PySem
section
variable {cs : List Cs} {pn : List Pn} {m : Nat} {ms : List Int}
theorem is_dayT (hms : ms.length = pn.length) : (wdOf cs pn).IsDayT (fun i => ms.getD i 0) (frB (told cs pn ms pn.length)) (endAt (told cs pn ms pn.length)) := by
  intro i hi
  have hi : i < pn.length := hi
  have hm : ms[i]? = some (ms[i]'(by omega)) := List.getElem?_eq_getElem (by omega)
  have hr := row_eq (cs := cs) (List.getElem?_eq_getElem hi) hm
  have hB : frB (told cs pn ms pn.length) i = ((leanRow cs pn i).map (endAt (told cs pn ms pn.length))).foldl mx pn[i].start := by
    rw [told_beg hi, hr]
    simp only [begAt]
    congr 1
    refine List.map_congr_left fun j hj => ?_
    have hji := lean_lt hj
    rw [told_end hji, told_end (n := pn.length) (by omega)]
  refine ⟨?_, ?_⟩
  · rw [hB]; simp [wdOf, hi]
  · rw [told_end hi, told_beg hi, hr]; simp [hm]
theorem day_in (V : Vals cs pn) {f : Nat → Bool} (hms : ms.length = pn.length) (hf : cnt f pn.length ≤ m) (hb : ∀ j (h : j < ms.length), 1 ≤ ms[j] ∧ ms[j] ≤ if f j = true then loOf cs (nmAt pn j) else usOf cs (nmAt pn j)) {i : Nat} (hi : i < pn.length) :
    (frB (told cs pn ms pn.length) i ≤ tbB cs pn m i m ∧ endAt (told cs pn ms pn.length) i ≤ tbE cs pn m i m) ∧ ∀ R : Nat → Nat → Int, (wdOf cs pn).IsPaper m R → frB (told cs pn ms pn.length) i ≤ R i m := by
  obtain ⟨TB, TE, HT, hT⟩ := is_tab_ext V
  have O := wd_ok V
  have HD := is_day (cs := cs) (pn := pn) f
  have h2 : (wdOf cs pn).IsDayT (fun i => if f i = true then (wdOf cs pn).l i else (wdOf cs pn).u i) (dayB cs pn f) (dayE cs pn f) := HD
  have le := day_le O (fun j hj => by
    have hj : j < ms.length := by rw [hms]; exact hj
    have := (hb j hj).2
    simp only [List.getD_eq_getElem?_getD, List.getElem?_eq_getElem hj, Option.getD_some]
    exact this) (is_dayT hms) h2 i hi
  have c1 : cnt f i ≤ m := Nat.le_trans (cnt_mono (Nat.le_of_lt hi)) hf
  have c2 : cnt f (i + 1) ≤ m := Nat.le_trans (cnt_mono hi) hf
  have up := tab_upper O HT HD i hi m
  refine ⟨⟨Int.le_trans le.1 ?_, Int.le_trans le.2 ?_⟩, fun R hR => Int.le_trans le.1 (paper_day O hR HD i hi m (Nat.le_refl _) c1)⟩
  · rw [← (hT i hi m).1]; exact up.1 c1
  · rw [← (hT i hi m).2]; exact up.2 c2
theorem least_has {R : List (List Int)} {s : Int} {c : Nat} : ∀ {ps : List Nat}, s ∈ leastL cs pn R s c ps ∧ ∀ p ∈ ps, getR R p c + usOf cs (nmAt pn p) ∈ leastL cs pn R s c ps ∧ (0 < c → getR R p (c - 1) + loOf cs (nmAt pn p) ∈ leastL cs pn R s c ps)
  | [] => ⟨by simp [leastL], by simp⟩
  | q :: ps => by
    obtain ⟨h1, h2⟩ := least_has (R := R) (s := s) (c := c) (ps := ps)
    rw [leastL]
    refine ⟨List.mem_append_left _ h1, fun p hp => ?_⟩
    rcases List.mem_cons.mp hp with rfl | hp
    · exact ⟨List.mem_append_right _ (by simp), fun h0 => List.mem_append_right _ (by simp [h0])⟩
    · exact ⟨List.mem_append_left _ (h2 p hp).1, fun h0 => List.mem_append_left _ ((h2 p hp).2 h0)⟩
theorem paper_isP {R : List (List Int)} (h : paperB cs pn m R = true) : (wdOf cs pn).IsPaper m (getR R) := by
  have key : ∀ i < pn.length, ∀ c ≤ m, ∀ y ∈ leastL cs pn R (((pn[i]?).map (·.start)).getD 0) c (leanRow cs pn i).reverse, y ≤ getR R i c := fun i hi c hc y hy => by
    unfold paperB at h
    have h1 := List.all_eq_true.mp h i (List.mem_range.mpr hi)
    have h2 := of_decide_eq_true (List.all_eq_true.mp h1 c (List.mem_range.mpr (by omega)))
    refine Int.le_trans ?_ h2
    obtain ⟨x, xs, e⟩ := least_ne cs pn R (((pn[i]?).map (·.start)).getD 0) c (leanRow cs pn i).reverse
    have hv : ∃ v, maxI (leastL cs pn R (((pn[i]?).map (·.start)).getD 0) c (leanRow cs pn i).reverse) = some v := by rw [e]; exact ⟨_, rfl⟩
    obtain ⟨v, hv⟩ := hv
    unfold leastM
    rw [hv]
    exact (maxI_spec hv).2.2 y hy
  refine ⟨fun i hi c hc => key i hi c hc _ least_has.1, fun i hi c hc j hj => ?_, fun i hi c hc h0 j hj => ?_⟩
  · exact key i hi c hc _ (least_has.2 j (List.mem_reverse.mpr hj)).1
  · exact key i hi c hc _ ((least_has.2 j (List.mem_reverse.mpr hj)).2 h0)
theorem told_fr {j : Nat} (hms : ms.length = pn.length) (hj : j < pn.length) : ∃ f : Fr, (told cs pn ms pn.length)[j]? = some f ∧ f.name = pn[j].name ∧ f.b = frB (told cs pn ms pn.length) j ∧ f.e = endAt (told cs pn ms pn.length) j := by
  have hm : ms[j]? = some (ms[j]'(by omega)) := List.getElem?_eq_getElem (by omega)
  refine ⟨_, told_get hj, ?_, (told_beg hj).symm, (told_end hj).symm⟩
  rw [row_eq (List.getElem?_eq_getElem hj) hm]
end
theorem merge_nodup : ∀ {L acc : List (Key × T)}, ((acc ++ L).map (·.1)).Nodup → mergeT acc L = acc ++ L
  | [], acc, _ => by simp [mergeT]
  | (k, v) :: L, acc, h => by
    have hk : ¬ (acc.any fun kv => decide (kv.1 = k)) = true := by
      intro z
      obtain ⟨x, hx, e⟩ := List.any_eq_true.mp z
      have e := of_decide_eq_true e
      simp only [List.map_append, List.map_cons] at h
      have := (List.nodup_append.mp h).2.2 x.1 (List.mem_map.mpr ⟨x, hx, rfl⟩) k (by simp)
      exact this e
    have e : putT acc k v = acc ++ [(k, v)] := by unfold putT; rw [if_neg hk]
    have : mergeT acc ((k, v) :: L) = mergeT (putT acc k v) L := rfl
    rw [this, e, merge_nodup (by simpa using h)]; simp
theorem valT_nodup {k : Key} {v : T} : ∀ {L : List (Key × T)}, (L.map (·.1)).Nodup → (k, v) ∈ L → valT L k = some v
  | (j, u) :: L, h, hm => by
    unfold valT
    rcases List.mem_cons.mp hm with e | hm
    · cases e; simp
    · have hj : j ≠ k := fun e => by
        simp only [List.map_cons, List.nodup_cons] at h
        exact h.1 (List.mem_map.mpr ⟨_, hm, e.symm⟩)
      have := valT_nodup (List.nodup_cons.mp (by simpa using h)).2 hm
      unfold valT at this
      rw [List.find?_cons, decide_eq_false hj]; exact this
theorem ltS_irr {l : List Str} (h : l.Pairwise ltS) : l.Nodup := h.imp fun {a b} h e => by subst e; exact List.lt_irrefl _ h
def hrD (hs : List Hr) : List (Key × T) := hs.map fun h => ((.inr h.who : Key), .int h.mn)
theorem pairs_hr (hs : List Hr) : pairsT (hs.map hrT) = some (hrD hs) := by
  induction hs with
  | nil => rfl
  | cons h hs ih => simp only [List.map_cons, pairsT, hrT, keyT, hrD] at ih ⊢; rw [ih]
theorem late_at {cs : List Cs} {fr : List Fr} {hs : List Hr} (nd : (hs.map (·.who)).Nodup) {h : Hr} (hh : h ∈ hs) : valT (mergeT [] (hrD (hs.map (ovR cs fr)))) (.inr h.who) = some (.int (ovM cs fr h.who h.mn)) := by
  have e : (hrD (hs.map (ovR cs fr))).map (·.1) = (hs.map (·.who)).map fun z => (.inr z : Key) := by simp [hrD, ovR]
  have nd2 : ((hrD (hs.map (ovR cs fr))).map (·.1)).Nodup := by
    rw [e]
    exact nd.map (fun z => (.inr z : Key)) fun a b h e => h (by cases e; rfl)
  rw [merge_nodup (by simpa using nd2)]
  refine valT_nodup (by simpa using nd2) ?_
  simp only [List.nil_append]
  exact List.mem_map.mpr ⟨ovR cs fr h, List.mem_map.mpr ⟨h, hh, rfl⟩, rfl⟩
theorem ov_ge {cs : List Cs} {fr : List Fr} {x : Str} {mn : Int} {f : Fr} (hf : f ∈ fr) (hw : hasW cs x f = true) : f.e ≤ mn + ovM cs fr x mn := by
  have hv := maxI_app (ovL cs fr x mn)
  have := (maxI_spec hv).2.2 (f.e - mn) (List.mem_append_left _ (List.mem_map.mpr ⟨f, List.mem_filter.mpr ⟨hf, hw⟩, rfl⟩))
  have e : (maxI (ovL cs fr x mn ++ [0])).getD 0 = ovM cs fr x mn := rfl
  rw [e] at this
  omega
section
variable {cst : Str → Option T} {fuel : Nat} {ds : List Dn} {S : Store}
structure Has27 (ds : List Dn) : Prop where
  latest : Has ds d_latest
  beyond : Has ds d_beyond
  told : Has ds d_told_day
  worst : Has ds d_worst_day
  mixed : Has ds d__law_mixed
  within : Has ds d__law_within_day
  later : Has ds d__law_later
  lleans : Has ds d__law_leans
  law : Has ds d_law_k27
def Law27J (ns : List Int) (i : Nat) (ρ : Env) (S : Store) : Prop := ∃ s1 s2 s3 s4 s5 s6 s7 s8 s9 s10 s11 s12 s13 s14 s15 s16 s17 s18 s19, ρ = [.val (.scr ns), s1, s2, s3, s4, s5, s6, s7, s8, s9, s10, s11, s12, s13, s14, s15, s16, s17, s18, s19]
def T27 (ns : List Int) (n : Nat) (h : T) (cs : List Cs) (pn : List Pn) (m : Nat) (R : List (List Int)) (hs : List Hr) (s1 s12 s13 s14 s15 s16 s17 s18 s19 : Slot) : Env := [.val (.scr ns), s1, .val (.ref n), .val h, .val (.tup (cs.map cT)), .val (.tup (pn.map pT)), .val (.int (m : Int)), .val (.dct (knT cs)), .val (.lst ((latM cs pn m).map fT)), .val (.lst [papT (paperM cs pn m), papT R]), .val (.tup (hs.map hrT)), .val (.dct (mergeT [] (hrD (hs.map (ovR cs (latM cs pn m)))))), s12, s13, s14, s15, s16, s17, s18, s19]
def Turn27J (ns : List Int) (n : Nat) (h : T) (cs : List Cs) (pn : List Pn) (m : Nat) (R : List (List Int)) (hs : List Hr) (i : Nat) (ρ : Env) (S : Store) : Prop := ∃ s1 s12 s13 s14 s15 s16 s17 s18 s19, ρ = T27 ns n h cs pn m R hs s1 s12 s13 s14 s15 s16 s17 s18 s19 ∧ BagAt S n
def Row27J (ns : List Int) (n : Nat) (h : T) (cs : List Cs) (pn : List Pn) (m : Nat) (R : List (List Int)) (hs : List Hr) (s1 s12 : Slot) (D : List Fr) (i : Nat) (ρ : Env) (S : Store) : Prop := ∃ s14 s15 s16 s17 s18 s19, ρ = T27 ns n h cs pn m R hs s1 s12 (.val (.lst (D.map fT))) s14 s15 s16 s17 s18 s19 ∧ BagAt S n
def Who27J (ns : List Int) (n : Nat) (h : T) (cs : List Cs) (pn : List Pn) (m : Nat) (R : List (List Int)) (hs : List Hr) (s1 s12 s13 s14 : Slot) (f : Fr) (i : Nat) (ρ : Env) (S : Store) : Prop := ∃ s16 s17 s18 s19, ρ = T27 ns n h cs pn m R hs s1 s12 s13 s14 (.val (fT f)) s16 s17 s18 s19 ∧ BagAt S n
set_option maxHeartbeats 8000000 in
theorem law27_spec (H1 : HasD ds) (H2 : HasT ds) (H4 : HasP ds) (H : Has27 ds) (hfu : 20 ≤ fuel) (k : Nat) (ns : List Int) (hns : ns.length ≤ 63) : Y (callK cst fuel ds (k + 9) "law" [.scr ns] S) fun t _ => t = .bl true := by
  refine y_callK H.law rfl ?_
  simp [d_law_k27, startE]
  (try simp [forF, bindTg, setAll, getV, getO, getP, Ex.strict, strictAll, newE, Itr.strict])
  repeat (refine y_go ?_; simp [forF, bindTg, setAll, getV, getO, getP, Ex.strict, strictAll, newE, Itr.strict])
  refine ⟨okR_small (by omega) (by omega), ?_⟩
  refine y_forI (Law27J ns) ?_ ?_ ⟨_, _, _, _, _, _, _, _, _, _, _, _, _, _, _, _, _, _, _, rfl⟩
  · rintro i x ρ S1 hx ⟨s1, s2, s3, s4, s5, s6, s7, s8, s9, s10, s11, s12, s13, s14, s15, s16, s17, s18, s19, rfl⟩
    obtain ⟨b, hb, rfl⟩ := mem_rng (List.mem_of_getElem? hx)
    (try simp [forF, bindTg, setAll, getV, getO, getP, Ex.strict, strictAll, newE, Itr.strict])
    repeat (refine y_go ?_; simp [forF, bindTg, setAll, getV, getO, getP, Ex.strict, strictAll, newE, Itr.strict])
    refine (bag_spec H1.draws.bag _ (by omega) (by omega)).mono fun t S2 ⟨n, e, b2⟩ => ?_
    subst e
    (try simp [forF, bindTg, setAll, getV, getO, getP, Ex.strict, strictAll, newE, Itr.strict])
    repeat (refine y_go ?_; simp [forF, bindTg, setAll, getV, getO, getP, Ex.strict, strictAll, newE, Itr.strict])
    refine (drawn_spec H1.draws H1.plan H1.drawn _ b2 (by decide) (by decide)).mono fun t S3 ⟨b3, r, ps, cs, pn, e, r1, r4, p5, hps, hcs, c8, hpn, p8, hnm, hnd, hp5, hpr⟩ => ?_
    subst e
    have G : Good cs pn := goodP_of hps hcs hpn (by omega)
    have V : Vals cs pn := vals_of hcs hpn
    have hlo : ∀ p ∈ pn, loOf cs p.name ≤ 400 := fun p hp => by
      obtain ⟨c, hc, e, _⟩ := hpn p hp
      obtain ⟨d, hd, _, e2⟩ := look_some ⟨c, hc, e⟩
      have := (hcs d hd).l1
      simpa [loOf, e2] using this
    have hst : ∀ p ∈ pn, 0 ≤ p.start ∧ p.start ≤ 1000 := fun p hp => ⟨V.s0 p hp, by obtain ⟨c, _, _, _, _, h⟩ := hpn p hp; exact h⟩
    have hus : ∀ p ∈ pn, usOf cs p.name ≤ 400 := fun p hp => Int.le_trans (V.ul p hp) (hlo p hp)
    (try simp [forF, bindTg, setAll, getV, getO, getP, Ex.strict, strictAll, newE, Itr.strict])
    repeat (refine y_go ?_; simp [forF, bindTg, setAll, getV, getO, getP, Ex.strict, strictAll, newE, Itr.strict])
    refine (take_spec H1.draws.take _ b3 (by decide) (by decide)).mono fun t S7 ⟨b7, i3, e, i30, i31⟩ => ?_
    subst e
    obtain ⟨m, rfl⟩ := Int.eq_ofNat_of_zero_le i30
    (try simp [forF, bindTg, setAll, getV, getO, getP, Ex.strict, strictAll, newE, Itr.strict])
    repeat (refine y_go ?_; simp [forF, bindTg, setAll, getV, getO, getP, Ex.strict, strictAll, newE, Itr.strict])
    refine y_mapLx (g := fun t => [prG t]) (fun x hx => ?_) ?_
    · obtain ⟨c, hc, rfl⟩ := List.mem_map.mp hx
      simp [lcF, bindTg, setAll, Tg.slots, wipeE, condT, getV, getP, Ex.strict, strictAll, cT, prG]
    rw [pairs_map]
    have hk : mergeT [] (cs.map fun c => ((.inr c.name : Key), cT c)) = knT cs := rfl
    (try simp [forF, bindTg, setAll, getV, getO, getP, Ex.strict, strictAll, newE, Itr.strict, pairs_cs, hk])
    repeat (refine y_go ?_; simp [forF, bindTg, setAll, getV, getO, getP, Ex.strict, strictAll, newE, Itr.strict, pairs_cs, hk])
    refine (latest_spec (m := m) H.latest H2.table H2.leans H2.by_name H2.meet H2.ends G (by omega) _).mono fun t S8 ⟨e, eS⟩ => ?_
    subst e eS
    (try simp [forF, bindTg, setAll, getV, getO, getP, Ex.strict, strictAll, newE, Itr.strict])
    repeat (refine y_go ?_; simp [forF, bindTg, setAll, getV, getO, getP, Ex.strict, strictAll, newE, Itr.strict])
    refine (paper_spec (m := m) H4.paper H2 G (by omega) _).mono fun t S8 ⟨e, eS⟩ => ?_
    subst e eS
    (try simp [forF, bindTg, setAll, getV, getO, getP, Ex.strict, strictAll, newE, Itr.strict])
    repeat (refine y_go ?_; simp [forF, bindTg, setAll, getV, getO, getP, Ex.strict, strictAll, newE, Itr.strict])
    refine (later_spec (m := m) H1.draws.take H.lleans H.later G hst hus hlo (by omega) _ b7).mono fun t S9 ⟨b9, R, e, hR1, hR2, _⟩ => ?_
    subst e
    (try simp [forF, bindTg, setAll, getV, getO, getP, Ex.strict, strictAll, newE, Itr.strict, hT])
    repeat (refine y_go ?_; simp [forF, bindTg, setAll, getV, getO, getP, Ex.strict, strictAll, newE, Itr.strict, hT])
    refine y_mapL1 (I := fun S => BagAt S n) (R := fun x y => ∃ z v, x = .str z ∧ y = hrT ⟨z, v⟩) (fun x hx S11 b11 => ?_) b9 fun q S12 b12 hr => ?_
    · obtain ⟨z, hz, rfl⟩ := mem_strsL.mp hx
      simp [lcF, bindTg, setAll, Tg.slots, wipeE, condT, getV, getP, Ex.strict, strictAll]
      refine (take_spec H1.draws.take _ b11 (by decide) (by decide)).mono fun t S13 ⟨b13, v, e, v0, v1⟩ => ?_
      subst e
      exact ⟨b13, v, rfl⟩
    · have hq : ∃ hs : List Hr, q = hs.map hrT ∧ hs.map (·.who) = ps := by
        have key : ∀ {l m : List T}, All2 (fun x y => ∃ z v, x = T.str z ∧ y = hrT ⟨z, v⟩) l m → ∀ zs : List Str, l = strsL zs → ∃ hs : List Hr, m = hs.map hrT ∧ hs.map (·.who) = zs := by
          intro l m h
          induction h with
          | nil =>
            intro zs e
            cases zs with
            | nil => exact ⟨[], rfl, rfl⟩
            | cons _ _ => cases e
          | @cons a b l m h _ ih =>
            intro zs e
            cases zs with
            | nil => cases e
            | cons z zs =>
              simp only [strsL, List.map_cons, List.cons.injEq] at e
              obtain ⟨z', v, e1, rfl⟩ := h
              rw [e.1] at e1
              cases e1
              obtain ⟨hs, rfl, e2⟩ := ih zs e.2
              exact ⟨⟨z, v⟩ :: hs, rfl, by simp [e2]⟩
        exact key hr ps rfl
      obtain ⟨hs, rfl, hwho⟩ := hq
      have hwpl : ∀ h ∈ hs, pl (.str h.who) = true := fun h hh => hps _ (by rw [← hwho]; exact List.mem_map.mpr ⟨h, hh, rfl⟩)
      have hwnd : (hs.map (·.who)).Nodup := by rw [hwho]; exact ltS_irr hpr
      have hsl : hs.length ≤ 5 := by have := congrArg List.length hwho; simp at this; omega
      (try simp [forF, bindTg, setAll, getV, getO, getP, Ex.strict, strictAll, newE, Itr.strict])
      repeat (refine y_go ?_; simp [forF, bindTg, setAll, getV, getO, getP, Ex.strict, strictAll, newE, Itr.strict])
      refine (beyond_spec (m := m) H.beyond H.latest H2 G (by omega) (by omega) hwpl _).mono fun t S11 ⟨e, eS⟩ => ?_
      subst e eS
      have eph : pairsT (hs.map (hrT ∘ ovR cs (latM cs pn m))) = some (hrD (hs.map (ovR cs (latM cs pn m)))) := by rw [← List.map_map]; exact pairs_hr _
      (try simp [forF, bindTg, setAll, getV, getO, getP, Ex.strict, strictAll, newE, Itr.strict, eph])
      repeat (refine y_go ?_; simp [forF, bindTg, setAll, getV, getO, getP, Ex.strict, strictAll, newE, Itr.strict, eph])
      refine ⟨(okR_small (i := 8) (by decide) (by decide)).1, ?_⟩
      refine y_forI (Turn27J ns n (hT r ps) cs pn m R hs) ?_ ?_ ⟨_, _, _, _, _, _, _, _, _, rfl, b12⟩
      · rintro i2 x ρ S13 hx2 ⟨s1, s12, s13, s14, s15, s16, s17, s18, s19, rfl, b13⟩
        (try simp [forF, bindTg, setAll, getV, getO, getP, Ex.strict, strictAll, newE, Itr.strict, T27])
        repeat (refine y_go ?_; simp [forF, bindTg, setAll, getV, getO, getP, Ex.strict, strictAll, newE, Itr.strict, T27])
        refine (within_spec (m := m) H1.draws.take H.mixed H.within G V hlo _ b13).mono fun t S14 ⟨b14, ms, f, e, hms, hcf, hbd⟩ => ?_
        subst e
        refine (told_spec H.told H2.leans H2.by_name H2.meet G hms _).mono fun t S15 ⟨e, eS⟩ => ?_
        subst e eS
        (try simp [forF, bindTg, setAll, getV, getO, getP, Ex.strict, strictAll, newE, Itr.strict])
        repeat (refine y_go ?_; simp [forF, bindTg, setAll, getV, getO, getP, Ex.strict, strictAll, newE, Itr.strict])
        refine y_forI (Row27J ns n (hT r ps) cs pn m R hs s1 (.val x) (told cs pn ms pn.length)) ?_ ?_ ⟨_, _, _, _, _, _, rfl, b14⟩
        · rintro a x2 ρ S16 hx3 ⟨s14, s15, s16, s17, s18, s19, rfl, b16⟩
          obtain ⟨t, ht', rfl⟩ := enum_at hx3
          have ha : a < pn.length := by
            have := (List.getElem?_eq_some_iff.mp ht').1
            simpa [told_len] using this
          obtain ⟨f1, ef1, fn, fb, fe⟩ := told_fr (cs := cs) hms ha
          rw [List.getElem?_map, ef1] at ht'
          cases ht'
          obtain ⟨g, eg, gb, ge, gn⟩ := frs_b (cs := cs) (m := m) G ha
          have eg2 : L2.atI ((latM cs pn m).map fT) (a : Int) = some (fT g) := atI_nat (by rw [List.getElem?_map, eg]; rfl)
          obtain ⟨⟨d1, d2⟩, dR⟩ := day_in (m := m) V hms hcf hbd ha
          have eb : f1.b = frB (told cs pn ms pn.length) a := fb
          have dP : ∀ R' : List (List Int), paperB cs pn m R' = true → f1.b ≤ getR R' a m := fun R' h' => by rw [fb]; exact dR _ (paper_isP h')
          have eat : ∀ R' : List (List Int), PapOk pn m R' → ∃ row, L2.atI (R'.map rI) (a : Int) = some (rI row) ∧ L2.atI (intsL row) (m : Int) = some (.int (getR R' a m)) := fun R' O => by
            have haR : a < R'.length := by rw [O.len]; exact ha
            have hl := O.each _ (List.getElem_mem haR)
            exact ⟨_, papT_at haR, by rw [ints_at (by omega), getR_eq haR]⟩
          (try simp [forF, bindTg, setAll, getV, getO, getP, Ex.strict, strictAll, newE, Itr.strict, T27, eg2, fT])
          repeat (refine y_go ?_; simp [forF, bindTg, setAll, getV, getO, getP, Ex.strict, strictAll, newE, Itr.strict, T27, eg2, fT])
          refine ⟨by rw [fb, gb]; exact d1, by rw [fe, ge]; exact d2, ?_⟩
          (try simp [forF, bindTg, setAll, getV, getO, getP, Ex.strict, strictAll, newE, Itr.strict])
          repeat (refine y_go ?_; simp [forF, bindTg, setAll, getV, getO, getP, Ex.strict, strictAll, newE, Itr.strict])
          refine y_mapLx (g := fun _ => []) (fun x hx => ?_) ?_
          · have hx' : ∃ R', x = papT R' ∧ PapOk pn m R' ∧ paperB cs pn m R' = true := by
              simp only [List.mem_cons, List.not_mem_nil, or_false] at hx
              rcases hx with rfl | rfl
              · exact ⟨_, rfl, paper_ok G, paper_is G⟩
              · exact ⟨_, rfl, hR1, hR2⟩
            obtain ⟨R', rfl, O', B'⟩ := hx'
            obtain ⟨row, ea1, ea2⟩ := eat R' O'
            have := dP R' B'
            have hnl : ¬ getR R' a m < f1.b := by omega
            simp [lcF, bindTg, setAll, Tg.slots, wipeE, condT, getV, getP, Ex.strict, strictAll, papT, ea1, rI, ea2, hnl]
          simp only [List.flatMap_cons, List.flatMap_nil, List.append_nil]
          have enil : eqT (.lst []) (.lst []) = some true := rfl
          (try simp [forF, bindTg, setAll, getV, getO, getP, Ex.strict, strictAll, newE, Itr.strict, enil])
          repeat (refine y_go ?_; simp [forF, bindTg, setAll, getV, getO, getP, Ex.strict, strictAll, newE, Itr.strict, enil])
          refine y_forI (Who27J ns n (hT r ps) cs pn m R hs s1 (.val x) (.val (.lst ((told cs pn ms pn.length).map fT))) (.val (.int (a : Int))) f1) ?_ ?_ ⟨_, _, _, _, rfl, b16⟩
          · rintro i4 x4 ρ S17 hx4 ⟨s16, s17, s18, s19, rfl, b17⟩
            rw [List.getElem?_map, Option.map_eq_some_iff] at hx4
            obtain ⟨h, hh, rfl⟩ := hx4
            have hhm := List.mem_of_getElem? hh
            obtain ⟨c, ec1, ec2⟩ := in_team G (fr := [f1]) (fun f hf => by rw [List.mem_singleton.mp hf]; exact ⟨_, List.getElem_mem ha, fn⟩) (List.mem_singleton.mpr rfl) (hwpl h hhm)
            have elate := late_at (cs := cs) (fr := latM cs pn m) hwnd hhm
            have hwg : hasW cs h.who g = hasW cs h.who f1 := by unfold hasW; rw [gn, fn]
            rcases Bool.eq_false_or_eq_true (hasW cs h.who f1) with hB | hB
            · have h1 := ov_ge (mn := h.mn) (List.mem_of_getElem? eg) (by rw [hwg]; exact hB)
              have hnl : ¬ h.mn + ovM cs (latM cs pn m) h.who h.mn < f1.e := by
                rw [fe]; rw [ge] at h1; omega
              (try simp [forF, bindTg, setAll, getV, getO, getP, Ex.strict, strictAll, newE, Itr.strict, T27, fT, hrT, ec1, cT, ec2, hB, elate, hnl])
              repeat (refine y_go ?_; simp [forF, bindTg, setAll, getV, getO, getP, Ex.strict, strictAll, newE, Itr.strict, T27, fT, hrT, ec1, cT, ec2, hB, elate, hnl])
              exact ⟨_, _, _, _, rfl, b17⟩
            · have hB' := hB
              (try simp [forF, bindTg, setAll, getV, getO, getP, Ex.strict, strictAll, newE, Itr.strict, T27, fT, hrT, ec1, cT, ec2, hB])
              repeat (refine y_go ?_; simp [forF, bindTg, setAll, getV, getO, getP, Ex.strict, strictAll, newE, Itr.strict, T27, fT, hrT, ec1, cT, ec2, hB])
              exact ⟨_, _, _, _, rfl, b17⟩
          · rintro ρ S17 ⟨s16, s17, s18, s19, rfl, b17⟩
            exact ⟨_, _, _, _, _, _, rfl, b17⟩
        · rintro ρ S16 ⟨s14, s15, s16, s17, s18, s19, rfl, b16⟩
          exact ⟨_, _, _, _, _, _, _, _, _, rfl, b16⟩
      · rintro ρ S13 ⟨s1, s12, s13, s14, s15, s16, s17, s18, s19, rfl, b13⟩
        (try simp [forF, bindTg, setAll, getV, getO, getP, Ex.strict, strictAll, newE, Itr.strict, T27])
        repeat (refine y_go ?_; simp [forF, bindTg, setAll, getV, getO, getP, Ex.strict, strictAll, newE, Itr.strict, T27])
        refine y_mapLx (g := fun _ => []) (fun x hx => ?_) ?_
        · have hx' : ∃ R', x = papT R' ∧ PapOk pn m R' ∧ paperB cs pn m R' = true := by
            simp only [List.mem_cons, List.not_mem_nil, or_false] at hx
            rcases hx with rfl | rfl
            · exact ⟨_, rfl, paper_ok G, paper_is G⟩
            · exact ⟨_, rfl, hR1, hR2⟩
          obtain ⟨R', rfl, O', B'⟩ := hx'
          simp [lcF, bindTg, setAll, Tg.slots, wipeE, condT, getV, getP, Ex.strict, strictAll]
          refine (is_paper_spec H4.is_paper H4.numbers H4.whole H2.leans H2.by_name H2.meet G (m := m) (by omega) O' _).mono fun t S14 ⟨e, eS⟩ => ?_
          subst e eS
          simp [lcF, bindTg, setAll, Tg.slots, wipeE, condT, getV, getP, Ex.strict, strictAll, B']
        simp only [List.flatMap_cons, List.flatMap_nil, List.append_nil]
        have enil : eqT (.lst []) (.lst []) = some true := rfl
        (try simp [forF, bindTg, setAll, getV, getO, getP, Ex.strict, strictAll, newE, Itr.strict, enil])
        repeat (refine y_go ?_; simp [forF, bindTg, setAll, getV, getO, getP, Ex.strict, strictAll, newE, Itr.strict, enil])
        refine y_forI (Turn27J ns n (hT r ps) cs pn m R hs) ?_ ?_ ⟨_, _, _, _, _, _, _, _, _, rfl, b13⟩
        · rintro a x ρ S14 hx ⟨s1, s12, s13, s14, s15, s16, s17, s18, s19, rfl, b14⟩
          obtain ⟨t, ht', rfl⟩ := enum_at hx
          obtain ⟨p, hp', rfl, hpm⟩ := plan_at ht'
          have ha : a < pn.length := (List.getElem?_eq_some_iff.mp hp').1
          have hpa : pn[a] = p := by
            rw [List.getElem?_eq_getElem ha] at hp'; cases hp'; rfl
          (try simp [forF, bindTg, setAll, getV, getO, getP, Ex.strict, strictAll, newE, Itr.strict, T27, pT])
          repeat (refine y_go ?_; simp [forF, bindTg, setAll, getV, getO, getP, Ex.strict, strictAll, newE, Itr.strict, T27, pT])
          refine (Eq.subst (motive := fun p => Y (callK cst fuel ds (k + 8) "worst_day" [.tup (cs.map cT), .tup (pn.map pT), .int (m : Int), .str p.name] S14) fun t S' => S' = S14 ∧ ∃ F, t = .tup (intsL (timesF cs pn F)) ∧ cnt F pn.length ≤ m ∧ dayE cs pn F a = tbE cs pn m a m) hpa (worst_day_spec H.worst H2 G V hnd ha (by omega) (by omega) _)).mono fun t S15 ⟨eS, F, e, hF1, hF2⟩ => ?_
          subst eS e
          refine (told_spec H.told H2.leans H2.by_name H2.meet G (by simp [timesF]) _).mono fun t S16 ⟨e, eS⟩ => ?_
          subst e eS
          obtain ⟨f1, ef1, fn, fb, fe⟩ := told_fr (cs := cs) (ms := timesF cs pn F) (by simp [timesF]) ha
          obtain ⟨g, eg, gb, ge, gn⟩ := frs_b (cs := cs) (m := m) G ha
          have eg2 : L2.atI ((latM cs pn m).map fT) (a : Int) = some (fT g) := atI_nat (by rw [List.getElem?_map, eg]; rfl)
          have ef2 : L2.atI ((told cs pn (timesF cs pn F) pn.length).map fT) (a : Int) = some (fT f1) := atI_nat (by rw [List.getElem?_map, ef1]; rfl)
          have eend : f1.e = g.e := by rw [fe, ge]; exact hF2
          (try simp [forF, bindTg, setAll, getV, getO, getP, Ex.strict, strictAll, newE, Itr.strict, ef2, eg2, fT, eqT_int, eend])
          repeat (refine y_go ?_; simp [forF, bindTg, setAll, getV, getO, getP, Ex.strict, strictAll, newE, Itr.strict, ef2, eg2, fT, eqT_int, eend])
          exact ⟨_, _, _, _, _, _, _, _, _, rfl, b14⟩
        · rintro ρ S14 ⟨s1, s12, s13, s14, s15, s16, s17, s18, s19, rfl, b14⟩
          exact ⟨_, _, _, _, _, _, _, _, _, _, _, _, _, _, _, _, _, _, _, rfl⟩
  · rintro ρ S1 ⟨s1, s2, s3, s4, s5, s6, s7, s8, s9, s10, s11, s12, s13, s14, s15, s16, s17, s18, s19, rfl⟩
    (try simp [forF, bindTg, setAll, getV, getO, getP, Ex.strict, strictAll, newE, Itr.strict])
    repeat (refine y_go ?_; simp [forF, bindTg, setAll, getV, getO, getP, Ex.strict, strictAll, newE, Itr.strict])
end
end RD

namespace RD
open PySem
def lettersS : Str := "abcdefghijklmnopqrstuvwxyz"
def lowB (t : T) : Bool := (inT t (.str lettersS)).getD false
def nameB (z : Str) : Bool := decide (1 ≤ z.length) && decide (z.length ≤ 8) && z.cps.toList.all fun c => lowB (.str ⟨#[c]⟩)
def lowG (t : T) : T := .bl (lowB t)
def withinB (lo hi : Int) : T → Bool
  | .int v => decide (lo ≤ v) && decide (v ≤ hi)
  | _ => false
theorem cut_tail {l : List T} : cutT l (some 1) none = l.drop 1 := by
  unfold cutT
  have e1 : HT.sIx l.length 0 (some 1) = min 1 l.length := HT.sIx_nat _ _ 1
  rw [e1, HT.sIx_none]
  cases l with
  | nil => rfl
  | cons a l =>
    have : min 1 (a :: l).length = 1 := by simp
    rw [this]
    exact List.take_of_length_le (by simp)
theorem zip2_mem {x : T} : ∀ {l m : List T}, x ∈ zip2T l m → ∃ (i : Nat) (a b : T), l[i]? = some a ∧ m[i]? = some b ∧ x = .tup [a, b]
  | [], m, h => by simp [zip2T] at h
  | a :: l, [], h => by simp [zip2T] at h
  | a :: l, b :: m, h => by
    rcases List.mem_cons.mp h with rfl | h
    · exact ⟨0, a, b, rfl, rfl, rfl⟩
    · obtain ⟨i, c, d, h1, h2, h3⟩ := zip2_mem h
      exact ⟨i + 1, c, d, by simpa using h1, by simpa using h2, h3⟩
theorem bls_true : ∀ (l : List T), blsT (l.flatMap fun _ => [T.bl true]) = some (l.map fun _ => true)
  | [] => rfl
  | a :: l => by simp [blsT, bls_true l]
theorem bls_map (f : T → Bool) : ∀ (l : List T), blsT (l.flatMap fun t => [T.bl (f t)]) = some (l.map f)
  | [] => rfl
  | a :: l => by simp [blsT, bls_map f l]
section
variable {cst : Str → Option T} {fuel : Nat} {ds : List Dn} {S : Store} {cs : List Cs} {pn : List Pn} {m : Nat}
theorem within_ok (hw : Has ds d_is_whole) (h : Has ds d_is_within) (k : Nat) {t : T} {lo hi : Int} (hp : plain t = true) : Y (callK cst fuel ds (k + 2) "is_within" [t, .int lo, .int hi] S) fun r S' => r = .bl (withinB lo hi t) ∧ S' = S := by
  refine y_callK h rfl ?_
  simp [d_is_within, startE]
  (try simp [forF, bindTg, setAll, getV, getO, getP, Ex.strict, strictAll, newE, Itr.strict])
  repeat (refine y_go ?_; simp [forF, bindTg, setAll, getV, getO, getP, Ex.strict, strictAll, newE, Itr.strict])
  refine (whole_spec hw _ hp).mono fun r S1 ⟨e, eS⟩ => ?_
  subst e eS
  cases t with
  | int v =>
    have c1 : cmpT .le (.int lo) (.int v) = some (decide (lo ≤ v)) := rfl
    have c2 : cmpT .le (.int v) (.int hi) = some (decide (v ≤ hi)) := rfl
    simp [isIntT, withinB, c1, c2]
    by_cases h1 : lo ≤ v <;> by_cases h2 : v ≤ hi <;> simp [h1, h2] <;> omega
  | _ => simp [isIntT, withinB]
theorem name_spec (h : Has ds d_is_name) (hL : cst "LETTERS" = some (.str lettersS)) (k : Nat) {z : Str} (hz : z.length ≤ lim) : Y (callK cst fuel ds (k + 1) "is_name" [.str z] S) fun r S' => r = .bl (nameB z) ∧ S' = S := by
  refine y_callK h rfl ?_
  simp [d_is_name, startE]
  have e0 : lenT (.str z) = some z.length := by simp [lenT, hz]
  have c1 : cmpT .le (.int 1) (.int (z.length : Int)) = some (decide (1 ≤ z.length)) := by
    have : cmpT .le (.int 1) (.int (z.length : Int)) = some (decide ((1 : Int) ≤ (z.length : Int))) := rfl
    rw [this]
    exact congrArg some (decide_eq_decide.mpr (by omega))
  have c2 : cmpT .le (.int (z.length : Int)) (.int 8) = some (decide (z.length ≤ 8)) := by
    have : cmpT .le (.int (z.length : Int)) (.int 8) = some (decide ((z.length : Int) ≤ (8 : Int))) := rfl
    rw [this]
    exact congrArg some (decide_eq_decide.mpr (by omega))
  have e1 : itemsT (.str z) = some (z.cps.toList.map fun c => .str ⟨#[c]⟩) := by simp [itemsT, hz]
  (try simp [forF, bindTg, setAll, getV, getO, getP, Ex.strict, strictAll, newE, Itr.strict, anyTy, isaT, e0, c1, c2])
  repeat (refine y_go ?_; simp [forF, bindTg, setAll, getV, getO, getP, Ex.strict, strictAll, newE, Itr.strict, anyTy, isaT, e0, c1, c2])
  by_cases h1 : z.length = 0
  · exact .inl ⟨h1, by simp [nameB, h1]⟩
  · by_cases h2 : 8 < z.length
    · exact .inr ⟨by omega, .inl ⟨h2, by simp [nameB]; intro _ h; omega⟩⟩
    · refine .inr ⟨by omega, .inr ⟨by omega, _, e1, ?_⟩⟩
      refine y_mapLx (g := fun t => [lowG t]) (fun x hx => ?_) ?_
      · obtain ⟨c, hc, rfl⟩ := List.mem_map.mp hx
        simp [lcF, bindTg, setAll, Tg.slots, wipeE, condT, getV, getP, Ex.strict, strictAll, lowG, lowB, hL]
        obtain ⟨b, hb⟩ : ∃ b, inT (.str ⟨#[c]⟩) (.str lettersS) = some b := ⟨_, rfl⟩
        rw [hb]
        cases b <;> simp
      · have := bls_map lowB (z.cps.toList.map fun c => T.str ⟨#[c]⟩)
        unfold lowG
        rw [this]
        simp [nameB, List.all_map, Function.comp_def]
        exact fun _ => ⟨by omega, by omega⟩
theorem rising_ok (h : Has ds d_are_rising) (k : Nat) {l : List T} (hv : ∀ t ∈ l, ∀ S, view S t = some t) (hl : ∀ (i : Nat) (a b : T), l[i]? = some a → l[i + 1]? = some b → ltT a b = some true) : Y (callK cst fuel ds (k + 1) "are_rising" [.tup l] S) fun r S' => r = .bl true ∧ S' = S := by
  refine y_callK h rfl ?_
  simp [d_are_rising, startE]
  (try simp [forF, bindTg, setAll, getV, getO, getP, Ex.strict, strictAll, newE, Itr.strict])
  repeat (refine y_go ?_; simp [forF, bindTg, setAll, getV, getO, getP, Ex.strict, strictAll, newE, Itr.strict])
  rw [cut_tail]
  refine y_mapLx (g := fun _ => [.bl true]) (fun x hx => ?_) ?_
  · obtain ⟨i, a, b, h1, h2, rfl⟩ := zip2_mem hx
    have h3 := hl i a b h1 (by rw [List.getElem?_drop] at h2; rw [Nat.add_comm]; exact h2)
    have h4 : cmpT .lt a b = some true := h3
    have v1 := fun S => hv a (List.mem_of_getElem? h1) S
    have v2 := fun S => hv b (List.mem_of_mem_drop (List.mem_of_getElem? h2)) S
    simp [lcF, bindTg, setAll, Tg.slots, wipeE, condT, getV, getP, Ex.strict, strictAll, h4, v1, v2]
  · rw [bls_true]
    simp
end
end RD

namespace RD
open PySem
def fdT (cs : List Cs) (p : Pn) : T := .tup [.int (endP cs p), .str p.name, .int p.room]
def mkF (cs ord : List Cs) : List Pn := ord.foldl (madeF cs) []
def tmB (cs : List Cs) (c : Cs) (x : Str) : Bool := c.team.any fun z => (teamOf cs x).any fun y => y == z
def endG (cs : List Cs) (c : Cs) (room : Int) (t : T) : List T := match t with
  | .tup [.int e, .str x, .int pl] => if (decide (pl = room) || tmB cs c x) = true then [.int e] else []
  | _ => []
def inTm (tm : List Str) (t : T) : Bool := match t with
  | .str z => tm.any fun y => y == z
  | _ => false
theorem any_strs (tm l : List Str) : ((strsL l).map (inTm tm)).any id = l.any fun z => tm.any fun y => y == z := by
  simp [strsL, List.any_map, Function.comp_def, inTm]
def bkG (cs : List Cs) (t : T) : T := match t with
  | .tup [.int e, .str x, .int r] => .tup [.int (e - usOf cs x), .str x, .int r]
  | _ => .non
structure MkOk (cs ord : List Cs) : Prop where
  look : ∀ c ∈ cs, look' cs c.name = some c
  sub : ∀ c ∈ ord, c ∈ cs
  nm : ∀ c ∈ cs, pl (.str c.name) = true
  tm : ∀ c ∈ cs, ∀ z ∈ c.team, pl (.str z) = true
  pl0 : ∀ c ∈ cs, c.places ≠ []
  prr : ∀ c ∈ cs, c.places.Pairwise (· < ·)
  pll : ∀ c ∈ cs, c.places.length ≤ 1000
  len : ord.length ≤ 1000
section
variable {cst : Str → Option T} {fuel : Nat} {ds : List Dn} {S : Store} {cs ord : List Cs}
theorem MkOk.team (M : MkOk cs ord) {c : Cs} (h : c ∈ cs) : teamOf cs c.name = c.team := by simp [teamOf, M.look c h]
theorem MkOk.kn (M : MkOk cs ord) {c : Cs} (h : c ∈ cs) : valT (knT cs) (.inr c.name) = some (cT c) := by rw [kn_look, M.look c h]; rfl
theorem MkOk.us (M : MkOk cs ord) {c : Cs} (h : c ∈ cs) : usOf cs c.name = c.usual := by simp [usOf, M.look c h]
theorem mk_names (M : MkOk cs ord) : ∀ l : List Cs, (∀ c ∈ l, c ∈ cs) → ∀ fd : List Pn, (∀ p ∈ fd, ∃ c ∈ cs, p.name = c.name) → ∀ p ∈ l.foldl (madeF cs) fd, ∃ c ∈ cs, p.name = c.name
  | [], _, fd, h, p, hp => h p hp
  | c :: l, hl, fd, h, p, hp => by
    refine mk_names M l (fun d hd => hl d (List.mem_cons_of_mem _ hd)) (madeF cs fd c) (fun p hp => ?_) p hp
    rcases List.mem_append.mp hp with hp | hp
    · exact h p hp
    · rw [List.mem_singleton.mp hp]
      exact ⟨c, hl c (by simp), (best_spec (cs := cs) (fd := fd) (M.pl0 c (hl c (by simp)))).1⟩
theorem mk_len : ∀ (l : List Cs) (fd : List Pn), (l.foldl (madeF cs) fd).length = fd.length + l.length
  | [], fd => rfl
  | c :: l, fd => by simp only [List.foldl_cons, mk_len l, madeF, List.length_append, List.length_cons, List.length_nil]; omega
theorem end_map (M : MkOk cs ord) {c : Cs} (hc : c ∈ cs) {room : Int} : ∀ fd : List Pn, (fd.map (fdT cs)).flatMap (endG cs c room) = intsL ((fd.filter (meetB cs ⟨0, c.name, room⟩)).map (endP cs))
  | [] => rfl
  | p :: fd => by
    have e : (decide (p.room = room) || tmB cs c p.name) = meetB cs ⟨0, c.name, room⟩ p := by
      unfold meetB tmB
      simp only [M.team hc]
      congr 1
      exact decide_eq_decide.mpr ⟨fun h => h.symm, fun h => h.symm⟩
    simp only [List.map_cons, List.flatMap_cons, end_map M hc fd, List.filter_cons]
    cases hb : meetB cs ⟨0, c.name, room⟩ p with
    | true => simp [endG, fdT, e, hb, intsL]
    | false => simp [endG, fdT, e, hb]
theorem max_last {l : List Int} {a : Int} : maxI (l ++ [a]) = some (l.foldl mx a) := by
  obtain ⟨v, hv⟩ : ∃ v, maxI (l ++ [a]) = some v := by
    cases l with
    | nil => exact ⟨_, rfl⟩
    | cons b l => exact ⟨_, rfl⟩
  rw [hv]
  have h := maxI_spec hv
  refine congrArg some (Int.le_antisymm ?_ (fmx_le.mpr ⟨h.2.2 a (by simp), fun y hy => h.2.2 y (by simp [hy])⟩))
  rcases List.mem_append.mp h.2.1 with h1 | h1
  · exact fmx_mem h1
  · rw [List.mem_singleton.mp h1]; exact fmx_init
def PB1 (cs ord : List Cs) (S : Store) (i : Nat) (ρ : Env) (S' : Store) : Prop := ∃ s4 s5 s6 s7 s8 s9 s10 s11 s12 s13, ρ = [.val (.tup (cs.map cT)), .val (.tup (ord.map fun c => .str c.name)), .val (.dct (knT cs)), .own ((mkF cs (ord.take i)).map (fdT cs)), s4, s5, s6, s7, s8, s9, s10, s11, s12, s13] ∧ S' = S
def PB2 (cs ord : List Cs) (fd : List Pn) (c : Cs) (S : Store) (i : Nat) (ρ : Env) (S' : Store) : Prop := ∃ s7 s8 s9 s10 s11 s12 s13, ρ = [.val (.tup (cs.map cT)), .val (.tup (ord.map fun c => .str c.name)), .val (.dct (knT cs)), .own (fd.map (fdT cs)), .val (.str c.name), .val (cT c), .own ((c.places.take i).map fun r => .tup [.int (stAt cs fd c.name c.first r), .int r]), s7, s8, s9, s10, s11, s12, s13] ∧ S' = S
theorem plan_by_spec (hb : Has ds d_by_name) (h : Has ds d_plan_by) (M : MkOk cs ord) (k : Nat) :
    Y (callK cst fuel ds (k + 2) "plan_by" [.tup (cs.map cT), .tup (ord.map fun c => .str c.name)] S) fun t S' => S' = S ∧ ∃ qs : List Pn, sortT ((mkF cs ord).map pT) = some (qs.map pT) ∧ t = .tup (qs.map pT) := by
  refine y_callK h rfl ?_
  simp [d_plan_by, startE]
  (try simp [forF, bindTg, setAll, getV, getO, getP, Ex.strict, strictAll, newE, Itr.strict])
  repeat (refine y_go ?_; simp [forF, bindTg, setAll, getV, getO, getP, Ex.strict, strictAll, newE, Itr.strict])
  refine (by_name_spec hb _ cs).mono fun t S1 ⟨e, eS⟩ => ?_
  subst e eS
  (try simp [forF, bindTg, setAll, getV, getO, getP, Ex.strict, strictAll, newE, Itr.strict])
  repeat (refine y_go ?_; simp [forF, bindTg, setAll, getV, getO, getP, Ex.strict, strictAll, newE, Itr.strict])
  refine y_forI (PB1 cs ord S1) ?_ ?_ ⟨_, _, _, _, _, _, _, _, _, _, rfl, rfl⟩
  · rintro i x ρ S2 hx ⟨s4, s5, s6, s7, s8, s9, s10, s11, s12, s13, rfl, rfl⟩
    rw [List.getElem?_map, Option.map_eq_some_iff] at hx
    obtain ⟨c, hco, rfl⟩ := hx
    have hcm := List.mem_of_getElem? hco
    have hc := M.sub c hcm
    have ek := M.kn hc
    have hfl : (mkF cs (ord.take i)).length = i := by
      unfold mkF
      rw [mk_len]
      have := (List.getElem?_eq_some_iff.mp hco).1
      simp; omega
    have hfn := mk_names M (ord.take i) (fun d hd => M.sub d (List.mem_of_mem_take hd)) [] (by simp)
    have stp : mkF cs (ord.take (i + 1)) = madeF cs (mkF cs (ord.take i)) c := by
      unfold mkF
      rw [List.take_add_one, hco]; simp [List.foldl_append]
    have hfn' : ∀ p ∈ mkF cs (ord.take i), ∃ c ∈ cs, p.name = c.name := hfn
    generalize mkF cs (ord.take i) = fd at hfl hfn' stp
    (try simp [forF, bindTg, setAll, getV, getO, getP, Ex.strict, strictAll, newE, Itr.strict, ek, cT])
    repeat (refine y_go ?_; simp [forF, bindTg, setAll, getV, getO, getP, Ex.strict, strictAll, newE, Itr.strict, ek, cT])
    refine y_forI (PB2 cs ord fd c S2) ?_ ?_ ⟨_, _, _, _, _, _, _, rfl, rfl⟩
    · rintro j x ρ S3 hx ⟨s7, s8, s9, s10, s11, s12, s13, rfl, rfl⟩
      unfold intsL at hx
      rw [List.getElem?_map, Option.map_eq_some_iff] at hx
      obtain ⟨r, hr, rfl⟩ := hx
      (try simp [forF, bindTg, setAll, getV, getO, getP, Ex.strict, strictAll, newE, Itr.strict, cT])
      repeat (refine y_go ?_; simp [forF, bindTg, setAll, getV, getO, getP, Ex.strict, strictAll, newE, Itr.strict, cT])
      refine y_mapLx (g := endG cs c r) (fun x hx => ?_) ?_
      · obtain ⟨p, hp, rfl⟩ := List.mem_map.mp hx
        obtain ⟨d, hd, ed⟩ := hfn' p hp
        have ekd := M.kn hd
        rw [← ed] at ekd
        have etd := M.team hd
        rw [← ed] at etd
        simp [lcF, bindTg, setAll, Tg.slots, wipeE, condT, getV, getP, Ex.strict, strictAll, fdT, ekd, cT, eqT_int]
        by_cases hr2 : p.room = r
        · exact .inr ⟨hr2, by simp [endG, hr2]⟩
        · refine .inl ⟨hr2, ?_⟩
          refine y_mapLx (g := fun t => [T.bl (inTm d.team t)]) (fun x hx => ?_) ?_
          · obtain ⟨z, hz, rfl⟩ := mem_strsL.mp hx
            simp [lcF, bindTg, setAll, Tg.slots, wipeE, condT, getV, getP, Ex.strict, strictAll, ekd, cT, in_strs (M.tm c hc z hz) (M.tm d hd), inTm]
            by_cases hz2 : z ∈ d.team
            · exact .inr hz2
            · exact .inl fun x hx e => hz2 (e ▸ hx)
          · have eb : tmB cs c p.name = c.team.any fun z => d.team.any fun y => y == z := by simp [tmB, etd]
            rw [bls_map]
            simp only [Option.some.injEq, exists_eq_left', any_strs]
            cases hB : (c.team.any fun z => d.team.any fun y => y == z) with
            | true => simp [endG, hr2, eb, hB, getV]
            | false => simp [endG, hr2, eb, hB]
      · rw [end_map M hc]
        have hint : ∀ (l : List Int) (a : Int), intsT (intsL l ++ [T.int a]) = some (l ++ [a]) := fun l a => by
          have := intsT_ints (l ++ [a])
          simpa [intsL] using this
        have hll : (intsL ((fd.filter (meetB cs ⟨0, c.name, r⟩)).map (endP cs))).length ≤ 1000 := by
          have h1 := List.length_filter_le (meetB cs ⟨0, c.name, r⟩) fd
          have h2 := (List.getElem?_eq_some_iff.mp hco).1
          have h3 := M.len
          simp only [intsL, List.length_map]; omega
        have hlim : 2000 ≤ lim := by decide
        have hp2 : (c.places.take (j + 1)).map (fun r => T.tup [T.int (stAt cs fd c.name c.first r), T.int r]) = (c.places.take j).map (fun r => T.tup [T.int (stAt cs fd c.name c.first r), T.int r]) ++ [T.tup [T.int (stAt cs fd c.name c.first r), T.int r]] := by
          rw [List.take_add_one, hr]; simp
        (try simp [forF, bindTg, setAll, getV, getO, getP, Ex.strict, strictAll, newE, Itr.strict, cT])
        repeat (refine y_go ?_; simp [forF, bindTg, setAll, getV, getO, getP, Ex.strict, strictAll, newE, Itr.strict, cT])
        simp [hint, max_last]
        have hpl := M.pll c hc
        refine ⟨by omega, by omega, .val (.int r), .val (.lst (intsL ((fd.filter (meetB cs ⟨0, c.name, r⟩)).map (endP cs)))), s9, s10, s11, s12, s13, ?_, rfl⟩
        rw [hp2]
        simp only [List.map_take]
        rfl
    · rintro ρ S3 ⟨s7, s8, s9, s10, s11, s12, s13, rfl, rfl⟩
      have tk : c.places.take (intsL c.places).length = c.places := List.take_of_length_le (by simp [intsL])
      rw [tk]
      obtain ⟨b1, b2, b3, b4⟩ := best_spec (cs := cs) (fd := fd) (M.pl0 c hc)
      (try simp [forF, bindTg, setAll, getV, getO, getP, Ex.strict, strictAll, newE, Itr.strict, min_places (cs := cs) (fd := fd) (M.pl0 c hc) (M.prr c hc), cT])
      repeat (refine y_go ?_; simp [forF, bindTg, setAll, getV, getO, getP, Ex.strict, strictAll, newE, Itr.strict, min_places (cs := cs) (fd := fd) (M.pl0 c hc) (M.prr c hc), cT])
      have hlim : 2000 ≤ lim := by decide
      have hol := (List.getElem?_eq_some_iff.mp hco).1
      have hml := M.len
      refine ⟨by omega, .val (.str c.name), .val (cT c), .own (c.places.map fun r => .tup [.int (stAt cs fd c.name c.first r), .int r]), .val (.int (bestP cs fd c).room), s8, .val (.int (bestP cs fd c).start), s10, s11, s12, s13, ?_, rfl⟩
      rw [stp]
      have ef : fdT cs (bestP cs fd c) = .tup [.int ((bestP cs fd c).start + c.usual), .str c.name, .int (bestP cs fd c).room] := by
        unfold fdT endP
        rw [b1, M.us hc]
      unfold madeF
      rw [List.map_append, List.map_cons, List.map_nil, ef]
      rfl
  · rintro ρ S2 ⟨s4, s5, s6, s7, s8, s9, s10, s11, s12, s13, rfl, rfl⟩
    have tk : ord.take (ord.map fun c => T.str c.name).length = ord := List.take_of_length_le (by simp)
    rw [tk]
    (try simp [forF, bindTg, setAll, getV, getO, getP, Ex.strict, strictAll, newE, Itr.strict])
    repeat (refine y_go ?_; simp [forF, bindTg, setAll, getV, getO, getP, Ex.strict, strictAll, newE, Itr.strict])
    have hn := mk_names M ord M.sub [] (by simp)
    have hl : (mkF cs ord).length = ord.length := by unfold mkF; rw [mk_len]; simp
    have hn' : ∀ p ∈ mkF cs ord, ∃ c ∈ cs, p.name = c.name := hn
    refine y_mapLx (g := fun t => [bkG cs t]) (fun x hx => ?_) ?_
    · obtain ⟨p, hp, rfl⟩ := List.mem_map.mp hx
      obtain ⟨d, hd, ed⟩ := hn' p hp
      have ekd := M.kn hd
      have eud := M.us hd
      rw [← ed] at ekd eud
      simp [lcF, bindTg, setAll, Tg.slots, wipeE, condT, getV, getP, Ex.strict, strictAll, fdT, ekd, cT, bkG, eud]
    · have eb : ((mkF cs ord).map (fdT cs)).flatMap (fun t => [bkG cs t]) = (mkF cs ord).map pT := by
        rw [List.flatMap_map]
        have : ∀ l : List Pn, (l.flatMap fun p => [bkG cs (fdT cs p)]) = l.map pT := by
          intro l
          induction l with
          | nil => rfl
          | cons p l ih =>
            simp only [List.flatMap_cons, ih, List.map_cons, List.singleton_append, bkG, fdT, endP, pT]
            congr 4
            omega
        exact this _
      rw [eb]
      obtain ⟨qs, eq, _⟩ := sort_pT (mkF cs ord) (by rw [hl]; exact M.len)
      refine ⟨_, ⟨_, eq, rfl⟩, _, ⟨_, rfl, rfl⟩, _, rfl, rfl, qs, eq, rfl⟩
end
end RD

/-! lots of names: the first of the sorted ones is the least -/
namespace RD
open PySem
/-- a lot of names, in the order of the names, taken from the end of what stands -/
def subs {α : Type} (ns : List α) : List (List α) := ns.foldl (fun acc n => acc ++ acc.map fun l => l ++ [n]) [[]]
def lotT (l : List Str) : T := .tup (l.map .str)
def ltL (a b : List Str) : Bool := W.dataLt (keyLL a) (keyLL b)
theorem toks_strs : ∀ {a b : List Str}, W.keyToksAll (a.map .str) = W.keyToksAll (b.map .str) → a = b
  | [], [], _ => rfl
  | [], b :: bs, h => by simp [W.keyToksAll] at h
  | a :: as, [], h => by simp [W.keyToksAll] at h
  | a :: as, b :: bs, h => by
    simp only [List.map_cons, W.keyToksAll, W.keyToks, List.cons_append, List.nil_append, List.cons.injEq, true_and, Sum.inr.injEq] at h
    rw [W.str_of_cps h.1, toks_strs h.2]
theorem ltL_tri {a b : List Str} (h1 : ltL a b = false) (h2 : ltL b a = false) : a = b := by
  have e := PyProof.Rows.lex_total _ _ h1 h2
  simp only [keyLL, W.keyToks, W.keyToksAll, List.cons_append, List.nil_append, List.cons.injEq, true_and] at e
  have e2 := List.append_cancel_right e.2
  exact toks_strs e2
theorem ltL_trans {a b c : List Str} (h1 : ltL a b = true) (h2 : ltL b c = true) : ltL a c = true := PyProof.Rows.lex_trans _ _ _ h1 h2
theorem ltL_self (a : List Str) : ltL a a = false := PyProof.Rows.lex_irrefl _
def sortL (ls : List (List Str)) : List (List Str) := ls.mergeSort (W.dataLe false keyLL)
theorem sortL_mem {ls : List (List Str)} {a : List Str} : a ∈ sortL ls ↔ a ∈ ls := (List.mergeSort_perm ls _).mem_iff
theorem sortL_pw (ls : List (List Str)) : (sortL ls).Pairwise fun a b => ltL b a = false := by
  have hp := W.sort_pairwise (W.sortLe_total (PyProof.Rows.listOrd PyProof.Rows.itemOrd) false fun b => W.keyToks (keyLL b)) ls
  have hp' : (sortL ls).Pairwise fun a b => W.sortLe (PyProof.Rows.listOrd PyProof.Rows.itemOrd) false (fun b => W.keyToks (keyLL b)) a b = true := hp
  refine hp'.imp fun {a b} k => ?_
  have k' : W.dataLe false keyLL a b = true := k
  rw [W.dataLe_eq] at k'
  simp only [cond_false, Bool.not_eq_true'] at k'
  exact k'
/-- the first that suffices, of a list in order -/
theorem find_least {p : List Str → Bool} : ∀ {l : List (List Str)}, l.Pairwise (fun a b => ltL b a = false) → ∀ a, l.find? p = some a → a ∈ l ∧ p a = true ∧ ∀ x ∈ l, p x = true → ltL x a = false
  | [], _, a, h => by cases h
  | x :: l, hp, a, h => by
    obtain ⟨h1, h2⟩ := List.pairwise_cons.mp hp
    by_cases hx : p x = true
    · rw [List.find?_cons_of_pos hx] at h
      cases h
      refine ⟨by simp, hx, fun y hy _ => ?_⟩
      rcases List.mem_cons.mp hy with rfl | hy
      · exact ltL_self _
      · exact h1 y hy
    · rw [List.find?_cons_of_neg hx] at h
      obtain ⟨g1, g2, g3⟩ := find_least h2 a h
      refine ⟨List.mem_cons_of_mem _ g1, g2, fun y hy py => ?_⟩
      rcases List.mem_cons.mp hy with rfl | hy
      · exact absurd py hx
      · exact g3 y hy py
/-- the best so far -/
def bestG (p : List Str → Bool) (b : Option (List Str)) (x : List Str) : Option (List Str) := if p x = true then (match b with
  | none => some x
  | some y => if ltL x y = true then some x else some y) else b
theorem best_least {p : List Str → Bool} : ∀ {l : List (List Str)} {b : Option (List Str)} {seen : List (List Str)}, (∀ y, b = some y → y ∈ seen ∧ p y = true ∧ ∀ x ∈ seen, p x = true → ltL x y = false) → (b = none → ∀ x ∈ seen, p x = false) →
    (∀ y, l.foldl (bestG p) b = some y → y ∈ seen ++ l ∧ p y = true ∧ ∀ x ∈ seen ++ l, p x = true → ltL x y = false) ∧ (l.foldl (bestG p) b = none → ∀ x ∈ seen ++ l, p x = false)
  | [], b, seen, h1, h2 => by simpa using ⟨h1, h2⟩
  | z :: l, b, seen, h1, h2 => by
    have key := best_least (p := p) (l := l) (b := bestG p b z) (seen := seen ++ [z]) (fun y hy => ?_) (fun hb x hx => ?_)
    · simpa using key
    · unfold bestG at hy
      by_cases hz : p z = true
      · rw [if_pos hz] at hy
        cases b with
        | none =>
          cases hy
          refine ⟨by simp, hz, fun x hx px => ?_⟩
          rcases List.mem_append.mp hx with hx | hx
          · rw [h2 rfl x hx] at px; cases px
          · rw [List.mem_singleton.mp hx]; exact ltL_self _
        | some w =>
          obtain ⟨g1, g2, g3⟩ := h1 w rfl
          simp only at hy
          by_cases hl : ltL z w = true
          · rw [if_pos hl] at hy
            cases hy
            refine ⟨by simp, hz, fun x hx px => ?_⟩
            rcases List.mem_append.mp hx with hx | hx
            · cases q : ltL x z with
              | false => rfl
              | true => have := ltL_trans q hl; rw [g3 x hx px] at this; cases this
            · rw [List.mem_singleton.mp hx]; exact ltL_self _
          · rw [if_neg hl] at hy
            cases hy
            refine ⟨List.mem_append_left _ g1, g2, fun x hx px => ?_⟩
            rcases List.mem_append.mp hx with hx | hx
            · exact g3 x hx px
            · rw [List.mem_singleton.mp hx]; simpa using hl
      · rw [if_neg hz] at hy
        subst hy
        obtain ⟨g1, g2, g3⟩ := h1 y rfl
        refine ⟨List.mem_append_left _ g1, g2, fun x hx px => ?_⟩
        rcases List.mem_append.mp hx with hx | hx
        · exact g3 x hx px
        · rw [List.mem_singleton.mp hx] at px; exact absurd px hz
    · unfold bestG at hb
      by_cases hz : p z = true
      · rw [if_pos hz] at hb
        cases b with
        | none => cases hb
        | some w => simp only at hb; split at hb <;> cases hb
      · rw [if_neg hz] at hb
        rcases List.mem_append.mp hx with hx | hx
        · exact h2 hb x hx
        · rw [List.mem_singleton.mp hx]; simpa using hz
/-- the first of the sorted lots that suffices is the least of all that do -/
theorem first_least (p : List Str → Bool) (ls : List (List Str)) : (sortL ls).find? p = ls.foldl (bestG p) none := by
  obtain ⟨k1, k2⟩ := best_least (p := p) (l := ls) (b := none) (seen := []) (fun y h => by cases h) (fun _ x h => by cases h)
  simp only [List.nil_append] at k1 k2
  cases e : ls.foldl (bestG p) none with
  | none =>
    rw [List.find?_eq_none]
    intro x hx
    rw [k2 e x (sortL_mem.mp hx)]
    exact fun z => by cases z
  | some b =>
    obtain ⟨g1, g2, g3⟩ := k1 b e
    cases e2 : (sortL ls).find? p with
    | none =>
      have := List.find?_eq_none.mp e2 b (sortL_mem.mpr g1)
      exact absurd g2 this
    | some a =>
      obtain ⟨w1, w2, w3⟩ := find_least (sortL_pw ls) a e2
      rw [ltL_tri (g3 a (sortL_mem.mp w1) w2) (w3 b (sortL_mem.mpr g1) g2)]
theorem subs_snoc {α : Type} (ns : List α) (n : α) : subs (ns ++ [n]) = subs ns ++ (subs ns).map fun l => l ++ [n] := by
  unfold subs
  rw [List.foldl_append]
  rfl
theorem snoc_ind {α : Type} {P : List α → Prop} (h0 : P []) (h1 : ∀ l a, P l → P (l ++ [a])) (l : List α) : P l := by
  have key : ∀ m : List α, P m.reverse := fun m => by
    induction m with
    | nil => exact h0
    | cons a m ih => rw [List.reverse_cons]; exact h1 _ _ ih
  simpa using key l.reverse
theorem subs_len {α : Type} (ns : List α) : (subs ns).length = 2 ^ ns.length := by
  refine snoc_ind (P := fun ns : List α => (subs ns).length = 2 ^ ns.length) rfl (fun ns n ih => ?_) ns
  rw [subs_snoc]; simp [ih, Nat.pow_succ]; omega
theorem subs_in {α : Type} {ns : List α} : ∀ {l : List α}, l ∈ subs ns → l.Sublist ns := by
  refine snoc_ind (P := fun ns : List α => ∀ {l : List α}, l ∈ subs ns → l.Sublist ns) (fun {l} h => ?_) (fun ns n ih => ?_) ns
  · simp [subs] at h; subst h; exact List.Sublist.refl _
  · intro l h
    rw [subs_snoc] at h
    rcases List.mem_append.mp h with h | h
    · exact (ih h).trans (List.sublist_append_left _ _)
    · obtain ⟨m, hm, rfl⟩ := List.mem_map.mp h
      exact (ih hm).append (List.Sublist.refl _)
theorem subs_map {α β : Type} (f : α → β) (ns : List α) : subs (ns.map f) = (subs ns).map (List.map f) := by
  refine snoc_ind (P := fun ns : List α => subs (ns.map f) = (subs ns).map (List.map f)) rfl (fun ns n ih => ?_) ns
  · rw [List.map_append, subs_snoc]
    simp only [List.map_cons, List.map_nil]
    rw [subs_snoc, ih]
    simp [Function.comp_def]
theorem subs_self {α : Type} (ns : List α) : ns ∈ subs ns := by
  refine snoc_ind (P := fun ns : List α => ns ∈ subs ns) (by simp [subs]) (fun ns n ih => ?_) ns
  · rw [subs_snoc]; exact List.mem_append_right _ (List.mem_map.mpr ⟨ns, ih, rfl⟩)
end RD

/-! the latest end of all: the program's, the law's -/
namespace RD
open PySem
section
variable {cst : Str → Option T} {fuel : Nat} {ds : List Dn} {S : Store} {cs : List Cs} {pn : List Pn} {m : Nat}
/-- the latest end of all -/
def lastM (cs : List Cs) (pn : List Pn) (m : Nat) : Int := ((tabM cs pn m pn.length).map fun r => r.es.getD m 0).foldl mx 0
theorem lat_ends : (latM cs pn m).map (·.e) = (tabM cs pn m pn.length).map fun r => r.es.getD m 0 := by
  unfold latM
  rw [List.map_map]
  have : ∀ (l : List Pn) (r : List Rw), l.length = r.length → (l.zip r).map ((fun f : Fr => f.e) ∘ fun q => ⟨q.1.name, q.2.bs.getD m 0, q.2.es.getD m 0⟩) = r.map fun r => r.es.getD m 0 := by
    intro l
    induction l with
    | nil => intro r h; cases r with
      | nil => rfl
      | cons _ _ => cases h
    | cons a l ih => intro r h; cases r with
      | nil => cases h
      | cons b r => have := ih r (by simpa using h); simp only [List.zip_cons_cons, List.map_cons, this]; rfl
  exact this _ _ (tab_len _).symm
def e2G (t : T) : T := match t with
  | .tup [_, _, e] => e
  | _ => .non
theorem ints0 (l : List Int) : intsT (intsL l ++ [.int 0]) = some (l ++ [0]) := by
  have := intsT_ints (l ++ [0])
  simpa [intsL] using this
theorem last_end_spec (h : Has ds d_last_end) (hla : Has ds d_latest) (H2 : HasT ds) (G : Good cs pn) (hm0 : m ≤ 100) (k : Nat) :
    Y (callK cst fuel ds (k + 5) "last_end" [.tup (cs.map cT), .tup (pn.map pT), .int (m : Int)] S) fun t S' => t = .int (lastM cs pn m) ∧ S' = S := by
  refine y_callK h rfl ?_
  simp [d_last_end, startE]
  (try simp [forF, bindTg, setAll, getV, getO, getP, Ex.strict, strictAll, newE, Itr.strict])
  repeat (refine y_go ?_; simp [forF, bindTg, setAll, getV, getO, getP, Ex.strict, strictAll, newE, Itr.strict])
  refine (latest_spec hla H2.table H2.leans H2.by_name H2.meet H2.ends G hm0 _).mono fun t S1 ⟨e, eS⟩ => ?_
  subst e eS
  simp
  have hlen := G.len
  refine y_mapLx (g := fun t => [e2G t]) (fun x hx => ?_) ?_
  · obtain ⟨f, hf, rfl⟩ := List.mem_map.mp hx
    simp [lcF, bindTg, Tg.slots, wipeE, condT, getV, getP, Ex.strict, strictAll, fT, e2G]
  · have e1 : (((latM cs pn m).map fT).flatMap fun t => [e2G t]) = intsL ((latM cs pn m).map (·.e)) := by
      rw [map1]
      simp only [intsL, List.map_map]
      exact List.map_congr_left fun f _ => rfl
    rw [e1, lat_ends]
    simp [ints0, max_last, lastM]
    exact Nat.le_trans (show _ ≤ 1001 by simp [intsL, tab_len]; omega) (by decide)
def DltJ (cs : List Cs) (pn : List Pn) (m : Nat) (S : Store) (i : Nat) (ρ : Env) (S' : Store) : Prop := ∃ s6 s7 s8 s9 s10 s11 s12 s13 s14, ρ = [.val (.tup (cs.map cT)), .val (.tup (pn.map pT)), .val (.int (m : Int)), .val (.dct (knT cs)), .val (.lst (rowsT cs pn pn.length)), .own ((tabM cs pn m i).map fun r => .lst (intsL r.es)), s6, s7, s8, s9, s10, s11, s12, s13, s14] ∧ S' = S
def DltI (cs : List Cs) (pn : List Pn) (m : Nat) (S : Store) (i : Nat) (p : Pn) (bs : List Int) (u l : Int) (j : Nat) (ρ : Env) (S' : Store) : Prop := ∃ s12 s13 s14, ρ = [.val (.tup (cs.map cT)), .val (.tup (pn.map pT)), .val (.int (m : Int)), .val (.dct (knT cs)), .val (.lst (rowsT cs pn pn.length)), .own ((tabM cs pn m i).map fun r => .lst (intsL r.es)), .val (.int (i : Int)), .val (pT p), .own (intsL (endsM bs u l j)), .val (.int u), .val (.int l), .val (.lst (intsL bs)), s12, s13, s14] ∧ S' = S
theorem es_at {l : List Rw} {j : Nat} (h : j < l.length) : L2.atI (l.map fun r => T.lst (intsL r.es)) (j : Int) = some (.lst (intsL l[j].es)) := atI_nat (by simp [h])
def g8 (m : Nat) (t : T) : T := match t with
  | .lst l => l.getD m .non
  | _ => .non
theorem dealt_spec (h : Has ds d__law_dealt) (hl : Has ds d__law_leans) (G : Good cs pn) (hm0 : m ≤ 100) (k : Nat) :
    Y (callK cst fuel ds (k + 2) "_law_dealt" [.tup (cs.map cT), .tup (pn.map pT), .int (m : Int)] S) fun t S' => t = .int (lastM cs pn m) ∧ S' = S := by
  refine y_callK h rfl ?_
  simp [d__law_dealt, startE]
  (try simp [forF, bindTg, setAll, getV, getO, getP, Ex.strict, strictAll, newE, Itr.strict])
  repeat (refine y_go ?_; simp [forF, bindTg, setAll, getV, getO, getP, Ex.strict, strictAll, newE, Itr.strict])
  refine y_mapLx (g := fun t => [prG t]) (fun x hx => ?_) ?_
  · obtain ⟨c, hc, rfl⟩ := List.mem_map.mp hx
    simp [lcF, bindTg, setAll, Tg.slots, wipeE, condT, getV, getP, Ex.strict, strictAll, cT, prG]
  rw [pairs_map]
  simp [pairs_cs]
  (try simp [forF, bindTg, setAll, getV, getO, getP, Ex.strict, strictAll, newE, Itr.strict])
  repeat (refine y_go ?_; simp [forF, bindTg, setAll, getV, getO, getP, Ex.strict, strictAll, newE, Itr.strict])
  refine (law_leans_spec hl G _).mono fun t S1 ⟨e, eS⟩ => ?_
  subst e eS
  have hlen := G.len
  (try simp [forF, bindTg, setAll, getV, getO, getP, Ex.strict, strictAll, newE, Itr.strict])
  repeat (refine y_go ?_; simp [forF, bindTg, setAll, getV, getO, getP, Ex.strict, strictAll, newE, Itr.strict])
  refine y_forI (DltJ cs pn m S1) ?_ ?_ ⟨_, _, _, _, _, _, _, _, _, rfl, rfl⟩
  · rintro i x ρ S2 hx ⟨s6, s7, s8, s9, s10, s11, s12, s13, s14, rfl, rfl⟩
    obtain ⟨t, ht, rfl⟩ := enum_at hx
    have hi : i < pn.length := by
      have := (List.getElem?_eq_some_iff.mp ht).1
      simpa using this
    have et : t = pT pn[i] := by
      simp [hi] at ht
      exact ht.symm
    subst et
    have hp : pn[i]? = some pn[i] := List.getElem?_eq_getElem hi
    have hle := tab_len (cs := cs) (pn := pn) (m := m) i
    obtain ⟨c, hc, ec, u, lo⟩ := G.ul (List.getElem_mem hi)
    have hrows := tab_row (m := m) G i (by omega)
    have hrow : L2.atI (rowsT cs pn pn.length) (i : Int) = some (rowT (leanRow cs pn i)) := atI_nat (by simp [rowsT, hi])
    (try simp [forF, bindTg, setAll, getV, getO, getP, Ex.strict, strictAll, newE, Itr.strict, pT, ec, cT])
    repeat (refine y_go ?_; simp [forF, bindTg, setAll, getV, getO, getP, Ex.strict, strictAll, newE, Itr.strict, pT, ec, cT])
    refine ⟨okR_small (by omega) (by omega), ?_⟩
    refine y_mapLx (g := fun t => [bsG cs pn (tabM cs pn m i) i pn[i] t]) (fun x hx => ?_) ?_
    · obtain ⟨b, hb', rfl⟩ := mem_rng hx
      simp [lcF, bindTg, setAll, Tg.slots, wipeE, condT, getV, getP, Ex.strict, strictAll, hrow, rowT]
      refine y_mapLx (g := fun t => [nG (eAt (tabM cs pn m i) b) t]) (fun x hx => ?_) ?_
      · simp only [List.mem_map] at hx
        obtain ⟨j, hj, rfl⟩ := hx
        have hj' : j < (tabM cs pn m i).length := by rw [hle]; exact lean_lt hj
        have hes : b < ((tabM cs pn m i)[j]).es.length := by rw [(hrows _ (List.getElem_mem hj')).2]; exact hb'
        simp [lcF, bindTg, setAll, Tg.slots, wipeE, condT, getV, getP, Ex.strict, strictAll, es_at hj', ints_at hes, eAt_eq hj', nG]
      · rw [nG_map]
        have hmx : intsT (T.int pn[i].start :: intsL (List.map (eAt (tabM cs pn m i) b) (leanRow cs pn i))) = some (pn[i].start :: List.map (eAt (tabM cs pn m i) b) (leanRow cs pn i)) := intsT_ints (pn[i].start :: _)
        have hcat : (intsL (List.map (eAt (tabM cs pn m i) b) (leanRow cs pn i))).length ≤ 1000 := by
          simp [intsL]
          have := lean_len (cs := cs) (pn := pn) (i := i)
          omega
        simp [hmx, maxI]
        exact ⟨by show 1 + _ ≤ lim; exact Nat.le_trans (by omega : _ ≤ 1001) (by decide), rfl⟩
    rw [bsG_map]
    have hbl := bsAt_len (cs := cs) (pn := pn) (m := m) (prev := tabM cs pn m i) (i := i) (p := pn[i])
    have stp : (tabM cs pn m (i + 1)).map (fun r => T.lst (intsL r.es)) = (tabM cs pn m i).map (fun r => T.lst (intsL r.es)) ++ [.lst (intsL (endsM (bsAt cs pn m (tabM cs pn m i) i pn[i]) (usOf cs pn[i].name) (loOf cs pn[i].name) (m + 1)))] := by
      rw [tabM]; simp [rwAt, hp]
    generalize hbs : bsAt cs pn m (tabM cs pn m i) i pn[i] = bs at hbl stp ⊢
    (try simp [forF, bindTg, setAll, getV, getO, getP, Ex.strict, strictAll, newE, Itr.strict])
    repeat (refine y_go ?_; simp [forF, bindTg, setAll, getV, getO, getP, Ex.strict, strictAll, newE, Itr.strict])
    refine ⟨okR_small (by omega) (by omega), ?_⟩
    refine y_forI (DltI cs pn m S2 i pn[i] bs c.usual c.longest) ?_ ?_ ⟨_, _, _, rfl, rfl⟩
    · rintro j x ρ S3 hx ⟨s12, s13, s14, rfl, rfl⟩
      obtain ⟨hj, ex⟩ := rng_at hx
      subst ex
      have ha := ints_at (l := bs) (j := j) (by omega)
      have hlen2 := ends_len (bs := bs) (u := c.usual) (l := c.longest) j
      by_cases h0 : j = 0
      · subst h0
        have ha0 : L2.atI (intsL bs) 0 = some (.int (bs.getD 0 0)) := ha
        (try simp [forF, bindTg, setAll, getV, getO, getP, Ex.strict, strictAll, newE, Itr.strict, ha0])
        repeat (refine y_go ?_; simp [forF, bindTg, setAll, getV, getO, getP, Ex.strict, strictAll, newE, Itr.strict, ha0])
        refine ⟨Nat.lt_of_le_of_lt (show _ ≤ 1000 by simp [intsL, hlen2]) (by decide), .val (.int 0), s13, s14, ?_, rfl⟩
        simp [endsM, intsL, mx]
      · have hp0 : 0 < j := by omega
        have e1 : ((j : Int) - 1) = ((j - 1 : Nat) : Int) := by omega
        have hb := ints_at (l := bs) (j := j - 1) (by omega)
        have e2 : (if 0 < j - 1 then ((j - 1 : Nat) : Int) else 0) = ((j - 1 : Nat) : Int) := by
          split
          · rfl
          · omega
        (try simp [forF, bindTg, setAll, getV, getO, getP, Ex.strict, strictAll, newE, Itr.strict, ha, hp0, e1, hb, e2])
        repeat (refine y_go ?_; simp [forF, bindTg, setAll, getV, getO, getP, Ex.strict, strictAll, newE, Itr.strict, ha, hp0, e1, hb, e2])
        refine ⟨Nat.lt_of_le_of_lt (show _ ≤ 1000 by simp [intsL, hlen2]; omega) (by decide), .val (.int (j : Int)), s13, s14, ?_, rfl⟩
        simp [endsM, intsL, mx, hp0]
    · rintro ρ S3 ⟨s12, s13, s14, rfl, rfl⟩
      (try simp [forF, bindTg, setAll, getV, getO, getP, Ex.strict, strictAll, newE, Itr.strict])
      repeat (refine y_go ?_; simp [forF, bindTg, setAll, getV, getO, getP, Ex.strict, strictAll, newE, Itr.strict])
      exact ⟨Nat.lt_of_le_of_lt (show _ ≤ 1000 by rw [hle]; omega) (by decide), _, _, _, _, _, _, _, _, _, by rw [stp, u, lo], rfl⟩
  · rintro ρ S2 ⟨s6, s7, s8, s9, s10, s11, s12, s13, s14, rfl, rfl⟩
    (try simp [forF, bindTg, setAll, getV, getO, getP, Ex.strict, strictAll, newE, Itr.strict])
    repeat (refine y_go ?_; simp [forF, bindTg, setAll, getV, getO, getP, Ex.strict, strictAll, newE, Itr.strict])
    refine y_mapLx (g := fun t => [g8 m t]) (fun x hx => ?_) ?_
    · obtain ⟨r, hr, rfl⟩ := List.mem_map.mp hx
      have hrow := (tab_row (m := m) G pn.length (Nat.le_refl _) r (by simpa [enumT_len] using hr)).2
      simp [lcF, bindTg, setAll, Tg.slots, wipeE, condT, getV, getP, Ex.strict, strictAll, ints_at (l := r.es) (j := m) (by omega), g8, getD_ints' (l := r.es) (n := m) (by omega)]
    · have e1 : ((((tabM cs pn m (enumT (pn.map pT)).length).map fun r => T.lst (intsL r.es)).flatMap fun t => [g8 m t])) = intsL ((tabM cs pn m pn.length).map fun r => r.es.getD m 0) := by
        rw [map1]
        simp only [intsL, List.map_map, enumT_len, List.length_map]
        refine List.map_congr_left fun r hr => ?_
        have hrow := (tab_row (m := m) G pn.length (Nat.le_refl _) r hr).2
        exact getD_ints (l := r.es) (n := m) (by omega)
      rw [e1]
      simp [ints0, max_last, lastM]
      exact Nat.le_trans (show _ ≤ 1001 by simp [intsL, tab_len]; omega) (by decide)
end
end RD

/-! What the evaluator does leaves the tables of code objects among the cells. -/
namespace RD
open PySem
def Keeps (S S' : Store) : Prop := ∀ P q, Cell.tbl P q ∈ S → Cell.tbl P q ∈ S'
theorem Keeps.refl (S : Store) : Keeps S S := fun _ _ h => h
theorem Keeps.trans {S S1 S2 : Store} (a : Keeps S S1) (b : Keeps S1 S2) : Keeps S S2 := fun P q h => b P q (a P q h)
theorem Keeps.app (S T : Store) : Keeps S (S ++ T) := fun _ _ h => List.mem_append_left _ h
theorem Keeps.set {S : Store} {n : Nat} {l m : List T} (h : S[n]? = some (.lst l)) : Keeps S (S.set n (.lst m)) := fun P q z => by
  obtain ⟨k, hk⟩ := List.getElem?_of_mem z
  have ne : n ≠ k := fun e => by rw [e, hk] at h; cases h
  exact List.mem_of_getElem? (i := k) (by rw [List.getElem?_set_ne ne]; exact hk)
def Tame {α : Type} (m : M α) : Prop := ∀ S a S', m S = some (.ok a S') → Keeps S S'
section
variable {α β : Type}
theorem tame_ret {a : α} : Tame (RD.ret a) := fun S b S' e => by cases e; exact .refl _
theorem tame_fail : Tame (fail : M α) := fun S b S' e => by cases e
theorem tame_opt {o : Option α} : Tame (opt o) := fun S b S' e => by
  cases o with
  | none => cases e
  | some a => cases e; exact .refl _
theorem tame_look {f : Store → Option α} : Tame (look f) := fun S b S' e => by
  unfold look at e
  cases q : f S with
  | none => rw [q] at e; cases e
  | some a => rw [q] at e; cases e; exact .refl _
theorem Tame.bnd {m : M α} {f : α → M β} (h : Tame m) (k : ∀ a, Tame (f a)) : Tame (RD.bnd m f) := fun S b S' e => by
  obtain ⟨a, S1, e1, e2⟩ := bnd_inv e
  exact (h _ _ _ e1).trans (k a _ _ _ e2)
theorem tame_str {b : Bool} {f : Env → M α} {ρ : Env} (h : Tame (f ρ)) : Tame (strictly b f ρ) := by
  unfold strictly
  split
  · exact h
  · exact tame_fail
theorem tame_newC {t : T} : Tame (newC t) := fun S b S' e => by
  unfold newC at e
  split at e
  · cases e; exact .app _ _
  · cases e; exact .app _ _
  · cases e
theorem tame_mapL {f : T → M (List T)} (h : ∀ x, Tame (f x)) : ∀ l, Tame (mapL f l)
  | [] => tame_ret
  | x :: xs => by unfold mapL; exact (h x).bnd fun ys => (tame_mapL h xs).bnd fun zs => tame_ret
theorem tame_foldD {f : T → M (Key × T)} (h : ∀ x, Tame (f x)) : ∀ l acc, Tame (foldD f l acc)
  | [], _ => tame_ret
  | x :: xs, _ => by unfold foldD; exact (h x).bnd fun kv => tame_foldD h xs _
theorem tame_lcF {c : Env → M (Option T)} {e : Env → M T} {tg : Tg} {ρ : Env} {x : T} (hc : ∀ ρ, Tame (c ρ)) (he : ∀ ρ, Tame (e ρ)) : Tame (lcF c e tg ρ x) := by
  unfold lcF
  split
  · refine (hc _).bnd fun k => ?_
    split
    · exact (he _).bnd fun y => tame_ret
    · exact tame_ret
    · exact tame_fail
  · exact tame_fail
theorem tame_dcF {k v : Env → M T} {tg : Tg} {ρ : Env} {x : T} (hk : ∀ ρ, Tame (k ρ)) (hv : ∀ ρ, Tame (v ρ)) : Tame (dcF k v tg ρ x) := by
  unfold dcF
  split
  · refine (hk _).bnd fun a => (hv _).bnd fun b => ?_
    split
    · exact tame_ret
    · exact tame_fail
  · exact tame_fail
end
section
variable {G : Glob}
mutual
theorem tame_ev (hG : ∀ f l, Tame (G.fn f l)) : ∀ (e : Ex) (ρ : Env), Tame (ev G e ρ)
  | .int i, ρ => by simp only [ev]; repeat' (first | with_reducible assumption | with_reducible exact tame_ret | with_reducible exact tame_fail | with_reducible exact tame_opt | with_reducible exact tame_look | with_reducible refine Tame.bnd ?_ fun _ => ?_ | split)
  | .bl b, ρ => by simp only [ev]; repeat' (first | with_reducible assumption | with_reducible exact tame_ret | with_reducible exact tame_fail | with_reducible exact tame_opt | with_reducible exact tame_look | with_reducible refine Tame.bnd ?_ fun _ => ?_ | split)
  | .non, ρ => by simp only [ev]; repeat' (first | with_reducible assumption | with_reducible exact tame_ret | with_reducible exact tame_fail | with_reducible exact tame_opt | with_reducible exact tame_look | with_reducible refine Tame.bnd ?_ fun _ => ?_ | split)
  | .str x, ρ => by simp only [ev]; repeat' (first | with_reducible assumption | with_reducible exact tame_ret | with_reducible exact tame_fail | with_reducible exact tame_opt | with_reducible exact tame_look | with_reducible refine Tame.bnd ?_ fun _ => ?_ | split)
  | .var i, ρ => by simp only [ev]; repeat' (first | with_reducible assumption | with_reducible exact tame_ret | with_reducible exact tame_fail | with_reducible exact tame_opt | with_reducible exact tame_look | with_reducible refine Tame.bnd ?_ fun _ => ?_ | split)
  | .peek i, ρ => by simp only [ev]; repeat' (first | with_reducible assumption | with_reducible exact tame_ret | with_reducible exact tame_fail | with_reducible exact tame_opt | with_reducible exact tame_look | with_reducible refine Tame.bnd ?_ fun _ => ?_ | split)
  | .glb x, ρ => by simp only [ev]; repeat' (first | with_reducible assumption | with_reducible exact tame_ret | with_reducible exact tame_fail | with_reducible exact tame_opt | with_reducible exact tame_look | with_reducible refine Tame.bnd ?_ fun _ => ?_ | split)
  | .bop true es, ρ => by simp only [ev]; exact tame_and hG es ρ
  | .bop false es, ρ => by simp only [ev]; exact tame_or hG es ρ
  | .not a, ρ => by have h1 := tame_ev hG a ρ; simp only [ev]; repeat' (first | with_reducible assumption | with_reducible exact tame_ret | with_reducible exact tame_fail | with_reducible exact tame_opt | with_reducible exact tame_look | with_reducible refine Tame.bnd ?_ fun _ => ?_ | split)
  | .neg a, ρ => by have h1 := tame_ev hG a ρ; simp only [ev]; repeat' (first | with_reducible assumption | with_reducible exact tame_ret | with_reducible exact tame_fail | with_reducible exact tame_opt | with_reducible exact tame_look | with_reducible refine Tame.bnd ?_ fun _ => ?_ | split)
  | .bin o a b, ρ => by have h1 := tame_ev hG a ρ; have h2 := tame_ev hG b ρ; simp only [ev]; repeat' (first | with_reducible assumption | with_reducible exact tame_ret | with_reducible exact tame_fail | with_reducible exact tame_opt | with_reducible exact tame_look | with_reducible refine Tame.bnd ?_ fun _ => ?_ | split)
  | .cmp o a b, ρ => by have h1 := tame_ev hG a ρ; have h2 := tame_ev hG b ρ; simp only [ev]; repeat' (first | with_reducible assumption | with_reducible exact tame_ret | with_reducible exact tame_fail | with_reducible exact tame_opt | with_reducible exact tame_look | with_reducible refine Tame.bnd ?_ fun _ => ?_ | split)
  | .isN neg a, ρ => by have h1 := tame_ev hG a ρ; simp only [ev]; exact h1.bnd fun _ => tame_ret
  | .chain o p a b c, ρ => by have h1 := tame_ev hG a ρ; have h2 := tame_ev hG b ρ; have h3 := tame_ev hG c ρ; simp only [ev]; repeat' (first | with_reducible assumption | with_reducible exact tame_ret | with_reducible exact tame_fail | with_reducible exact tame_opt | with_reducible exact tame_look | with_reducible refine Tame.bnd ?_ fun _ => ?_ | split)
  | .ite c a b, ρ => by have h1 := tame_ev hG a ρ; have h2 := tame_ev hG b ρ; have h3 := tame_ev hG c ρ; simp only [ev]; repeat' (first | with_reducible assumption | with_reducible exact tame_ret | with_reducible exact tame_fail | with_reducible exact tame_opt | with_reducible exact tame_look | with_reducible refine Tame.bnd ?_ fun _ => ?_ | split)
  | .isa a ts, ρ => by have h1 := tame_ev hG a ρ; simp only [ev]; repeat' (first | with_reducible assumption | with_reducible exact tame_ret | with_reducible exact tame_fail | with_reducible exact tame_opt | with_reducible exact tame_look | with_reducible refine Tame.bnd ?_ fun _ => ?_ | split)
  | .idx a b, ρ => by have h1 := tame_ev hG a ρ; have h2 := tame_ev hG b ρ; simp only [ev]; repeat' (first | with_reducible assumption | with_reducible exact tame_ret | with_reducible exact tame_fail | with_reducible exact tame_opt | with_reducible exact tame_look | with_reducible refine Tame.bnd ?_ fun _ => ?_ | split)
  | .slice a lo hi, ρ => by have h1 := tame_ev hG a ρ; have h2 := tame_evO hG lo ρ; have h3 := tame_evO hG hi ρ; simp only [ev]; repeat' (first | with_reducible assumption | with_reducible exact tame_ret | with_reducible exact tame_fail | with_reducible exact tame_opt | with_reducible exact tame_look | with_reducible refine Tame.bnd ?_ fun _ => ?_ | split)
  | .tup es, ρ => by have h1 := tame_evs hG es ρ; simp only [ev]; repeat' (first | with_reducible assumption | with_reducible exact tame_ret | with_reducible exact tame_fail | with_reducible exact tame_opt | with_reducible exact tame_look | with_reducible refine Tame.bnd ?_ fun _ => ?_ | split)
  | .lst es, ρ => by have h1 := tame_evs hG es ρ; simp only [ev]; repeat' (first | with_reducible assumption | with_reducible exact tame_ret | with_reducible exact tame_fail | with_reducible exact tame_opt | with_reducible exact tame_look | with_reducible refine Tame.bnd ?_ fun _ => ?_ | split)
  | .blt b es, ρ => by have h1 := tame_evs hG es ρ; simp only [ev]; repeat' (first | with_reducible assumption | with_reducible exact tame_ret | with_reducible exact tame_fail | with_reducible exact tame_opt | with_reducible exact tame_look | with_reducible refine Tame.bnd ?_ fun _ => ?_ | split)
  | .call f es, ρ => by
    have h1 := tame_evs hG es ρ
    simp only [ev]
    split
    · exact h1.bnd fun l => hG f l
    · exact tame_fail
  | .lc tg it c e, ρ => by
    have h1 := tame_evI hG it ρ
    have h2 := fun ρ => tame_evO hG c ρ
    have h3 := fun ρ => tame_ev hG e ρ
    simp only [ev]
    exact h1.bnd fun l => (tame_mapL (fun x => tame_lcF h2 fun ρ => tame_str (h3 ρ)) l).bnd fun r => tame_ret
  | .dc tg it k v, ρ => by
    have h1 := tame_evI hG it ρ
    have h2 := fun ρ => tame_ev hG k ρ
    have h3 := fun ρ => tame_ev hG v ρ
    simp only [ev]
    exact h1.bnd fun l => (tame_foldD (fun x => tame_dcF h2 fun ρ => tame_str (h3 ρ)) l []).bnd fun r => tame_ret
  | .cel e, ρ => by have h1 := tame_ev hG e ρ; simp only [ev]; exact h1.bnd fun _ => tame_newC
  | .sset e, ρ => by have h1 := tame_ev hG e ρ; simp only [ev]; repeat' (first | with_reducible assumption | with_reducible exact tame_ret | with_reducible exact tame_fail | with_reducible exact tame_opt | with_reducible exact tame_look | with_reducible refine Tame.bnd ?_ fun _ => ?_ | split)
  | .ext o e, ρ => by have h1 := tame_ev hG e ρ; simp only [ev]; repeat' (first | with_reducible assumption | with_reducible exact tame_ret | with_reducible exact tame_fail | with_reducible exact tame_opt | with_reducible exact tame_look | with_reducible refine Tame.bnd ?_ fun _ => ?_ | split)
  | .met m o a, ρ => by have h1 := tame_ev hG o ρ; have h2 := tame_ev hG a ρ; simp only [ev]; repeat' (first | with_reducible assumption | with_reducible exact tame_ret | with_reducible exact tame_fail | with_reducible exact tame_opt | with_reducible exact tame_look | with_reducible refine Tame.bnd ?_ fun _ => ?_ | split)
theorem tame_evs (hG : ∀ f l, Tame (G.fn f l)) : ∀ (es : Exs) (ρ : Env), Tame (evs G es ρ)
  | .nil, ρ => by simp only [evs]; repeat' (first | with_reducible assumption | with_reducible exact tame_ret | with_reducible exact tame_fail | with_reducible exact tame_opt | with_reducible exact tame_look | with_reducible refine Tame.bnd ?_ fun _ => ?_ | split)
  | .cons e es, ρ => by have h1 := tame_ev hG e ρ; have h2 := tame_evs hG es ρ; simp only [evs]; repeat' (first | with_reducible assumption | with_reducible exact tame_ret | with_reducible exact tame_fail | with_reducible exact tame_opt | with_reducible exact tame_look | with_reducible refine Tame.bnd ?_ fun _ => ?_ | split)
theorem tame_and (hG : ∀ f l, Tame (G.fn f l)) : ∀ (es : Exs) (ρ : Env), Tame (evAnd G es ρ)
  | .nil, ρ => by simp only [evAnd]; repeat' (first | with_reducible assumption | with_reducible exact tame_ret | with_reducible exact tame_fail | with_reducible exact tame_opt | with_reducible exact tame_look | with_reducible refine Tame.bnd ?_ fun _ => ?_ | split)
  | .cons e .nil, ρ => by have h1 := tame_ev hG e ρ; simp only [evAnd]; repeat' (first | with_reducible assumption | with_reducible exact tame_ret | with_reducible exact tame_fail | with_reducible exact tame_opt | with_reducible exact tame_look | with_reducible refine Tame.bnd ?_ fun _ => ?_ | split)
  | .cons e (.cons f es), ρ => by have h1 := tame_ev hG e ρ; have h2 := tame_and hG (.cons f es) ρ; simp only [evAnd]; repeat' (first | with_reducible assumption | with_reducible exact tame_ret | with_reducible exact tame_fail | with_reducible exact tame_opt | with_reducible exact tame_look | with_reducible refine Tame.bnd ?_ fun _ => ?_ | split)
theorem tame_or (hG : ∀ f l, Tame (G.fn f l)) : ∀ (es : Exs) (ρ : Env), Tame (evOr G es ρ)
  | .nil, ρ => by simp only [evOr]; repeat' (first | with_reducible assumption | with_reducible exact tame_ret | with_reducible exact tame_fail | with_reducible exact tame_opt | with_reducible exact tame_look | with_reducible refine Tame.bnd ?_ fun _ => ?_ | split)
  | .cons e .nil, ρ => by have h1 := tame_ev hG e ρ; simp only [evOr]; repeat' (first | with_reducible assumption | with_reducible exact tame_ret | with_reducible exact tame_fail | with_reducible exact tame_opt | with_reducible exact tame_look | with_reducible refine Tame.bnd ?_ fun _ => ?_ | split)
  | .cons e (.cons f es), ρ => by have h1 := tame_ev hG e ρ; have h2 := tame_or hG (.cons f es) ρ; simp only [evOr]; repeat' (first | with_reducible assumption | with_reducible exact tame_ret | with_reducible exact tame_fail | with_reducible exact tame_opt | with_reducible exact tame_look | with_reducible refine Tame.bnd ?_ fun _ => ?_ | split)
theorem tame_evO (hG : ∀ f l, Tame (G.fn f l)) : ∀ (o : Oe) (ρ : Env), Tame (evO G o ρ)
  | .none, ρ => by simp only [evO]; repeat' (first | with_reducible assumption | with_reducible exact tame_ret | with_reducible exact tame_fail | with_reducible exact tame_opt | with_reducible exact tame_look | with_reducible refine Tame.bnd ?_ fun _ => ?_ | split)
  | .some e, ρ => by have h1 := tame_ev hG e ρ; simp only [evO]; repeat' (first | with_reducible assumption | with_reducible exact tame_ret | with_reducible exact tame_fail | with_reducible exact tame_opt | with_reducible exact tame_look | with_reducible refine Tame.bnd ?_ fun _ => ?_ | split)
theorem tame_evI (hG : ∀ f l, Tame (G.fn f l)) : ∀ (it : Itr) (ρ : Env), Tame (evI G it ρ)
  | .seq e, ρ => by have h1 := tame_ev hG e ρ; simp only [evI]; repeat' (first | with_reducible assumption | with_reducible exact tame_ret | with_reducible exact tame_fail | with_reducible exact tame_opt | with_reducible exact tame_look | with_reducible refine Tame.bnd ?_ fun _ => ?_ | split)
  | .rng1 a, ρ => by have h1 := tame_ev hG a ρ; simp only [evI]; repeat' (first | with_reducible assumption | with_reducible exact tame_ret | with_reducible exact tame_fail | with_reducible exact tame_opt | with_reducible exact tame_look | with_reducible refine Tame.bnd ?_ fun _ => ?_ | split)
  | .rng2 a b, ρ => by have h1 := tame_ev hG a ρ; have h2 := tame_ev hG b ρ; simp only [evI]; repeat' (first | with_reducible assumption | with_reducible exact tame_ret | with_reducible exact tame_fail | with_reducible exact tame_opt | with_reducible exact tame_look | with_reducible refine Tame.bnd ?_ fun _ => ?_ | split)
  | .enum a, ρ => by have h1 := tame_ev hG a ρ; simp only [evI]; repeat' (first | with_reducible assumption | with_reducible exact tame_ret | with_reducible exact tame_fail | with_reducible exact tame_opt | with_reducible exact tame_look | with_reducible refine Tame.bnd ?_ fun _ => ?_ | split)
  | .zip2 a b, ρ => by have h1 := tame_ev hG a ρ; have h2 := tame_ev hG b ρ; simp only [evI]; repeat' (first | with_reducible assumption | with_reducible exact tame_ret | with_reducible exact tame_fail | with_reducible exact tame_opt | with_reducible exact tame_look | with_reducible refine Tame.bnd ?_ fun _ => ?_ | split)
  | .zip3 a b c, ρ => by have h1 := tame_ev hG a ρ; have h2 := tame_ev hG b ρ; have h3 := tame_ev hG c ρ; simp only [evI]; repeat' (first | with_reducible assumption | with_reducible exact tame_ret | with_reducible exact tame_fail | with_reducible exact tame_opt | with_reducible exact tame_look | with_reducible refine Tame.bnd ?_ fun _ => ?_ | split)
end
/-! ### statements -/
theorem tame_forL {f : T → Env → M (Env × Fl)} (h : ∀ x ρ, Tame (f x ρ)) : ∀ l ρ, Tame (forL f l ρ)
  | [], ρ => tame_ret
  | x :: xs, ρ => by
    unfold forL
    refine (h x ρ).bnd fun r => ?_
    split
    · exact tame_forL h xs _
    · exact tame_forL h xs _
    · exact tame_ret
    · exact tame_ret
theorem tame_whL {c : Env → M T} {b : Env → M (Env × Fl)} (hc : ∀ ρ, Tame (c ρ)) (hb : ∀ ρ, Tame (b ρ)) : ∀ n ρ, Tame (whL c b n ρ)
  | 0, ρ => tame_fail
  | n + 1, ρ => by
    unfold whL
    refine (hc ρ).bnd fun x => ?_
    split
    · refine (hb ρ).bnd fun r => ?_
      split
      · exact tame_whL hc hb n _
      · exact tame_whL hc hb n _
      · exact tame_ret
      · exact tame_ret
    · exact tame_ret
    · exact tame_fail
theorem tame_forF {tg : Tg} {b : Env → M (Env × Fl)} (h : ∀ ρ, Tame (b ρ)) (x : T) (ρ : Env) : Tame (forF tg b x ρ) := by
  unfold forF
  split
  · exact h _
  · exact tame_fail
theorem tame_sameC {n : Nat} {l : List T} : Tame (sameC n l) := fun S b S' e => by
  unfold sameC at e
  split at e
  · cases e; exact .refl _
  · cases e
theorem tame_cellL {x : T} : Tame (cellL x) := fun S b S' e => by
  unfold cellL at e
  split at e
  · split at e
    · cases e; exact .refl _
    · cases e
  · cases e
theorem tame_appL {x v : T} : Tame (appL x v) := fun S b S' e => by
  unfold appL at e
  split at e
  · split at e
    · rename_i h
      split at e
      · cases e; exact .set h
      · cases e
    · cases e
  · cases e
theorem tame_putC {o i v : T} : Tame (putC o i v) := fun S b S' e => by
  unfold putC at e
  split at e
  · split at e
    · rename_i h
      split at e
      · split at e
        · cases e; exact .set h
        · cases e
      · cases e
    · cases e
  · cases e
theorem tame_forLC {n : Nat} {l : List T} {f : T → Env → M (Env × Fl)} (h : ∀ x ρ, Tame (f x ρ)) : ∀ xs ρ, Tame (forLC n l f xs ρ)
  | [], ρ => by unfold forLC; exact tame_sameC.bnd fun _ => tame_ret
  | x :: xs, ρ => by
    unfold forLC
    refine tame_sameC.bnd fun _ => (h x ρ).bnd fun r => ?_
    split
    · exact tame_forLC h xs _
    · exact tame_forLC h xs _
    · exact tame_ret
    · exact tame_ret
theorem tame_andThen {m : M (Env × Fl)} {k : Env → M (Env × Fl)} (h : Tame m) (hk : ∀ ρ, Tame (k ρ)) : Tame (andThen m k) := by
  unfold andThen
  refine h.bnd fun r => ?_
  split
  · exact hk _
  · exact tame_ret
mutual
theorem tame_ex (hG : ∀ f l, Tame (G.fn f l)) : ∀ (s : St) (ρ : Env), Tame (ex G s ρ)
  | .set i e, ρ => by have h1 := tame_str (b := e.strict) (tame_ev hG e ρ); simp only [ex]; repeat' (first | with_reducible assumption | with_reducible exact tame_ret | with_reducible exact tame_fail | with_reducible exact tame_opt | with_reducible exact tame_look | with_reducible refine Tame.bnd ?_ fun _ => ?_ | split)
  | .own i e, ρ => by have h1 := tame_str (b := newE e) (tame_ev hG e ρ); simp only [ex]; repeat' (first | with_reducible assumption | with_reducible exact tame_ret | with_reducible exact tame_fail | with_reducible exact tame_opt | with_reducible exact tame_look | with_reducible refine Tame.bnd ?_ fun _ => ?_ | split)
  | .unp is e, ρ => by have h1 := tame_str (b := e.strict) (tame_ev hG e ρ); simp only [ex]; repeat' (first | with_reducible assumption | with_reducible exact tame_ret | with_reducible exact tame_fail | with_reducible exact tame_opt | with_reducible exact tame_look | with_reducible refine Tame.bnd ?_ fun _ => ?_ | split)
  | .par is es, ρ => by have h1 := tame_str (b := strictAll es) (tame_evs hG es ρ); simp only [ex]; repeat' (first | with_reducible assumption | with_reducible exact tame_ret | with_reducible exact tame_fail | with_reducible exact tame_opt | with_reducible exact tame_look | with_reducible refine Tame.bnd ?_ fun _ => ?_ | split)
  | .put o i e, ρ => by
    have h1 := tame_str (b := e.strict) (tame_ev hG e ρ); have h2 := tame_ev hG o ρ; have h3 := tame_ev hG i ρ
    simp only [ex]
    exact h1.bnd fun _ => h2.bnd fun _ => h3.bnd fun _ => tame_putC.bnd fun _ => tame_ret
  | .putO j i e, ρ => by have h1 := tame_str (b := e.strict) (tame_ev hG e ρ); have h3 := tame_ev hG i ρ; simp only [ex]; repeat' (first | with_reducible assumption | with_reducible exact tame_ret | with_reducible exact tame_fail | with_reducible exact tame_opt | with_reducible exact tame_look | with_reducible refine Tame.bnd ?_ fun _ => ?_ | split)
  | .swapO j a b e f, ρ => by
    have h1 := tame_str (b := e.strict) (tame_ev hG e ρ); have h2 := tame_str (b := f.strict) (tame_ev hG f ρ); have h3 := fun ρ => tame_ev hG a ρ; have h4 := fun ρ => tame_ev hG b ρ
    simp only [ex]
    refine h1.bnd fun _ => h2.bnd fun _ => ?_
    split
    · refine (h3 _).bnd fun _ => ?_
      split
      · split
        · refine (h4 _).bnd fun _ => ?_
          repeat' (first | with_reducible assumption | with_reducible exact tame_ret | with_reducible exact tame_fail | with_reducible exact tame_opt | with_reducible exact tame_look | with_reducible refine Tame.bnd ?_ fun _ => ?_ | split)
        · exact tame_fail
      · exact tame_fail
    · exact tame_fail
  | .aug i o e, ρ => by have h1 := tame_ev hG e ρ; simp only [ex]; repeat' (first | with_reducible assumption | with_reducible exact tame_ret | with_reducible exact tame_fail | with_reducible exact tame_opt | with_reducible exact tame_look | with_reducible refine Tame.bnd ?_ fun _ => ?_ | split)
  | .app i e, ρ => by have h1 := tame_str (b := e.strict) (tame_ev hG e ρ); simp only [ex]; repeat' (first | with_reducible assumption | with_reducible exact tame_ret | with_reducible exact tame_fail | with_reducible exact tame_opt | with_reducible exact tame_look | with_reducible refine Tame.bnd ?_ fun _ => ?_ | split)
  | .expr e, ρ => by have h1 := tame_ev hG e ρ; simp only [ex]; repeat' (first | with_reducible assumption | with_reducible exact tame_ret | with_reducible exact tame_fail | with_reducible exact tame_opt | with_reducible exact tame_look | with_reducible refine Tame.bnd ?_ fun _ => ?_ | split)
  | .ret e, ρ => by have h1 := tame_str (b := e.strict) (tame_ev hG e ρ); simp only [ex]; repeat' (first | with_reducible assumption | with_reducible exact tame_ret | with_reducible exact tame_fail | with_reducible exact tame_opt | with_reducible exact tame_look | with_reducible refine Tame.bnd ?_ fun _ => ?_ | split)
  | .retN, ρ => by simp only [ex]; repeat' (first | with_reducible assumption | with_reducible exact tame_ret | with_reducible exact tame_fail | with_reducible exact tame_opt | with_reducible exact tame_look | with_reducible refine Tame.bnd ?_ fun _ => ?_ | split)
  | .pass, ρ => by simp only [ex]; repeat' (first | with_reducible assumption | with_reducible exact tame_ret | with_reducible exact tame_fail | with_reducible exact tame_opt | with_reducible exact tame_look | with_reducible refine Tame.bnd ?_ fun _ => ?_ | split)
  | .brk, ρ => by simp only [ex]; repeat' (first | with_reducible assumption | with_reducible exact tame_ret | with_reducible exact tame_fail | with_reducible exact tame_opt | with_reducible exact tame_look | with_reducible refine Tame.bnd ?_ fun _ => ?_ | split)
  | .cont, ρ => by simp only [ex]; repeat' (first | with_reducible assumption | with_reducible exact tame_ret | with_reducible exact tame_fail | with_reducible exact tame_opt | with_reducible exact tame_look | with_reducible refine Tame.bnd ?_ fun _ => ?_ | split)
  | .ite c a b, ρ => by have h1 := tame_ev hG c ρ; have h2 := tame_exs hG a ρ; have h3 := tame_exs hG b ρ; simp only [ex]; repeat' (first | with_reducible assumption | with_reducible exact tame_ret | with_reducible exact tame_fail | with_reducible exact tame_opt | with_reducible exact tame_look | with_reducible refine Tame.bnd ?_ fun _ => ?_ | split)
  | .forr tg it b, ρ => by
    have h1 := tame_str (b := it.strict) (tame_evI hG it ρ); have h2 := fun ρ => tame_exs hG b ρ
    simp only [ex]
    exact h1.bnd fun l => tame_forL (tame_forF h2) l ρ
  | .whl c b, ρ => by
    have h1 := fun ρ => tame_ev hG c ρ; have h2 := fun ρ => tame_exs hG b ρ
    simp only [ex]
    exact tame_whL h1 h2 _ ρ
  | .frz i, ρ => by simp only [ex]; repeat' (first | with_reducible assumption | with_reducible exact tame_ret | with_reducible exact tame_fail | with_reducible exact tame_opt | with_reducible exact tame_look | with_reducible refine Tame.bnd ?_ fun _ => ?_ | split)
  | .ins i a b, ρ => by have h1 := tame_ev hG a ρ; have h2 := tame_str (b := b.strict) (tame_ev hG b ρ); simp only [ex]; repeat' (first | with_reducible assumption | with_reducible exact tame_ret | with_reducible exact tame_fail | with_reducible exact tame_opt | with_reducible exact tame_look | with_reducible refine Tame.bnd ?_ fun _ => ?_ | split)
  | .any, ρ => by simp only [ex]; repeat' (first | with_reducible assumption | with_reducible exact tame_ret | with_reducible exact tame_fail | with_reducible exact tame_opt | with_reducible exact tame_look | with_reducible refine Tame.bnd ?_ fun _ => ?_ | split)
  | .forC tg e b, ρ => by
    have h1 := tame_ev hG e ρ; have h2 := fun ρ => tame_exs hG b ρ
    simp only [ex]
    exact h1.bnd fun x => tame_cellL.bnd fun p => tame_forLC (tame_forF h2) _ ρ
  | .appC i e, ρ => by
    have h1 := tame_str (b := e.strict) (tame_ev hG e ρ)
    simp only [ex]
    split
    · exact tame_cellL.bnd fun _ => h1.bnd fun _ => tame_appL.bnd fun _ => tame_ret
    · exact tame_fail
theorem tame_exs (hG : ∀ f l, Tame (G.fn f l)) : ∀ (ss : Sts) (ρ : Env), Tame (exs G ss ρ)
  | .nil, ρ => by simp only [exs]; repeat' (first | with_reducible assumption | with_reducible exact tame_ret | with_reducible exact tame_fail | with_reducible exact tame_opt | with_reducible exact tame_look | with_reducible refine Tame.bnd ?_ fun _ => ?_ | split)
  | .cons s ss, ρ => by
    have h1 := tame_ex hG s ρ; have h2 := fun ρ => tame_exs hG ss ρ
    simp only [exs]
    exact tame_andThen h1 h2
end
end
theorem tame_callK {cst : Str → Option T} {fuel : Nat} {ds : List Dn} : ∀ (k : Nat) (f : Str) (ts : List T), Tame (callK cst fuel ds k f ts)
  | 0, _, _ => tame_fail
  | k + 1, f, ts => by
    unfold callK
    split
    · unfold runB
      split
      · refine (tame_exs (fun f l => tame_callK k f l) _ _).bnd fun r => ?_
        repeat' (first | with_reducible assumption | with_reducible exact tame_ret | with_reducible exact tame_fail | with_reducible exact tame_opt | with_reducible exact tame_look | with_reducible refine Tame.bnd ?_ fun _ => ?_ | split)
      · exact tame_fail
    · exact tame_fail
/-- the table of this def's lambdas is among the cells -/
def TabIn (ds : List Dn) (f : Str) (S : Store) : Prop := ∃ P, tabOf ds f = some P ∧ Cell.tbl P (f ++ (".<locals>." : Str) ++ ("<lambda>" : Str)) ∈ S
theorem TabIn.keeps {ds : List Dn} {f : Str} {S S' : Store} (h : TabIn ds f S) (k : Keeps S S') : TabIn ds f S' := by
  obtain ⟨P, e, m⟩ := h
  exact ⟨P, e, k _ _ m⟩
theorem y_keeps {cst : Str → Option T} {fuel : Nat} {ds : List Dn} {k : Nat} {f : Str} {ts : List T} {S : Store} {P : T → Store → Prop} (h : Y (callK cst fuel ds k f ts S) P) : Y (callK cst fuel ds k f ts S) fun t S' => P t S' ∧ Keeps S S' := by
  obtain ⟨a, S', e, p⟩ := h
  exact ⟨a, S', e, p, tame_callK k f ts _ _ _ e⟩
theorem TabIn.op {cst : Str → Option T} {fuel : Nat} {ds : List Dn} {k : Nat} {f : Str} {S : Store} (h : TabIn ds f S) : opOk (gl cst fuel ds k f) S .slen = true := by
  obtain ⟨P, e, m⟩ := h
  show lamCell _ S = true
  unfold lamCell
  rw [show (gl cst fuel ds k f).tab = some P from e]
  exact List.any_eq_true.mpr ⟨_, m, by simp [gl]⟩
end RD

/-! lots, called_off -/
namespace RD
open PySem
/-- texts in order -/
def sortN (zs : List Str) : List Str := zs.mergeSort (W.dataLe false PyData.str)
theorem sortN_perm (zs : List Str) : (sortN zs).Perm zs := List.mergeSort_perm _ _
theorem sort_names {zs : List Str} (h : zs.length ≤ 1000) : sortT (strsL zs) = some (strsL (sortN zs)) := by
  have td : T.toDs (strsL zs) = some (zs.map PyData.str) := by
    clear h
    induction zs with
    | nil => rfl
    | cons z zs ih => simp only [strsL, List.map_cons, T.toDs, T.toD]; rw [show T.toDs (zs.map T.str) = _ from ih]
  have ok : srtB (zs.map PyData.str) = true := by
    simp only [srtB, Bool.and_eq_true, Bool.or_eq_true, List.all_eq_true, List.mem_map, decide_eq_true_eq]
    refine ⟨⟨?_, .inr ?_⟩, ?_⟩
    · rintro _ ⟨p, _, rfl⟩ _ ⟨q, _, rfl⟩
      simp [W.alike]
    · rintro _ ⟨p, _, rfl⟩
      rfl
    · rintro _ ⟨p, _, rfl⟩
      simp [PyData.depth]
  have hl : (strsL zs).length ≤ lim := by simp only [strsL, List.length_map]; exact Nat.le_trans h (by decide)
  unfold sortT
  rw [td]
  simp only [ok, true_and, if_pos hl]
  show some ((zs.map T.str).mergeSort (W.dataLe false encT)) = some ((zs.mergeSort (W.dataLe false PyData.str)).map T.str)
  exact congrArg some (List.map_mergeSort (f := T.str) (r := W.dataLe false PyData.str) (s := W.dataLe false encT) fun a _ b _ => rfl).symm
@[simp] theorem view_lot {S : Store} {l : List Str} : view S (lotT l) = some (lotT l) := rfl
theorem lotT_eq (l : List Str) : lotT l = .tup (strsL l) := rfl
theorem rows_lots : ∀ ls : List (List Str), rowsS (ls.map lotT) = some ls
  | [] => rfl
  | l :: ls => by
    show (match strsT (strsL l), rowsS (ls.map lotT) with | some b, some bs => some (b :: bs) | _, _ => none) = _
    rw [strsT_strs, rows_lots ls]
section
variable {cst : Str → Option T} {fuel : Nat} {ds : List Dn} {S : Store} {cs : List Cs} {pn : List Pn} {m : Nat}
theorem ext_slen {k : Nat} {f : Str} {ls : List (List Str)} (h : TabIn ds f S) (h1 : ls.length ≤ 100000) (h2 : ∀ b ∈ ls, b.length ≤ 100000) : extT (gl cst fuel ds k f) S .slen (.lst (ls.map lotT)) = some (.lst ((sortL ls).map lotT)) := by
  unfold extT
  rw [if_pos h.op]
  simp only [xopT, rows_lots]
  rw [if_pos ⟨h1, h2⟩]
  rfl
def lotG (x : Str) (t : T) : T := match t with
  | .tup l => .tup (l ++ [.str x])
  | _ => .non
def LtsJ (ns : List Str) (S : Store) (i : Nat) (ρ : Env) (S' : Store) : Prop := ∃ s2 s3, ρ = [.val (.lst (strsL ns)), .val (.lst ((subs (ns.take i)).map lotT)), s2, s3] ∧ S' = S
theorem lots_slen (h : Has ds d_lots) (ht : TabIn ds "lots" S) {ns : List Str} (hn : ns.length ≤ 10) (k : Nat) :
    Y (callK cst fuel ds (k + 1) "lots" [.lst (strsL ns)] S) fun t S' => t = .lst ((sortL (subs ns)).map lotT) ∧ S' = S := by
  refine y_callK h rfl ?_
  simp [d_lots, startE]
  (try simp [forF, bindTg, setAll, getV, getO, getP, Ex.strict, strictAll, newE, Itr.strict])
  repeat (refine y_go ?_; simp [forF, bindTg, setAll, getV, getO, getP, Ex.strict, strictAll, newE, Itr.strict])
  have two : ∀ j, j ≤ 10 → 2 ^ j ≤ 1024 := fun j hj => Nat.pow_le_pow_right (by decide) hj
  have short : ∀ i, ∀ l ∈ subs (ns.take i), l.length ≤ 10 := fun i l hl => by
    have h1 := (subs_in hl).length_le
    have h2 := List.length_take_le' i ns
    omega
  refine y_forI (LtsJ ns S) ?_ ?_ ⟨_, _, rfl, rfl⟩
  · rintro i x ρ S1 hx ⟨s2, s3, rfl, rfl⟩
    unfold strsL at hx
    rw [List.getElem?_map, Option.map_eq_some_iff] at hx
    obtain ⟨a, ha, rfl⟩ := hx
    have stp : ns.take (i + 1) = ns.take i ++ [a] := by rw [List.take_add_one, ha]; rfl
    have len : (subs (ns.take i)).length ≤ 1024 := by rw [subs_len]; exact two _ (by have := List.length_take_le' i ns; omega)
    have sh := short i
    (try simp [forF, bindTg, setAll, getV, getO, getP, Ex.strict, strictAll, newE, Itr.strict])
    repeat (refine y_go ?_; simp [forF, bindTg, setAll, getV, getO, getP, Ex.strict, strictAll, newE, Itr.strict])
    refine y_mapLx (g := fun t => [lotG a t]) (fun x hx => ?_) ?_
    · obtain ⟨l, hl, rfl⟩ := List.mem_map.mp hx
      simp [lcF, bindTg, setAll, Tg.slots, wipeE, condT, getV, getP, Ex.strict, strictAll, lotT, lotG]
      exact Nat.le_trans (show _ ≤ 11 by have := sh l hl; simp; omega) (by decide)
    · have e1 : ((subs (ns.take i)).map lotT).flatMap (fun t => [lotG a t]) = ((subs (ns.take i)).map fun l => l ++ [a]).map lotT := by
        rw [map1, List.map_map]
        exact List.map_congr_left fun l _ => by simp [lotT, lotG]
      rw [e1]
      refine ⟨Nat.le_trans (show _ ≤ 2048 by simp; omega) (by decide), .val (.str a), s3, ?_, rfl⟩
      rw [stp, subs_snoc, List.map_append]
  · rintro ρ S1 ⟨s2, s3, rfl, rfl⟩
    (try simp [forF, bindTg, setAll, getV, getO, getP, Ex.strict, strictAll, newE, Itr.strict])
    repeat (refine y_go ?_; simp [forF, bindTg, setAll, getV, getO, getP, Ex.strict, strictAll, newE, Itr.strict])
    have e1 : ns.take (strsL ns).length = ns := by simp [strsL]
    rw [e1]
    have len : (subs ns).length ≤ 1024 := by rw [subs_len]; exact two _ hn
    exact ext_slen ht (by omega) fun b hb => by
      have := short ns.length b (by simpa using hb)
      omega
/-- the lot of names that are called off -/
def restOf (pn : List Pn) (l : List Str) : List Pn := pn.filter fun p => !(l.any fun y => y == p.name)
def enough (cs : List Cs) (pn : List Pn) (m : Nat) (minute : Int) (l : List Str) : Bool := decide (lastM cs (restOf pn l) m ≤ minute)
def namesM (pn : List Pn) : List Str := sortN (pn.map (·.name))
def offM (cs : List Cs) (pn : List Pn) (m : Nat) (minute : Int) : List Str := (((sortL (subs (namesM pn))).find? (enough cs pn m minute)).getD [])
def nm1G (t : T) : T := match t with
  | .tup [_, .str x, _] => .str x
  | _ => .non
theorem nm1_map (pn : List Pn) : ((pn.map pT).flatMap fun t => [nm1G t]) = strsL (pn.map (·.name)) := by
  rw [map1]
  simp only [strsL, List.map_map]
  exact List.map_congr_left fun p _ => rfl
def rsG (l : List Str) (t : T) : List T := match t with
  | .tup [_, .str x, _] => if (l.any fun y => y == x) = true then [] else [t]
  | _ => []
theorem rest_map (l : List Str) (pn : List Pn) : ((pn.map pT).flatMap fun t => rsG l t) = (restOf pn l).map pT := by
  induction pn with
  | nil => rfl
  | cons p pn ih =>
    simp only [List.map_cons, List.flatMap_cons, ih, restOf, List.filter_cons]
    cases e : l.any fun y => y == p.name <;> simp [rsG, pT, e]
theorem Good.rest (G : Good cs pn) (l : List Str) : Good cs (restOf pn l) :=
  ⟨G.tm, fun p hp => G.nm p (List.mem_filter.mp hp).1, fun p hp => G.lk p (List.mem_filter.mp hp).1, Nat.le_trans (List.length_filter_le _ _) G.len⟩
theorem lots_pl {pn : List Pn} (h : ∀ p ∈ pn, pl (.str p.name) = true) {l : List Str} (hl : l ∈ subs (namesM pn)) : ∀ z ∈ l, pl (.str z) = true := fun z hz => by
  have h1 := (subs_in hl).subset hz
  have h2 := (sortN_perm _).mem_iff.mp h1
  obtain ⟨p, hp, rfl⟩ := List.mem_map.mp h2
  exact h p hp
theorem in_lot {p : Pn} {l : List Str} (h1 : pl (.str p.name) = true) (h2 : ∀ z ∈ l, pl (.str z) = true) : inT (.str p.name) (lotT l) = some (l.any fun y => y == p.name) := in_strs h1 h2
theorem find_at {α : Type} {p : α → Bool} : ∀ {l : List α} {i : Nat} {a : α}, l[i]? = some a → p a = true → (∀ j, j < i → ∀ x, l[j]? = some x → p x = false) → l.find? p = some a
  | [], _, _, h, _, _ => by cases h
  | x :: l, 0, a, h, ha, _ => by cases h; exact List.find?_cons_of_pos ha
  | x :: l, i + 1, a, h, ha, hb => by
    have h0 := hb 0 (by omega) x rfl
    rw [List.find?_cons_of_neg (by rw [h0]; exact fun z => by cases z)]
    exact find_at (l := l) (i := i) h ha fun j hj y hy => hb (j + 1) (by omega) y hy
theorem find_no {α : Type} {p : α → Bool} {l : List α} (h : ∀ j, j < l.length → ∀ x, l[j]? = some x → p x = false) : l.find? p = none := by
  rw [List.find?_eq_none]
  intro x hx
  obtain ⟨j, hj⟩ := List.getElem?_of_mem hx
  rw [h j (List.getElem?_eq_some_iff.mp hj).1 x hj]
  exact fun z => by cases z
def OffJ (cs : List Cs) (pn : List Pn) (m : Nat) (minute : Int) (S : Store) (i : Nat) (ρ : Env) (S' : Store) : Prop := ∃ s4 s5 s6, ρ = [.val (.tup (cs.map cT)), .val (.tup (pn.map pT)), .val (.int (m : Int)), .val (.int minute), s4, s5, s6] ∧ S' = S ∧ ∀ j, j < i → ∀ l, (sortL (subs (namesM pn)))[j]? = some l → enough cs pn m minute l = false
theorem called_off_spec (h : Has ds d_called_off) (hlo : Has ds d_lots) (hle : Has ds d_last_end) (hla : Has ds d_latest) (H2 : HasT ds) (G : Good cs pn) (hm0 : m ≤ 100) (ht : TabIn ds "lots" S) (hn : pn.length ≤ 10) (hnm : ∀ p ∈ pn, pl (.str p.name) = true) {minute : Int} (k : Nat) :
    Y (callK cst fuel ds (k + 6) "called_off" [.tup (cs.map cT), .tup (pn.map pT), .int (m : Int), .int minute] S) fun t S' => t = lotT (offM cs pn m minute) ∧ S' = S := by
  refine y_callK h rfl ?_
  simp [d_called_off, startE]
  (try simp [forF, bindTg, setAll, getV, getO, getP, Ex.strict, strictAll, newE, Itr.strict])
  repeat (refine y_go ?_; simp [forF, bindTg, setAll, getV, getO, getP, Ex.strict, strictAll, newE, Itr.strict])
  refine y_mapLx (g := fun t => [nm1G t]) (fun x hx => ?_) ?_
  · obtain ⟨p, hp, rfl⟩ := List.mem_map.mp hx
    simp [lcF, bindTg, setAll, Tg.slots, wipeE, condT, getV, getP, Ex.strict, strictAll, pT, nm1G]
  rw [nm1_map]
  have hs := sort_names (zs := pn.map (·.name)) (by simp; omega)
  have hln : (namesM pn).length ≤ 10 := by rw [namesM, (sortN_perm _).length_eq]; simpa using hn
  simp [hs]
  refine (lots_slen hlo ht hln _).mono fun t S1 ⟨e, eS⟩ => ?_
  subst e eS
  (try simp [forF, bindTg, setAll, getV, getO, getP, Ex.strict, strictAll, newE, Itr.strict])
  repeat (refine y_go ?_; simp [forF, bindTg, setAll, getV, getO, getP, Ex.strict, strictAll, newE, Itr.strict])
  refine y_forI (OffJ cs pn m minute S1) ?_ ?_ ⟨_, _, _, rfl, rfl, fun j hj => by omega⟩
  · rintro i x ρ S2 hx ⟨s4, s5, s6, rfl, rfl, hno⟩
    rw [List.getElem?_map, Option.map_eq_some_iff] at hx
    obtain ⟨l, hl, rfl⟩ := hx
    have hls : l ∈ subs (namesM pn) := sortL_mem.mp (List.mem_of_getElem? hl)
    have hpl := lots_pl hnm hls
    (try simp [forF, bindTg, setAll, getV, getO, getP, Ex.strict, strictAll, newE, Itr.strict])
    repeat (refine y_go ?_; simp [forF, bindTg, setAll, getV, getO, getP, Ex.strict, strictAll, newE, Itr.strict])
    refine y_mapLx (g := fun t => rsG l t) (fun x hx => ?_) ?_
    · obtain ⟨p, hp, rfl⟩ := List.mem_map.mp hx
      have e := in_lot (hnm p hp) hpl
      cases q : l.any fun y => y == p.name <;> (rw [q] at e; simp [lcF, bindTg, setAll, Tg.slots, wipeE, condT, getV, getP, Ex.strict, strictAll, pT, rsG, e, q])
    rw [rest_map]
    (try simp [forF, bindTg, setAll, getV, getO, getP, Ex.strict, strictAll, newE, Itr.strict])
    repeat (refine y_go ?_; simp [forF, bindTg, setAll, getV, getO, getP, Ex.strict, strictAll, newE, Itr.strict])
    refine (last_end_spec hle hla H2 (G.rest l) hm0 _).mono fun t S3 ⟨e, eS⟩ => ?_
    subst e eS
    (try simp [forF, bindTg, setAll, getV, getO, getP, Ex.strict, strictAll, newE, Itr.strict])
    repeat (refine y_go ?_; simp [forF, bindTg, setAll, getV, getO, getP, Ex.strict, strictAll, newE, Itr.strict])
    by_cases hm : lastM cs (restOf pn l) m ≤ minute
    · refine .inr ⟨hm, ?_⟩
      rw [offM, find_at hl (by simp [enough, hm]) hno]; rfl
    · refine .inl ⟨by omega, _, _, s6, rfl, rfl, fun j hj x hx => ?_⟩
      by_cases e : j = i
      · subst e; rw [hl] at hx; cases hx; simp [enough, hm]
      · exact hno j (by omega) x hx
  · rintro ρ S2 ⟨s4, s5, s6, rfl, rfl, hno⟩
    (try simp [forF, bindTg, setAll, getV, getO, getP, Ex.strict, strictAll, newE, Itr.strict])
    repeat (refine y_go ?_; simp [forF, bindTg, setAll, getV, getO, getP, Ex.strict, strictAll, newE, Itr.strict])
    rw [offM, find_no fun j hj x hx => hno j (by simpa using hj) x hx]; rfl
end
end RD

/-! law k11 -/
namespace RD
open PySem
/-! ### lots in order -/
def lkT (l : List Str) : T := .tup [.int (l.length : Int), lotT l]
theorem toDs_strs : ∀ l : List Str, T.toDs (l.map T.str) = some (l.map PyData.str)
  | [] => rfl
  | a :: l => by simp [T.toDs, T.toD, toDs_strs l]
theorem dps_strs1 : ∀ l : List Str, dps (l.map T.str) = 0
  | [] => by simp [dps]
  | a :: l => by simp [dps, dp, dps_strs1 l]
theorem pls_strs' {l : List Str} (h : ∀ z ∈ l, pl (.str z) = true) : pls (l.map T.str) = true := by
  induction l with
  | nil => rfl
  | cons a l ih => simp only [List.map_cons, pls, Bool.and_eq_true]; exact ⟨h a (by simp), ih fun z hz => h z (by simp [hz])⟩
theorem pl_lot {l : List Str} (h : ∀ z ∈ l, pl (.str z) = true) : pl (lotT l) = true ∧ dp (lotT l) ≤ 1 := by
  refine ⟨by simp only [lotT, pl]; exact pls_strs' h, by simp [lotT, dp, dps_strs1]⟩
theorem shp_lk {l : List Str} (h : ∀ z ∈ l, pl (.str z) = true) : shp (lkT l) = some (keyLL l) := by
  have p := pl_lot h
  rw [shp_of (t := lkT l) (by simp only [lkT, pl, pls, Bool.and_eq_true]; exact ⟨trivial, p.1, trivial⟩) (by simp only [lkT, dp, dps]; have := p.2; omega)]
  simp [encT, lkT, lotT, T.toD, T.toDs, toDs_strs, keyLL]
theorem alike_strs1 : ∀ a b : List Str, W.alikeAll (a.map PyData.str) (b.map PyData.str) = true
  | [], _ => by simp [W.alikeAll]
  | _ :: _, [] => by simp [W.alikeAll]
  | _ :: as, _ :: bs => by simp [W.alikeAll, W.alike, alike_strs1 as bs]
theorem lt_lk {a b : List Str} (ha : ∀ z ∈ a, pl (.str z) = true) (hb : ∀ z ∈ b, pl (.str z) = true) : cmpT .lt (lkT a) (lkT b) = some (ltL a b) := by
  have e1 := shp_lk ha
  have e2 := shp_lk hb
  have al : W.alike (keyLL a) (keyLL b) = true := by simp [keyLL, W.alike, W.alikeAll, alike_strs1]
  have e : cmpT .lt (lkT a) (lkT b) = (match shp (lkT a), shp (lkT b) with
    | some d, some e => if W.alike d e = true then some (W.dataLt d e) else none
    | _, _ => none) := rfl
  rw [e, e1, e2]
  simp only
  rw [if_pos al]
  rfl
theorem law_subs {m : Nat} : ∀ {n : Nat}, n ≤ m → lotsM m n = subs (List.range n)
  | 0, _ => rfl
  | n + 1, h => by
    rw [lotsM, List.range_succ, subs_snoc, law_subs (n := n) (by omega)]
    rw [List.filter_eq_self.mpr fun l hl => by
      have := (subs_in hl).length_le
      simp at this
      exact decide_eq_true (by omega)]
/-! ### how late it can be -/
section
variable {cs : List Cs} {pn : List Pn} {m : Nat} {A B : Int}
theorem ends_bound {bs : List Int} {u l : Int} (hA : 0 ≤ A) (hB : 0 ≤ B) (hb : ∀ b ∈ bs, b ≤ A) (hu : u ≤ B) (hl : l ≤ B) : ∀ n, ∀ e ∈ endsM bs u l n, e ≤ A + B
  | 0, e, h => by cases h
  | n + 1, e, h => by
    have g : ∀ j, bs.getD j 0 ≤ A := fun j => by
      rw [List.getD_eq_getElem?_getD]
      cases q : bs[j]? with
      | none => simpa using hA
      | some b => simpa using hb b (List.mem_of_getElem? q)
    rw [endsM] at h
    rcases List.mem_append.mp h with h | h
    · exact ends_bound hA hB hb hu hl n e h
    · rw [List.mem_singleton.mp h]
      have g1 := g n
      have g2 := g (n - 1)
      unfold mx
      split
      · split <;> omega
      · omega
theorem tab_bound (hA : 0 ≤ A) (hB : 0 ≤ B) (hs : ∀ p ∈ pn, p.start ≤ A ∧ usOf cs p.name ≤ B ∧ loOf cs p.name ≤ B) : ∀ n, n ≤ pn.length → ∀ r ∈ tabM cs pn m n, ∀ e ∈ r.es, e ≤ A + n * B
  | 0, _, r, h, _, _ => by cases h
  | n + 1, hn, r, h, e, he => by
    have nB : (n : Int) * B ≤ ((n + 1 : Nat) : Int) * B := Int.mul_le_mul_of_nonneg_right (by omega) hB
    have nB0 : 0 ≤ (n : Int) * B := Int.mul_nonneg (by omega) hB
    have ih := tab_bound hA hB hs n (by omega)
    rw [tabM] at h
    rcases List.mem_append.mp h with h | h
    · have := ih r h e he; omega
    · rw [List.mem_singleton.mp h] at he
      have hp : pn[n]? = some pn[n] := List.getElem?_eq_getElem (by omega)
      obtain ⟨h1, h2, h3⟩ := hs pn[n] (List.getElem_mem _)
      simp only [rwAt, hp] at he
      have hb : ∀ b ∈ bsAt cs pn m (tabM cs pn m n) n pn[n], b ≤ A + n * B := fun b hb => by
        obtain ⟨c, _, rfl⟩ := List.mem_map.mp hb
        refine fmx_le.mpr ⟨by omega, fun y hy => ?_⟩
        obtain ⟨j, _, rfl⟩ := List.mem_map.mp hy
        unfold eAt
        cases q : (tabM cs pn m n)[j]? with
        | none => simp; omega
        | some w =>
          simp only [Option.map_some, Option.getD_some]
          rw [List.getD_eq_getElem?_getD]
          cases q2 : w.es[c]? with
          | none => simp; omega
          | some z => simpa using ih w (List.mem_of_getElem? q) z (List.mem_of_getElem? q2)
      have := ends_bound (A := A + n * B) (B := B) (by omega) hB hb h2 h3 _ e he
      have e2 : ((n + 1 : Nat) : Int) * B = n * B + B := by push_cast; rw [Int.add_mul]; omega
      omega
theorem last_bound (hA : 0 ≤ A) (hB : 0 ≤ B) (hs : ∀ p ∈ pn, p.start ≤ A ∧ usOf cs p.name ≤ B ∧ loOf cs p.name ≤ B) : 0 ≤ lastM cs pn m ∧ lastM cs pn m ≤ A + pn.length * B := by
  have nB0 : 0 ≤ (pn.length : Int) * B := Int.mul_nonneg (by omega) hB
  refine ⟨fmx_init, fmx_le.mpr ⟨by omega, fun y hy => ?_⟩⟩
  obtain ⟨r, hr, rfl⟩ := List.mem_map.mp hy
  rw [List.getD_eq_getElem?_getD]
  cases q : r.es[m]? with
  | none => simp; omega
  | some z => simpa using tab_bound hA hB hs pn.length (Nat.le_refl _) r hr z (List.mem_of_getElem? q)
theorem okP_bound {r : Int} {ps : List Str} (G : Good cs pn) (hc : ∀ c ∈ cs, OkC r ps c) (hp : ∀ p ∈ pn, OkP cs p) : ∀ p ∈ pn, p.start ≤ 1000 ∧ usOf cs p.name ≤ 400 ∧ loOf cs p.name ≤ 400 := fun p hpm => by
  obtain ⟨c, hcm, _, u, lo⟩ := G.ul hpm
  obtain ⟨_, _, _, _, _, h5⟩ := hp p hpm
  have k := hc c hcm
  have := k.u1
  have := k.l1
  exact ⟨h5, by omega, by omega⟩
end
theorem last_nil {cs : List Cs} {m : Nat} : lastM cs [] m = 0 := rfl
theorem rest_all {pn : List Pn} : restOf pn (namesM pn) = [] := by
  unfold restOf
  rw [List.filter_eq_nil_iff]
  intro p hp z
  have hm : p.name ∈ namesM pn := (sortN_perm _).mem_iff.mpr (List.mem_map.mpr ⟨p, hp, rfl⟩)
  have : ((namesM pn).any fun y => y == p.name) = true := List.any_eq_true.mpr ⟨_, hm, by simp⟩
  rw [this] at z
  cases z
theorem off_best {cs : List Cs} {pn : List Pn} {m : Nat} {minute : Int} (h : 0 ≤ minute) : ∃ b, (subs (namesM pn)).foldl (bestG (enough cs pn m minute)) none = some b ∧ offM cs pn m minute = b ∧ b ∈ subs (namesM pn) := by
  have e := first_least (enough cs pn m minute) (subs (namesM pn))
  cases q : (subs (namesM pn)).foldl (bestG (enough cs pn m minute)) none with
  | none =>
    rw [q, List.find?_eq_none] at e
    have := e (namesM pn) (sortL_mem.mpr (subs_self _))
    exact absurd (by simp [enough, rest_all, last_nil, h]) this
  | some b =>
    rw [q] at e
    exact ⟨b, rfl, by rw [offM, e]; rfl, sortL_mem.mp (List.mem_of_find?_eq_some e)⟩
def offL (nm : List Str) (L : List Nat) : List Str := L.map fun j => (nm[j]?).getD ⟨#[]⟩
def offG (nm : List Str) (t : T) : T := match t with
  | .int j => .str ((nm[j.toNat]?).getD ⟨#[]⟩)
  | _ => .non
theorem off_map (nm : List Str) (L : List Nat) : ((L.map fun (j : Nat) => T.int (j : Int)).flatMap fun t => [offG nm t]) = strsL (offL nm L) := by
  rw [map1]
  simp only [strsL, offL, List.map_map]
  exact List.map_congr_left fun j _ => rfl
theorem subs_off (nm : List Str) : subs nm = (subs (List.range nm.length)).map (offL nm) := by
  have e : nm = (List.range nm.length).map fun j => (nm[j]?).getD ⟨#[]⟩ := by
    refine List.ext_getElem (by simp) fun i h1 h2 => ?_
    simp [List.getElem?_eq_getElem h1]
  have e2 := subs_map (fun j => (nm[j]?).getD ⟨#[]⟩) (List.range nm.length)
  rw [← e] at e2
  exact e2
theorem fold_in {p : List Str → Bool} {l : List (List Str)} {y : List Str} (h : l.foldl (bestG p) none = some y) : y ∈ l := by
  have k := (best_least (p := p) (l := l) (b := none) (seen := []) (fun y h => by cases h) (fun _ x h => by cases h)).1 y h
  simpa using k.1
def bestT : Option (List Str) → T
  | none => .non
  | some l => lkT l
section
variable {cst : Str → Option T} {fuel : Nat} {ds : List Dn} {S : Store}
def Law11J (ds : List Dn) (ns : List Int) (i : Nat) (ρ : Env) (S : Store) : Prop := (∃ s1 s2 s3 s4 s5 s6 s7 s8 s9 s10 s11 s12 s13 s14 s15, ρ = [.val (.scr ns), s1, s2, s3, s4, s5, s6, s7, s8, s9, s10, s11, s12, s13, s14, s15]) ∧ TabIn ds "lots" S
def Turn11J (ds : List Dn) (ns : List Int) (n : Nat) (h : T) (cs : List Cs) (pn : List Pn) (m : Nat) (i : Nat) (ρ : Env) (S : Store) : Prop := (∃ s1 s9 s10 s11 s12 s13 s14 s15, ρ = [.val (.scr ns), s1, .val (.ref n), .val h, .val (.tup (cs.map cT)), .val (.tup (pn.map pT)), .val (.int (m : Int)), .val (.int (lastM cs pn m)), .val (.lst (strsL (namesM pn))), s9, s10, s11, s12, s13, s14, s15]) ∧ TabIn ds "lots" S
def Lot11J (ns : List Int) (n : Nat) (h : T) (cs : List Cs) (pn : List Pn) (m : Nat) (minute : Int) (S : Store) (i : Nat) (ρ : Env) (S' : Store) : Prop := (∃ s1 s11 s12 s13 s14 s15, ρ = [.val (.scr ns), s1, .val (.ref n), .val h, .val (.tup (cs.map cT)), .val (.tup (pn.map pT)), .val (.int (m : Int)), .val (.int (lastM cs pn m)), .val (.lst (strsL (namesM pn))), .val (.int minute), .val (bestT (((subs (namesM pn)).take i).foldl (bestG (enough cs pn m minute)) none)), s11, s12, s13, s14, s15]) ∧ S' = S
theorem law11_spec (H1 : HasD ds) (H2 : HasT ds) (hla : Has ds d_latest) (hle : Has ds d_last_end) (hlo : Has ds d_lots) (hof : Has ds d_called_off) (hll : Has ds d__law_leans) (hlt : Has ds d__law_lots) (hde : Has ds d__law_dealt) (hlaw : Has ds d_law_k11) (ht : TabIn ds "lots" S) (k : Nat) (ns : List Int) (hns : ns.length ≤ 63) : Y (callK cst fuel ds (k + 8) "law" [.scr ns] S) fun t _ => t = .bl true := by
  refine y_callK hlaw rfl ?_
  simp [d_law_k11, startE]
  (try simp [forF, bindTg, setAll, getV, getO, getP, Ex.strict, strictAll, newE, Itr.strict])
  repeat (refine y_go ?_; simp [forF, bindTg, setAll, getV, getO, getP, Ex.strict, strictAll, newE, Itr.strict])
  refine ⟨okR_small (by omega) (by omega), ?_⟩
  refine y_forI (Law11J ds ns) ?_ ?_ ⟨⟨_, _, _, _, _, _, _, _, _, _, _, _, _, _, _, rfl⟩, ht⟩
  · rintro i x ρ S1 hx ⟨⟨s1, s2, s3, s4, s5, s6, s7, s8, s9, s10, s11, s12, s13, s14, s15, rfl⟩, t1⟩
    obtain ⟨b, hb, rfl⟩ := mem_rng (List.mem_of_getElem? hx)
    (try simp [forF, bindTg, setAll, getV, getO, getP, Ex.strict, strictAll, newE, Itr.strict])
    repeat (refine y_go ?_; simp [forF, bindTg, setAll, getV, getO, getP, Ex.strict, strictAll, newE, Itr.strict])
    refine (y_keeps (bag_spec H1.draws.bag _ (by omega) (by omega))).mono fun t S2 ⟨⟨n, e, b2⟩, k2⟩ => ?_
    subst e
    (try simp [forF, bindTg, setAll, getV, getO, getP, Ex.strict, strictAll, newE, Itr.strict])
    repeat (refine y_go ?_; simp [forF, bindTg, setAll, getV, getO, getP, Ex.strict, strictAll, newE, Itr.strict])
    refine (y_keeps (drawn_spec H1.draws H1.plan H1.drawn _ b2 (by decide) (by decide))).mono fun t S3 ⟨⟨b3, r, ps, cs, pn, e, r1, r4, p5, hps, hcs, c8, hpn, p8, hnm, hnd, hp5, hpr⟩, k3⟩ => ?_
    subst e
    have G : Good cs pn := goodP_of hps hcs hpn (by omega)
    have bnd := okP_bound G hcs hpn
    (try simp [forF, bindTg, setAll, getV, getO, getP, Ex.strict, strictAll, newE, Itr.strict])
    repeat (refine y_go ?_; simp [forF, bindTg, setAll, getV, getO, getP, Ex.strict, strictAll, newE, Itr.strict])
    refine (y_keeps (take_spec H1.draws.take _ b3 (by decide) (by decide))).mono fun t S4 ⟨⟨b4, mi, e, m0, m1⟩, k4⟩ => ?_
    subst e
    have t4 := ((t1.keeps k2).keeps k3).keeps k4
    obtain ⟨m, rfl⟩ : ∃ m : Nat, mi = (m : Int) := ⟨mi.toNat, by omega⟩
    have hm : m ≤ 100 := by omega
    have lb := last_bound (m := m) (A := 1000) (B := 400) (by decide) (by decide) bnd
    (try simp [forF, bindTg, setAll, getV, getO, getP, Ex.strict, strictAll, newE, Itr.strict])
    repeat (refine y_go ?_; simp [forF, bindTg, setAll, getV, getO, getP, Ex.strict, strictAll, newE, Itr.strict])
    refine (dealt_spec hde hll G hm _).mono fun t S5 ⟨e, eS⟩ => ?_
    subst e eS
    (try simp [forF, bindTg, setAll, getV, getO, getP, Ex.strict, strictAll, newE, Itr.strict])
    repeat (refine y_go ?_; simp [forF, bindTg, setAll, getV, getO, getP, Ex.strict, strictAll, newE, Itr.strict])
    refine y_mapLx (g := fun t => [nm1G t]) (fun x hx => ?_) ?_
    · obtain ⟨p, hp, rfl⟩ := List.mem_map.mp hx
      simp [lcF, bindTg, setAll, Tg.slots, wipeE, condT, getV, getP, Ex.strict, strictAll, pT, nm1G]
    rw [nm1_map]
    have hs : sortT (strsL (pn.map (·.name))) = some (strsL (namesM pn)) := sort_names (by simp; omega)
    (try simp [forF, bindTg, setAll, getV, getO, getP, Ex.strict, strictAll, newE, Itr.strict, hs])
    repeat (refine y_go ?_; simp [forF, bindTg, setAll, getV, getO, getP, Ex.strict, strictAll, newE, Itr.strict, hs])
    refine (y_keeps (take_spec H1.draws.take _ b4 (by omega) (Int.lt_of_le_of_lt (show 1 + lastM cs pn m ≤ 100000 by omega) (by decide)))).mono fun t S6 ⟨⟨b6, v, e, v0, v1⟩, k6⟩ => ?_
    subst e
    have t6 := t4.keeps k6
    refine y_forI (Turn11J ds ns n (hT r ps) cs pn m) ?_ ?_ ⟨⟨_, _, _, _, _, _, _, _, rfl⟩, t6⟩
    · rintro i2 x ρ S7 hx2 ⟨⟨s1, s9, s10, s11, s12, s13, s14, s15, rfl⟩, t7⟩
      have hv : ∃ v : Int, x = .int v ∧ 0 ≤ v := by
        have := List.mem_of_getElem? hx2
        simp only [List.mem_cons, List.not_mem_nil, or_false] at this
        rcases this with rfl | rfl | rfl | rfl | rfl
        · exact ⟨_, rfl, lb.1⟩
        · exact ⟨_, rfl, by split <;> omega⟩
        · exact ⟨_, rfl, by omega⟩
        · exact ⟨_, rfl, by decide⟩
        · exact ⟨_, rfl, v0⟩
      obtain ⟨mi, rfl, hmi⟩ := hv
      have hln : (strsL (namesM pn)).length = (namesM pn).length := by simp [strsL]
      have hl8 : (namesM pn).length ≤ 8 := by rw [namesM, (sortN_perm _).length_eq]; simpa using p8
      (try simp [forF, bindTg, setAll, getV, getO, getP, Ex.strict, strictAll, newE, Itr.strict])
      repeat (refine y_go ?_; simp [forF, bindTg, setAll, getV, getO, getP, Ex.strict, strictAll, newE, Itr.strict])
      refine (lots_spec hlt (by omega) (by omega) _).mono fun t S8 ⟨e, eS⟩ => ?_
      subst e eS
      rw [hln, law_subs (Nat.le_refl _)]
      (try simp [forF, bindTg, setAll, getV, getO, getP, Ex.strict, strictAll, newE, Itr.strict])
      repeat (refine y_go ?_; simp [forF, bindTg, setAll, getV, getO, getP, Ex.strict, strictAll, newE, Itr.strict])
      refine y_forI (Lot11J ns n (hT r ps) cs pn m mi S8) ?_ ?_ ⟨⟨_, _, _, _, _, _, rfl⟩, rfl⟩
      · rintro i3 x ρ S9 hx3 ⟨⟨s1, s11, s12, s13, s14, s15, rfl⟩, rfl⟩
        rw [List.getElem?_map, Option.map_eq_some_iff] at hx3
        obtain ⟨L, hL, rfl⟩ := hx3
        have hLs := subs_in (List.mem_of_getElem? hL)
        have hnl : ∀ j ∈ L, j < (namesM pn).length := fun j hj => by simpa using hLs.subset hj
        have hoff : (subs (namesM pn))[i3]? = some (offL (namesM pn) L) := by rw [subs_off, List.getElem?_map, hL]; rfl
        have hlen : L.length ≤ 8 := by have := hLs.length_le; simp at this; omega
        have hpl := lots_pl G.nm (List.mem_of_getElem? hoff)
        have stp : ((subs (namesM pn)).take (i3 + 1)).foldl (bestG (enough cs pn m mi)) none = bestG (enough cs pn m mi) (((subs (namesM pn)).take i3).foldl (bestG (enough cs pn m mi)) none) (offL (namesM pn) L) := by
          rw [List.take_add_one, hoff, List.foldl_append]; rfl
        have hin : ∀ y, ((subs (namesM pn)).take i3).foldl (bestG (enough cs pn m mi)) none = some y → ∀ z ∈ y, pl (.str z) = true := fun y hy => lots_pl G.nm (List.mem_of_mem_take (fold_in hy))
        have elen : (offL (namesM pn) L).length = L.length := by simp [offL]
        generalize hoL : offL (namesM pn) L = o at hoff hpl stp elen
        generalize ((subs (namesM pn)).take i3).foldl (bestG (enough cs pn m mi)) none = bb at stp hin
        (try simp [forF, bindTg, setAll, getV, getO, getP, Ex.strict, strictAll, newE, Itr.strict, rowT, itemsT])
        repeat (refine y_go ?_; simp [forF, bindTg, setAll, getV, getO, getP, Ex.strict, strictAll, newE, Itr.strict, rowT, itemsT])
        refine y_mapLx (g := fun t => [offG (namesM pn) t]) (fun x hx => ?_) ?_
        · obtain ⟨j, hj, rfl⟩ := List.mem_map.mp hx
          have hj' := hnl j hj
          have ea : L2.atI (strsL (namesM pn)) (j : Int) = some (.str ((namesM pn)[j]?.getD ⟨#[]⟩)) := atI_nat (by simp [strsL, List.getElem?_eq_getElem hj'])
          simp [lcF, bindTg, setAll, Tg.slots, wipeE, condT, getV, getP, Ex.strict, strictAll, ea, offG]
        rw [off_map, hoL]
        (try simp [forF, bindTg, setAll, getV, getO, getP, Ex.strict, strictAll, newE, Itr.strict])
        repeat (refine y_go ?_; simp [forF, bindTg, setAll, getV, getO, getP, Ex.strict, strictAll, newE, Itr.strict])
        refine y_mapLx (g := fun t => rsG o t) (fun x hx => ?_) ?_
        · obtain ⟨p, hp, rfl⟩ := List.mem_map.mp hx
          have e : inT (.str p.name) (.tup (strsL o)) = some (o.any fun y => y == p.name) := in_lot (G.nm p hp) hpl
          cases q : o.any fun y => y == p.name <;> (rw [q] at e; simp [lcF, bindTg, setAll, Tg.slots, wipeE, condT, getV, getP, Ex.strict, strictAll, pT, rsG, e, q])
        rw [rest_map]
        (try simp [forF, bindTg, setAll, getV, getO, getP, Ex.strict, strictAll, newE, Itr.strict])
        repeat (refine y_go ?_; simp [forF, bindTg, setAll, getV, getO, getP, Ex.strict, strictAll, newE, Itr.strict])
        refine (dealt_spec hde hll (G.rest o) hm _).mono fun t S10 ⟨e, eS⟩ => ?_
        subst e eS
        (try simp [forF, bindTg, setAll, getV, getO, getP, Ex.strict, strictAll, newE, Itr.strict])
        repeat (refine y_go ?_; simp [forF, bindTg, setAll, getV, getO, getP, Ex.strict, strictAll, newE, Itr.strict])
        have ek : T.tup [.int ((strsL o).length : Int), .tup (strsL o)] = lkT o := by simp [lkT, lotT, strsL]
        rw [ek]
        by_cases hmm : lastM cs (restOf pn o) m ≤ mi
        · have hp : enough cs pn m mi o = true := by simp [enough, hmm]
          refine .inr ⟨hmm, ?_⟩
          cases bb with
          | none => exact .inr ⟨rfl, ⟨_, _, _, _, _, _, by rw [stp]; simp [bestG, hp, bestT]; exact ⟨rfl, rfl, rfl, rfl, rfl, rfl⟩⟩, rfl⟩
          | some y =>
            have el := lt_lk hpl (hin y rfl)
            refine .inl ⟨rfl, lkT y, rfl, ?_⟩
            rw [el]
            cases q : ltL o y with
            | false => exact .inl ⟨rfl, ⟨_, _, _, _, _, _, by rw [stp]; simp [bestG, hp, bestT, q]; exact ⟨rfl, rfl, rfl, rfl, rfl, rfl⟩⟩, rfl⟩
            | true => exact .inr ⟨rfl, ⟨_, _, _, _, _, _, by rw [stp]; simp [bestG, hp, bestT, q]; exact ⟨rfl, rfl, rfl, rfl, rfl, rfl⟩⟩, rfl⟩
        · have hp : enough cs pn m mi o = false := by simp [enough, hmm]
          exact .inl ⟨by omega, ⟨_, _, _, _, _, _, by rw [stp]; simp [bestG, hp]; exact ⟨rfl, rfl, rfl, rfl, rfl, rfl⟩⟩, rfl⟩
      · rintro ρ S9 ⟨⟨s1, s11, s12, s13, s14, s15, rfl⟩, rfl⟩
        obtain ⟨b', hb1, hb2, hb3⟩ := off_best (cs := cs) (pn := pn) (m := m) hmi
        have etk : ((subs (namesM pn)).take (subs (List.range (namesM pn).length)).length).foldl (bestG (enough cs pn m mi)) none = some b' := by
          rw [subs_len, List.length_range, ← subs_len, List.take_length, hb1]
        (try simp [forF, bindTg, setAll, getV, getO, getP, Ex.strict, strictAll, newE, Itr.strict])
        repeat (refine y_go ?_; simp [forF, bindTg, setAll, getV, getO, getP, Ex.strict, strictAll, newE, Itr.strict])
        refine (called_off_spec hof hlo hle hla H2 G hm t7 (by omega) G.nm _).mono fun t S10 ⟨e, eS⟩ => ?_
        subst e eS
        have pb := pl_lot (lots_pl G.nm hb3)
        have eq := eqT_self pb.1 (by omega)
        rw [hb2]
        simp [etk, bestT, lkT, eq]
        exact ⟨⟨_, _, _, _, _, _, _, _, rfl⟩, t7⟩
    · rintro ρ S7 ⟨⟨s1, s9, s10, s11, s12, s13, s14, s15, rfl⟩, t7⟩
      (try simp [forF, bindTg, setAll, getV, getO, getP, Ex.strict, strictAll, newE, Itr.strict])
      repeat (refine y_go ?_; simp [forF, bindTg, setAll, getV, getO, getP, Ex.strict, strictAll, newE, Itr.strict])
      exact ⟨⟨_, _, _, _, _, _, _, _, _, _, _, _, _, _, _, rfl⟩, t7⟩
  · rintro ρ S1 ⟨⟨s1, s2, s3, s4, s5, s6, s7, s8, s9, s10, s11, s12, s13, s14, s15, rfl⟩, t1⟩
    (try simp [forF, bindTg, setAll, getV, getO, getP, Ex.strict, strictAll, newE, Itr.strict])
    repeat (refine y_go ?_; simp [forF, bindTg, setAll, getV, getO, getP, Ex.strict, strictAll, newE, Itr.strict])
end
end RD

namespace RD
open PySem PySem.Spec PyProof.Rows L2
def top (i : Nat) : Stmt := PySem.Challenge.pw_roomsday_k11_cases_called_off.main.body.getD i (.Pass ⟨0, 0, 0, 0⟩)
def dt : List (Dn × Stmt) := [(d_by_name, top 1), (d_meet, top 3), (d_leans, top 4), (d_ends, top 6), (d_table, top 7), (d_latest, top 8), (d_last_end, top 10), (d_lots, top 11), (d_called_off, top 12), (d__law_bag, top 14), (d__law_take, top 15), (d__law_of, top 16), (d__law_house, top 17), (d__law_case, top 18), (d__law_cases, top 19), (d__law_plan, top 20), (d__law_drawn, top 21), (d__law_leans, top 22), (d__law_lots_v1, top 23), (d__law_dealt, top 24), (d_law_k11, top 25)]
def cl : List (Str × T) := []
theorem dt_ok : (dt.all fun p => dnB p.1 p.2) = true := by decide +kernel
abbrev R : PySem.W.OpenRow := PySem.W.OpenLaw.row PySem.Challenge.rw_roomsday_k11_cases_called_off
def tn : List Str := ["lots"]
abbrev hk : PySem.W.Hook := He.hookX 4 (faT dt cl) (fnT dt) [] (tfOf tn) (exT tn)
def ob (s : PySem.W.SharedT) : He.AlX := He.obsX 4 (faT dt cl) (fnT dt) [] (tfOf tn) (exT tn) (HandSHeadRun.getT s)
theorem ob_eq (s : PySem.W.SharedT) : ob s = hk.obs s.abs := He.obsX_eq (HandSHeadRun.getT_eq s)
def nm0 : List PySem.Str := ["by_name", "meet", "leans", "ends", "table", "latest", "last_end", "lots", "called_off", "_law_bag", "_law_take", "_law_of", "_law_house", "_law_case", "_law_cases", "_law_plan", "_law_drawn", "_law_leans", "_law_lots", "_law_dealt"]
def nms : List PySem.Str := nm0
set_option maxHeartbeats 0 in
theorem run (w : World) : HandSHeadRun.RunEq R (PySem.W.view R.prog [25]) hk ob 20000 nms w := by
  intro os
  kernel_rfl
theorem lawPlain0 (ta : List (Str × Nat)) (hta : ta.map (·.1) = tn) (ns : List Int) (hn : ns.length ≤ 63) : Y (callK (cstOf cl) 1000 ((dtT ta dt).map (·.1)) 8 "law" [.scr ns] (tabS ta)) fun t _ => t = .bl true := by obtain ⟨P, rfl⟩ := ta_one hta; exact law11_spec ⟨⟨(has_mk (by rfl)), (has_mk (by rfl)), (has_mk (by rfl)), (has_mk (by rfl)), (has_mk (by rfl)), (has_mk (by rfl))⟩, (has_mk (by rfl)), (has_mk (by rfl))⟩ ⟨(has_mk (by rfl)), (has_mk (by rfl)), (has_mk (by rfl)), (has_mk (by rfl)), (has_mk (by rfl))⟩ (has_mk (by rfl)) (has_mk (by rfl)) (has_mk (by rfl)) (has_mk (by rfl)) (has_mk (by rfl)) (has_mk (by rfl)) (has_mk (by rfl)) (has_mk (by rfl)) ⟨P, by rfl, by simp [tabS]⟩ 0 ns hn
end RD
open PySem PySem.W PySem.Calls PyProof.Rows
set_option maxHeartbeats 0 in
theorem PySem.Challenge.cw_roomsday_k11_cases_called_off_holds : PySem.Challenge.rw_roomsday_k11_cases_called_off.Holds := by
  w_on; o_law
  refine HandSHeadRun.head_any (r := OpenLaw.row PySem.Challenge.rw_roomsday_k11_cases_called_off) (q := view (OpenLaw.row PySem.Challenge.rw_roomsday_k11_cases_called_off).prog [25]) (H := RD.hk) (ob := RD.ob) (M := 20000) (loose := RD.nms) (d := HandSHeadRun.topDef (OpenLaw.row PySem.Challenge.rw_roomsday_k11_cases_called_off).prog 25) (kwd := []) RD.ob_eq
    (by kernel_rfl) (fun s => by kernel_rfl) RD.run (by kernel_rfl) (by kernel_rfl) (by kernel_rfl) (by rfl) (by first | assumption | decide +kernel) (by decide +kernel) ⟨rfl, rfl, rfl, rfl, rfl, by decide +kernel⟩ ?hw ?hc
  case hw => w_witness2
  case hc =>
    refine LamX.walk_ofTsE (l := PySem.Challenge.rw_roomsday_k11_cases_called_off) (n := 63) (k := 8) (x := "script") (CX := fun _ => L2.CX0) rfl (by decide) (by kernel_rfl) ⟨rfl, by decide, by decide⟩ ?F (fun _ _ _ _ _ z => z)
    intro w mg fa h YY G hmg0
    obtain ⟨K, KX, c⟩ := YY
    have hmg : mg ("law" : PySem.Str) = some (.ref fa) := by
      have e : (HandSHeadRun.topDef (OpenLaw.row PySem.Challenge.rw_roomsday_k11_cases_called_off).prog 25).name = ("law" : PySem.Str) := by kernel_rfl
      rw [← e]
      exact hmg0
    exact ⟨K, KX, RD.law_endT (l := PySem.Challenge.rw_roomsday_k11_cases_called_off) (w := w) (tn := RD.tn) (k := 8) (fuel := 1000) (d := RD.d_law_k11) (st := RD.top 25) RD.dt_ok (by decide +kernel) (by simp [RD.dt]) (fun ta => by rfl) rfl RD.lawPlain0 KX G hmg c⟩

