import PyProof.Rows.All
import HandS.ForMost
import HandS.Evl
import HandS.Conv
import HandS.ForExc
import HandS.IsInst
import HandS.Wide
import HandS.EndBits
import HandS.HotCalls
import HandS.ExcIs
import HandS.SortKw
import HandS.TryOnly
import HandS.More
import HandS.TupLen
import HandS.DictTup
import HandS.CallSlots
import HandS.WordsExc
import KE.SortKeyHeap
import HandS.Lambda
import HandS.EndTab
import HandS.SetFor
import HandS.ReCall
import PySem.Challenge.RW_shortlimit_k06_rows_of_packets
set_option Elab.async false
set_option linter.all false
set_option maxRecDepth 100000
set_option maxHeartbeats 4000000
/-! PL1: plain semantics (no heap): what an expression, a statement, a def gives over PyData. -/
namespace PL
open PySem L2

inductive Out (α : Type) where
  | ok (a : α)
  | exc (n : String)
  | stuck
def Out.bind {α β : Type} (o : Out α) (f : α → Out β) : Out β := match o with
  | .ok a => f a
  | .exc n => .exc n
  | .stuck => .stuck
@[simp] theorem Out.bind_ok {α β : Type} (a : α) (f : α → Out β) : (Out.ok a).bind f = f a := eq_of_heq (HEq.refl _)
@[simp] theorem Out.bind_exc {α β : Type} (n : String) (f : α → Out β) : (Out.exc n : Out α).bind f = .exc n := rfl
@[simp] theorem Out.bind_stuck {α β : Type} (f : α → Out β) : (Out.stuck : Out α).bind f = .stuck := rfl

/-- what stands in a slot: a value that never changes; an own list; a list handed in; an own dict; a dict handed in; a caught error, by its class's name; a list handed in that is changed; an own list of new lists; a list of new lists that none has changed yet -/
inductive SL where
  | fz (d : PyData)
  | ow (ds : List PyData)
  | bw (ds : List PyData)
  | dow (kvs : List (List Int × PyData))
  | dbw (kvs : List (List Int × PyData))
  | er (n : String)
  | mw (ds : List PyData)
  | og (dss : List (List PyData))
  | oo (dss : List (List PyData))
abbrev Env := List (Option SL)
/-- what a def hands back: a value; a new list; a new dict -/
inductive RV where
  | val (d : PyData)
  | fresh (ds : List PyData)
  | dfresh (kvs : List (List Int × PyData))
  | gfresh (dss : List (List PyData))
abbrev VE := Env → Out PyData
abbrev LE := Env → Out (List PyData)
abbrev BE := Env → Out Bool
abbrev AE := Env → Out (List SL)
abbrev XE := Env → Out RV

/-! ### names -/
def eVar (i : Nat) : VE := fun ρ => match ρ[i]? with
  | some (some (.fz d)) => .ok d
  | some (some (.oo dss)) => .ok (.list (dss.map PyData.list))
  | _ => .stuck
/-- as a thing that is read -/
def rVar (i : Nat) : VE := fun ρ => match ρ[i]? with
  | some (some (.fz d)) => .ok d
  | some (some (.ow ds)) => .ok (.list ds)
  | some (some (.bw ds)) => .ok (.list ds)
  | some (some (.mw ds)) => .ok (.list ds)
  | some (some (.og dss)) => .ok (.list (dss.map PyData.list))
  | some (some (.oo dss)) => .ok (.list (dss.map PyData.list))
  | _ => .stuck
/-- as a list that is read -/
def lVar (i : Nat) : LE := fun ρ => match ρ[i]? with
  | some (some (.fz (.list ds))) => .ok ds
  | some (some (.ow ds)) => .ok ds
  | some (some (.bw ds)) => .ok ds
  | some (some (.mw ds)) => .ok ds
  | some (some (.og dss)) => .ok (dss.map PyData.list)
  | some (some (.oo dss)) => .ok (dss.map PyData.list)
  | _ => .stuck
/-- an own list -/
def kVar (i : Nat) : LE := fun ρ => match ρ[i]? with
  | some (some (.ow ds)) => .ok ds
  | _ => .stuck
/-- a list that stays as it is -/
def sVar (i : Nat) : LE := fun ρ => match ρ[i]? with
  | some (some (.fz (.list ds))) => .ok ds
  | some (some (.bw ds)) => .ok ds
  | some (some (.oo dss)) => .ok (dss.map PyData.list)
  | _ => .stuck
def eC (d : PyData) : VE := fun _ => .ok d
def eOfL (f : LE) : VE := fun ρ => (f ρ).bind fun ds => .ok (.list ds)
def lOfV (f : VE) : LE := fun ρ => (f ρ).bind fun d => match d with
  | .list ds => .ok ds
  | _ => .stuck

/-! ### operators -/
abbrev Op2 := PyData → PyData → Out PyData
def eOp (o : Op2) (a b : VE) : VE := fun ρ => (a ρ).bind fun x => (b ρ).bind fun y => o x y
def oAdd : Op2
  | .int i, .int j => .ok (.int (i + j))
  | _, _ => .stuck
def oSub : Op2
  | .int i, .int j => .ok (.int (i - j))
  | _, _ => .stuck
/-- one factor is small -/
def smallI (i : Int) : Bool := decide (-(2 ^ 64) < i ∧ i < 2 ^ 64)
def oMul : Op2
  | .int i, .int j => if smallI i || smallI j then .ok (.int (i * j)) else .stuck
  | _, _ => .stuck
def oFdiv : Op2
  | .int i, .int j => if 0 < j ∧ j < 1073741824 then .ok (.int (i / j)) else .stuck
  | _, _ => .stuck
def oMod : Op2
  | .int i, .int j => if 0 < j then .ok (.int (i % j)) else .stuck
  | _, _ => .stuck
def oCatS : Op2
  | .str i, .str j => if i.length + j.length ≤ 1000000 then .ok (.str (i ++ j)) else .stuck
  | _, _ => .stuck
def oCatT : Op2
  | .tuple a, .tuple b => if a ≠ [] ∧ a.length + b.length ≤ 1000000 then .ok (.tuple (a ++ b)) else .stuck
  | _, _ => .stuck
def oLt : Op2
  | .int i, .int j => .ok (.bool (decide (i < j)))
  | _, _ => .stuck
def oLe : Op2
  | .int i, .int j => .ok (.bool (decide (i ≤ j)))
  | _, _ => .stuck
def oGt : Op2
  | .int i, .int j => .ok (.bool (decide (j < i)))
  | _, _ => .stuck
def oGe : Op2
  | .int i, .int j => .ok (.bool (decide (j ≤ i)))
  | _, _ => .stuck
def oEq : Op2 := fun d e => if SeqAt.shaped d && SeqAt.shaped e then .ok (.bool (PyData.eqv d e)) else .stuck
def oNe : Op2 := fun d e => if SeqAt.shaped d && SeqAt.shaped e then .ok (.bool (!PyData.eqv d e)) else .stuck
/-- one sign in a text -/
def oInS : Op2
  | .str c, .str z => match c.cps.toList with
    | [k] => .ok (.bool (decide (k ∈ z.cps.toList)))
    | _ => .stuck
  | _, _ => .stuck
def oNotInS : Op2
  | .str c, .str z => match c.cps.toList with
    | [k] => .ok (.bool (!decide (k ∈ z.cps.toList)))
    | _ => .stuck
  | _, _ => .stuck
def stOf (z : Str) : PyData → Out PyData
  | .str y => .ok (.bool (Txt.startswith z y))
  | _ => .stuck
def eStarts (a b : VE) : VE := fun ρ => (a ρ).bind fun d => match d with
  | .str z => (b ρ).bind (stOf z)
  | _ => .stuck
def isN : PyData → Bool
  | .none => true
  | _ => false
def eIsN (a : VE) : VE := fun ρ => (a ρ).bind fun d => .ok (.bool (isN d))
def eNotN (a : VE) : VE := fun ρ => (a ρ).bind fun d => .ok (.bool (!isN d))
def eNeg (a : VE) : VE := fun ρ => (a ρ).bind fun d => match d with
  | .int i => .ok (.int (-i))
  | _ => .stuck
/-- a text in a list of texts -/
def allStr (ds : List PyData) : Option (List Str) := ds.mapM fun d => match d with
  | .str s => some s
  | _ => none
def eInL (neg : Bool) (a : VE) (l : LE) : VE := fun ρ => (a ρ).bind fun d => (l ρ).bind fun ds => match d, allStr ds with
  | .str x, some ss => .ok (.bool (if neg then !decide (x ∈ ss) else decide (x ∈ ss)))
  | _, _ => .stuck

/-! ### tests -/
def bOf (a : VE) : BE := fun ρ => (a ρ).bind fun d => match d with
  | .bool b => .ok b
  | _ => .stuck
def bAnd (a b : BE) : BE := fun ρ => (a ρ).bind fun x => if x then b ρ else .ok false
def bOr (a b : BE) : BE := fun ρ => (a ρ).bind fun x => if x then .ok true else b ρ
def bNot (a : BE) : BE := fun ρ => (a ρ).bind fun x => .ok (!x)
def bYes : BE := fun _ => .ok true
def eOfB (a : BE) : VE := fun ρ => (a ρ).bind fun b => .ok (.bool b)
/-- a op b op' c, as a value -/
def eChain (o o' : Op2) (a b c : VE) : VE := fun ρ => (a ρ).bind fun x => (b ρ).bind fun y => (o x y).bind fun z => match z with
  | .bool true => (c ρ).bind fun u => o' y u
  | .bool false => .ok (.bool false)
  | _ => .stuck

/-! ### lists, tuples, texts -/
def eIx (l : LE) (i : VE) : VE := fun ρ => (l ρ).bind fun ds => (i ρ).bind fun k => match k with
  | .int k => match atI ds k with
    | some d => .ok d
    | none => .stuck
  | _ => .stuck
def eIxT (t : VE) (i : VE) : VE := fun ρ => (t ρ).bind fun d => (i ρ).bind fun k => match d, k with
  | .tuple ds, .int k => match atI ds k with
    | some d => .ok d
    | none => .stuck
  | _, _ => .stuck
def eIxS (t : VE) (i : VE) : VE := fun ρ => (t ρ).bind fun d => (i ρ).bind fun k => match d, k with
  | .str z, .int k => if z.length ≤ 1000000 then (match atI z.cps.toList k with
    | some c => .ok (.str ⟨#[c]⟩)
    | none => .stuck) else .stuck
  | _, _ => .stuck
def cutD {α : Type} (xs : List α) (lo hi : Option Int) : List α := (xs.drop (HT.sIx xs.length 0 lo)).take (HT.sIx xs.length xs.length hi - HT.sIx xs.length 0 lo)
/-- a part of a slice -/
abbrev OE := Env → Out (Option Int)
def oNo : OE := fun _ => .ok none
def oPart (a : VE) : OE := fun ρ => (a ρ).bind fun d => match d with
  | .int i => .ok (some i)
  | _ => .stuck
def lSl (l : LE) (lo hi : OE) : LE := fun ρ => (l ρ).bind fun ds => (lo ρ).bind fun a => (hi ρ).bind fun b => .ok (cutD ds a b)
def eSlS (t : VE) (lo hi : OE) : VE := fun ρ => (t ρ).bind fun d => (lo ρ).bind fun a => (hi ρ).bind fun b => match d with
  | .str z => if z.length ≤ 1000000 then .ok (.str (cutS z a b)) else .stuck
  | _ => .stuck
def lCat (a b : LE) : LE := fun ρ => (a ρ).bind fun x => (b ρ).bind fun y => if x.length + y.length ≤ 1000000 then .ok (x ++ y) else .stuck
def lRep (a : LE) (k : VE) : LE := fun ρ => (a ρ).bind fun x => (k ρ).bind fun n => match n with
  | .int n => if -1000000 ≤ n ∧ n ≤ 1000000 ∧ x.length ≤ 1 then .ok (List.replicate n.toNat x).flatten else .stuck
  | _ => .stuck
/-- sorted(l, key=f), f gives a tuple's first whole number -/
def headI : PyData → Option Int
  | .tuple (.int i :: _) => some i
  | _ => none
def leK (a b : PyData) : Bool := decide ((headI a).getD 0 ≤ (headI b).getD 0)
def lSortK (l : LE) : LE := fun ρ => (l ρ).bind fun ds => if ds.all (fun d => (headI d).isSome) then .ok (ds.mergeSort leK) else .stuck
def asIntsT (ds : List PyData) : Option (List Int) := ds.mapM fun d => match d with
  | .int i => some i
  | _ => none
/-- sorted(t), t a tuple of whole numbers -/
def leI (a b : Int) : Bool := decide (a ≤ b)
def lSortT (a : VE) : LE := fun ρ => (a ρ).bind fun d => match d with
  | .tuple ds => match asIntsT ds with
    | some ns => .ok ((ns.mergeSort leI).map PyData.int)
    | none => .stuck
  | _ => .stuck
/-- sorted(l), l a list of texts -/
def leS (a b : Str) : Bool := !PySem.Spec.ltCps b.cps.toList a.cps.toList
def lSortS (l : LE) : LE := fun ρ => (l ρ).bind fun ds => match allStr ds with
  | some ss => if ss.length < 64 then .ok ((ss.mergeSort leS).map PyData.str) else .stuck
  | none => .stuck
/-- sorted(range(n), key=lambda x: (y[x], x)), y in slot j, n whole numbers -/
def leAt (ls : List Int) (i j : Nat) : Bool := decide (ls.getD i 0 < ls.getD j 0 ∨ (ls.getD i 0 = ls.getD j 0 ∧ (i : Int) ≤ (j : Int)))
def asIntsL (ds : List PyData) : Option (List Int) := ds.mapM fun d => match d with
  | .int i => some i
  | _ => none
def lSortRg (j : Nat) (a : VE) : LE := fun ρ => (a ρ).bind fun d => (lVar j ρ).bind fun ds => match d, asIntsL ds with
  | .int n, some ls => if n = ls.length ∧ n ≤ 100000 then .ok (((List.range ls.length).mergeSort (leAt ls)).map fun k => PyData.int (k : Nat)) else .stuck
  | _, _ => .stuck
/-- several values -/
def aAll : List VE → LE
  | [] => fun _ => .ok []
  | f :: fs => fun ρ => (f ρ).bind fun x => (aAll fs ρ).bind fun xs => .ok (x :: xs)
theorem aAll_len : ∀ (fs : List VE) (ρ : Env) (ds : List PyData), aAll fs ρ = .ok ds → ds.length = fs.length
  | [], _, _, h => by cases h; rfl
  | f :: fs, ρ, ds, h => by
    unfold aAll at h
    cases e : f ρ with
    | ok x =>
      rw [e] at h
      cases e2 : aAll fs ρ with
      | ok xs =>
        rw [e2] at h
        cases h
        rw [List.length_cons, List.length_cons, aAll_len fs ρ xs e2]
      | exc n => rw [e2] at h; cases h
      | stuck => rw [e2] at h; cases h
    | exc n => rw [e] at h; cases h
    | stuck => rw [e] at h; cases h
def eTup (fs : List VE) : VE := fun ρ => (aAll fs ρ).bind fun xs => .ok (.tuple xs)
def lLst (fs : List VE) : LE := aAll fs
def eTupL (l : LE) : VE := fun ρ => (l ρ).bind fun ds => .ok (.tuple ds)

/-! ### built-ins -/
def eLenL (l : LE) : VE := fun ρ => (l ρ).bind fun ds => .ok (.int ds.length)
def lenOf : PyData → Out PyData
  | .str z => if z.length ≤ 1000000 then .ok (.int z.length) else .stuck
  | .tuple ds => .ok (.int ds.length)
  | .list ds => .ok (.int ds.length)
  | _ => .stuck
def eLenV (a : VE) : VE := fun ρ => (a ρ).bind lenOf
def tyName : PyData → String
  | .none => "NoneType"
  | .bool _ => "bool"
  | .int _ => "int"
  | .str _ => "str"
  | .list _ => "list"
  | .tuple _ => "tuple"
  | .dict _ => "dict"
/-- isinstance with a built-in class -/
def eIsI (a : VE) (T : String) : VE := fun ρ => (a ρ).bind fun d => match kitB (tyName d) T with
  | some b => .ok (.bool b)
  | none => .stuck
def asInts (ds : List PyData) : Option (List Int) := ds.mapM fun d => match d with
  | .int i => some i
  | _ => none
def asBools (ds : List PyData) : Option (List Bool) := ds.mapM fun d => match d with
  | .bool b => some b
  | _ => none
def eSum (l : LE) : VE := fun ρ => (l ρ).bind fun ds => match asInts ds with
  | some ns => .ok (.int ns.sum)
  | none => .stuck
def eAny (l : LE) : VE := fun ρ => (l ρ).bind fun ds => match asBools ds with
  | some ns => .ok (.bool (ns.any id))
  | none => .stuck
def eAll (l : LE) : VE := fun ρ => (l ρ).bind fun ds => match asBools ds with
  | some ns => .ok (.bool (ns.all id))
  | none => .stuck
def leastOf : List Int → Option Int
  | [] => none
  | x :: r => some (r.foldl min x)
def eMinL (l : LE) : VE := fun ρ => (l ρ).bind fun ds => match (asInts ds).bind leastOf with
  | some m => .ok (.int m)
  | none => .stuck
def mostOf : List Int → Option Int
  | [] => none
  | x :: r => some (r.foldl max x)
def eMaxL (l : LE) : VE := fun ρ => (l ρ).bind fun ds => match (asInts ds).bind mostOf with
  | some m => .ok (.int m)
  | none => .stuck
def oMin : Op2
  | .int i, .int j => .ok (.int (if j < i then j else i))
  | _, _ => .stuck
def oMax : Op2
  | .int i, .int j => .ok (.int (if j > i then j else i))
  | _, _ => .stuck
/-- int(a truth) -/
def eIntB (a : VE) : VE := fun ρ => (a ρ).bind fun d => match d with
  | .bool b => .ok (.int (if b then 1 else 0))
  | _ => .stuck

/-! ### calls -/
def rNil : AE := fun _ => .ok []
def rV (a : VE) (r : AE) : AE := fun ρ => (a ρ).bind fun d => (r ρ).bind fun ss => .ok (.fz d :: ss)
def rL (a : LE) (r : AE) : AE := fun ρ => (a ρ).bind fun ds => (r ρ).bind fun ss => .ok (.bw ds :: ss)
/-- a dict that is read -/
def dVar (i : Nat) : Env → Out (List (List Int × PyData)) := fun ρ => match ρ[i]? with
  | some (some (.dow kvs)) => .ok kvs
  | some (some (.dbw kvs)) => .ok kvs
  | _ => .stuck
def rD (i : Nat) (r : AE) : AE := fun ρ => (dVar i ρ).bind fun kvs => (r ρ).bind fun ss => .ok (.dbw kvs :: ss)
abbrev FN := List SL → Out RV
def xCall (F : FN) (a : AE) : XE := fun ρ => (a ρ).bind F
def eX (x : XE) : VE := fun ρ => (x ρ).bind fun r => match r with
  | .val d => .ok d
  | .fresh ds => .ok (.list ds)
  | _ => .stuck
def lX (x : XE) : LE := fun ρ => (x ρ).bind fun r => match r with
  | .fresh ds => .ok ds
  | _ => .stuck

/-! ### dicts with tuples of ints as keys -/
def dGet (kvs : List (List Int × PyData)) (k : List Int) : Option PyData := (kvs.find? fun p => decide (p.1 = k)).map (·.2)
def dPut (kvs : List (List Int × PyData)) (k : List Int) (d : PyData) : List (List Int × PyData) :=
  if (kvs.any fun p => decide (p.1 = k)) then kvs.map fun p => if p.1 = k then (p.1, d) else p else kvs ++ [(k, d)]
def eDGet (i : Nat) (k : List VE) : VE := fun ρ => (dVar i ρ).bind fun kvs => (aAll k ρ).bind fun ks => match asInts ks with
  | some ks => match dGet kvs ks with
    | some d => .ok d
    | none => .stuck
  | none => .stuck
def eDIn (neg : Bool) (k : List VE) (i : Nat) : VE := fun ρ => (aAll k ρ).bind fun ks => (dVar i ρ).bind fun kvs => match asInts ks with
  | some ks => .ok (.bool (if neg then !(dGet kvs ks).isSome else (dGet kvs ks).isSome))
  | none => .stuck
def eDLen (i : Nat) : VE := fun ρ => (dVar i ρ).bind fun kvs => .ok (.int kvs.length)
def eDIs (i : Nat) : VE := fun ρ => (dVar i ρ).bind fun _ => .ok (.bool true)

/-! ### what loops walk -/
def rngD (lo : Int) (n : Nat) (c : Int) : List PyData := (List.range n).map fun k => .int (lo + (k : Nat) * c)
def okR (i : Int) : Bool := decide (-(2 ^ 61) ≤ i ∧ i < 2 ^ 61)
def wRange1 (a : VE) : LE := fun ρ => (a ρ).bind fun d => match d with
  | .int n => if okR n then .ok (rngD 0 n.toNat 1) else .stuck
  | _ => .stuck
def wRange2 (a b : VE) : LE := fun ρ => (a ρ).bind fun d => (b ρ).bind fun e => match d, e with
  | .int lo, .int hi => if okR lo && okR hi then .ok (rngD lo (hi - lo).toNat 1) else .stuck
  | _, _ => .stuck
/-- list(range(a)) -/
def lListRg (a : VE) : LE := fun ρ => (a ρ).bind fun d => match d with
  | .int n => if 0 ≤ n ∧ n ≤ 1000000 then .ok (rngD 0 n.toNat 1) else .stuck
  | _ => .stuck
/-- range(a, b, 2) -/
def wRange3 (a b c : VE) : LE := fun ρ => (a ρ).bind fun d => (b ρ).bind fun e => (c ρ).bind fun f => match d, e, f with
  | .int lo, .int hi, .int c => if c = 2 ∧ -100000 ≤ lo ∧ lo ≤ 100000 ∧ -100000 ≤ hi ∧ hi ≤ 100000 then .ok (rngD lo (((hi - lo + 1) / 2).toNat) 2) else .stuck
  | _, _, _ => .stuck
def wStr (a : VE) : LE := fun ρ => (a ρ).bind fun d => match d with
  | .str z => .ok (z.cps.toList.map fun c => .str ⟨#[c]⟩)
  | _ => .stuck
/-- a tuple's items -/
def tOfV (f : VE) : LE := fun ρ => (f ρ).bind fun d => match d with
  | .tuple ds => .ok ds
  | _ => .stuck
def enumD (ds : List PyData) : List PyData := (List.range ds.length).zipWith (fun k d => .tuple [.int (k : Nat), d]) ds
def wEnum (l : LE) : LE := fun ρ => (l ρ).bind fun ds => .ok (enumD ds)
def zipD (a b : List PyData) : List PyData := a.zipWith (fun x y => .tuple [x, y]) b
def wZip (a b : LE) : LE := fun ρ => (a ρ).bind fun x => (b ρ).bind fun y => .ok (zipD x y)
abbrev TGT := PyData → Env → Option Env
def tgN (i : Nat) : TGT := fun d ρ => some (ρ.set i (some (.fz d)))
def tgP (i j : Nat) : TGT := fun d ρ => match d with
  | .tuple [x, y] => some ((ρ.set i (some (.fz x))).set j (some (.fz y)))
  | _ => none
def tgT (i j k : Nat) : TGT := fun d ρ => match d with
  | .tuple [x, y, z] => some (((ρ.set i (some (.fz x))).set j (some (.fz y))).set k (some (.fz z)))
  | _ => none
def wp (ws : List Nat) (ρ : Env) : Env := match ws with
  | [] => ρ
  | v :: vs => (wp vs ρ).set v none

/-! ### comprehensions -/
def lcGo (tg : TGT) (tt : BE) (el : VE) (ρ : Env) : List PyData → Out (List PyData)
  | [] => .ok []
  | d :: r => match tg d ρ with
    | none => .stuck
    | some ρ1 => (tt ρ1).bind fun b => if b then (el ρ1).bind fun y => (lcGo tg tt el ρ r).bind fun ys => .ok (y :: ys) else lcGo tg tt el ρ r
def noExc {α : Type} : Out α → Out α
  | .ok a => .ok a
  | _ => .stuck
def lComp (w : LE) (tg : TGT) (ws : List Nat) (tt : BE) (el : VE) : LE := fun ρ => (w ρ).bind fun ds => if ds.length < 1000000 then noExc (lcGo tg tt el (wp ws ρ) ds) else .stuck

/-! ### statements -/
inductive SO where
  | nx (ρ : Env)
  | bk (ρ : Env)
  | ct (ρ : Env)
  | rt (r : RV) (ρ : Env)
  | ex (n : String) (ρ : Env)
  | stuck
abbrev SE := Env → SO
def SO.then (o : SO) (f : SE) : SO := match o with
  | .nx ρ => f ρ
  | .bk ρ => .bk ρ
  | .ct ρ => .ct ρ
  | .rt r ρ => .rt r ρ
  | .ex n ρ => .ex n ρ
  | .stuck => .stuck
def wOut {α : Type} (o : Out α) (ρ : Env) (f : α → SO) : SO := match o with
  | .ok a => f a
  | .exc n => .ex n ρ
  | .stuck => .stuck
@[simp] theorem wOut_ok {α : Type} (a : α) (ρ : Env) (f : α → SO) : wOut (.ok a) ρ f = f a := eq_of_heq (HEq.refl _)
@[simp] theorem wOut_exc {α : Type} (n : String) (ρ : Env) (f : α → SO) : wOut (.exc n) ρ f = .ex n ρ := rfl
@[simp] theorem wOut_stuck {α : Type} (ρ : Env) (f : α → SO) : wOut .stuck ρ f = .stuck := rfl
@[simp] theorem SO.then_nx (ρ : Env) (f : SE) : (SO.nx ρ).then f = f ρ := eq_of_heq (HEq.refl _)
@[simp] theorem SO.then_bk (ρ : Env) (f : SE) : (SO.bk ρ).then f = .bk ρ := rfl
@[simp] theorem SO.then_ct (ρ : Env) (f : SE) : (SO.ct ρ).then f = .ct ρ := rfl
@[simp] theorem SO.then_rt (r : RV) (ρ : Env) (f : SE) : (SO.rt r ρ).then f = .rt r ρ := rfl
@[simp] theorem SO.then_ex (n : String) (ρ : Env) (f : SE) : (SO.ex n ρ).then f = .ex n ρ := rfl
@[simp] theorem SO.then_stuck (f : SE) : (SO.stuck).then f = .stuck := rfl
def sNext : SE := fun ρ => .nx ρ
def sBrk : SE := fun ρ => .bk ρ
def sCont : SE := fun ρ => .ct ρ
def sSeq (a b : SE) : SE := fun ρ => (a ρ).then b
def slotOf : RV → SL
  | .val d => .fz d
  | .fresh ds => .ow ds
  | .dfresh kvs => .dow kvs
  | .gfresh dss => .oo dss
def sSet (i : Nat) (e : VE) : SE := fun ρ => wOut (e ρ) ρ fun d => .nx (ρ.set i (some (.fz d)))
def sSetL (i : Nat) (e : LE) : SE := fun ρ => wOut (e ρ) ρ fun ds => .nx (ρ.set i (some (.ow ds)))
def sSetX (i : Nat) (x : XE) : SE := fun ρ => wOut (x ρ) ρ fun r => .nx (ρ.set i (some (slotOf r)))
def sSetD (i : Nat) : SE := fun ρ => .nx (ρ.set i (some (.dow [])))
def sDrop (e : VE) : SE := fun ρ => wOut (e ρ) ρ fun _ => .nx ρ
def sDropX (x : XE) : SE := fun ρ => wOut (x ρ) ρ fun _ => .nx ρ
def sIf (c : BE) (a b : SE) : SE := fun ρ => wOut (c ρ) ρ fun x => if x then a ρ else b ρ
def sRet (e : VE) : SE := fun ρ => wOut (e ρ) ρ fun d => .rt (.val d) ρ
def sRetL (e : LE) : SE := fun ρ => wOut (e ρ) ρ fun ds => .rt (.fresh ds) ρ
def sRetX (x : XE) : SE := fun ρ => wOut (x ρ) ρ fun r => .rt r ρ
/-- return of an own list, dict -/
def sRetO (i : Nat) : SE := fun ρ => match ρ[i]? with
  | some (some (.ow ds)) => .rt (.fresh ds) ρ
  | some (some (.dow kvs)) => .rt (.dfresh kvs) ρ
  | some (some (.og dss)) => .rt (.gfresh dss) ρ
  | some (some (.fz d)) => .rt (.val d) ρ
  | _ => .stuck
def sRaise (n : String) : SE := fun ρ => .ex n ρ
/-- x.append(e), x an own list -/
def sApp (i : Nat) (e : VE) : SE := fun ρ => match ρ[i]? with
  | some (some (.ow ds)) => wOut (e ρ) ρ fun d => if ds.length < 1000000 then .nx (ρ.set i (some (.ow (ds ++ [d])))) else .stuck
  | _ => .stuck
def sClear (i : Nat) : SE := fun ρ => match ρ[i]? with
  | some (some (.ow _)) => .nx (ρ.set i (some (.ow [])))
  | _ => .stuck
def sRev (i : Nat) : SE := fun ρ => match ρ[i]? with
  | some (some (.ow ds)) => .nx (ρ.set i (some (.ow ds.reverse)))
  | _ => .stuck
def sExt (i : Nat) (e : LE) : SE := fun ρ => match ρ[i]? with
  | some (some (.ow ds)) => wOut (e ρ) ρ fun es => if ds.length + es.length < 1000000 then .nx (ρ.set i (some (.ow (ds ++ es)))) else .stuck
  | _ => .stuck
/-- x.insert(k, e), 0 ≤ k ≤ len -/
def sIns (i : Nat) (k e : VE) : SE := fun ρ => match ρ[i]? with
  | some (some (.ow ds)) => wOut (k ρ) ρ fun n => wOut (e ρ) ρ fun d => (match n with
    | .int n => if 0 ≤ n ∧ n ≤ ds.length ∧ ds.length < 1000000 then .nx (ρ.set i (some (.ow (ds.take n.toNat ++ d :: ds.drop n.toNat)))) else .stuck
    | _ => .stuck)
  | _ => .stuck
/-- x[k] = e, x an own list -/
def sPut (i : Nat) (k e : VE) : SE := fun ρ => wOut (e ρ) ρ fun d => match ρ[i]? with
  | some (some (.ow ds)) => wOut (k ρ) ρ fun n => (match n with
    | .int n => (match ixN ds.length n with
      | some j => .nx (ρ.set i (some (.ow (ds.set j d))))
      | none => .stuck)
    | _ => .stuck)
  | _ => .stuck
/-- x.append(y.pop(k)), x, y own lists -/
def sAppPop (i j : Nat) (k : VE) : SE := fun ρ => match ρ[i]?, ρ[j]? with
  | some (some (.ow ds)), some (some (.ow es)) => wOut (k ρ) ρ fun n => (match n with
    | .int n => if 0 ≤ n ∧ n < es.length ∧ es.length < 1000000 ∧ ds.length < 1000000 ∧ i ≠ j then (match es[n.toNat]? with
      | some d => .nx ((ρ.set j (some (.ow (es.eraseIdx n.toNat)))).set i (some (.ow (ds ++ [d]))))
      | none => .stuck) else .stuck
    | _ => .stuck)
  | _, _ => .stuck
/-- a, b, .. = x.pop(), x an own list -/
def sPopT (i : Nat) (tg : TGT) : SE := fun ρ => match ρ[i]? with
  | some (some (.ow ds)) => (match ds[ds.length - 1]? with
    | some d => (match tg d (ρ.set i (some (.ow ds.dropLast))) with
      | some ρ' => .nx ρ'
      | none => .stuck)
    | none => .stuck)
  | _ => .stuck
/-- a, b = x, y -/
def sPar (i j : Nat) (a b : VE) : SE := fun ρ => wOut (a ρ) ρ fun d => wOut (b ρ) ρ fun e => .nx ((ρ.set i (some (.fz d))).set j (some (.fz e)))
/-- d[(..)] = e, d an own dict -/
def sDPutE (i : Nat) (k : List VE) (e : VE) : SE := fun ρ => wOut (e ρ) ρ fun d => match ρ[i]? with
  | some (some (.dow kvs)) => wOut (aAll k ρ) ρ fun ks => (match asInts ks with
    | some ks => if kvs.length < 1000000 then .nx (ρ.set i (some (.dow (dPut kvs ks d)))) else .stuck
    | none => .stuck)
  | _ => .stuck
/-- an own list is changed no more -/
def frzS : SL → SL
  | .ow ds => .fz (.list ds)
  | s => s
def frzE (i : Nat) (ρ : Env) : Env := match ρ[i]? with
  | some (some s) => ρ.set i (some (frzS s))
  | _ => ρ
def sFrz (i : Nat) (s : SE) : SE := fun ρ => s (frzE i ρ)
/-- some slots are forgotten -/
def sWipe (ws : List Nat) (s : SE) : SE := fun ρ => s (wp ws ρ)
def forGo (tg : TGT) (ws : List Nat) (body : SE) : List PyData → Env → SO
  | [], ρ => .nx ρ
  | d :: r, ρ => match tg d ρ with
    | none => .stuck
    | some ρ1 => match body ρ1 with
      | .nx ρ2 => forGo tg ws body r (wp ws ρ2)
      | .ct ρ2 => forGo tg ws body r (wp ws ρ2)
      | .bk ρ2 => .nx (wp ws ρ2)
      | .rt x ρ2 => .rt x ρ2
      | .ex n ρ2 => .ex n ρ2
      | .stuck => .stuck
def sFor (w : LE) (tg : TGT) (ws : List Nat) (body : SE) : SE := fun ρ => wOut (w ρ) ρ fun ds => forGo tg ws body ds ρ
def whGo (c : BE) (ws : List Nat) (body : SE) : Nat → Env → SO
  | 0, _ => .stuck
  | n + 1, ρ => wOut (c ρ) ρ fun x => if x then (match body ρ with
      | .nx ρ2 => whGo c ws body n (wp ws ρ2)
      | .ct ρ2 => whGo c ws body n (wp ws ρ2)
      | .bk ρ2 => .nx (wp ws ρ2)
      | .rt x ρ2 => .rt x ρ2
      | .ex n ρ2 => .ex n ρ2
      | .stuck => .stuck) else .nx ρ
def sWhile (n : Nat) (c : BE) (ws : List Nat) (body : SE) : SE := whGo c ws body n
/-! ### caught errors -/
def ex8 : List String := ["NoWeights", "BadWeight", "BadBound", "NoRoom", "BadLengths", "BadWords", "BadBits", "NoSign"]
/-- isinstance(a caught error of class n, T) -/
def exSub (n T : String) : Option Bool := if n ∈ ex8 then (if T = "ValueError" then some true else if T ∈ ex8 then some (decide (n = T)) else none) else none
def eExIs (i : Nat) (T : String) : VE := fun ρ => match ρ[i]? with
  | some (some (.er n)) => match exSub n T with
    | some b => .ok (.bool b)
    | none => .stuck
  | _ => .stuck
def xCallE (F : FN) (i : Nat) : XE := fun ρ => match ρ[i]? with
  | some (some (.er n)) => match F [.er n] with
    | .ok r => .ok r
    | _ => .stuck
  | _ => .stuck
def clrS : Option SL → Option SL
  | some (.er _) => none
  | s => s
def clrE (ρ : Env) : Env := ρ.map clrS
/-- what a suite's end is to the statement behind it -/
def sOut (i : Nat) : SO → SO
  | .nx ρ => .nx ((clrE ρ).set i none)
  | .rt r ρ => .rt r (clrE ρ)
  | .bk ρ => .bk ((clrE ρ).set i none)
  | .ct ρ => .ct ((clrE ρ).set i none)
  | _ => .stuck
def sTryAs (s : SE) (ct : String → Bool) (i : Nat) (g : SE) : SE := fun ρ => match s ρ with
  | .ex n ρ' => if ct n then sOut i (g (ρ'.set i (some (.er n)))) else .stuck
  | o => o
def sOutO : SO → SO
  | .ex _ _ => .stuck
  | o => o
def sTryO (s : SE) (ct : String → Bool) (g : SE) : SE := fun ρ => match s ρ with
  | .ex n ρ' => if ct n then sOutO (g ρ') else .stuck
  | o => o
def ct8 (n : String) : Bool := decide (n ∈ ex8)
def ctOne (T : String) (n : String) : Bool := decide (n = T)
/-- a def by its body -/
def runF (p N : Nat) (g : SE) : FN := fun args => if args.length = p then (match g (args.map some ++ List.replicate (N - p) none) with
  | .nx _ => .ok (.val .none)
  | .rt r _ => .ok r
  | .ex n _ => .exc n
  | _ => .stuck) else .stuck
/-! ### plain -/
def sInsM (i : Nat) (k e : VE) : SE := fun ρ => match ρ[i]? with
  | some (some (.mw ds)) => wOut (k ρ) ρ fun n => wOut (e ρ) ρ fun d => (match n with
    | .int n => if 0 ≤ n ∧ n ≤ ds.length ∧ ds.length < 1000000 then .nx (ρ.set i (some (.mw (ds.take n.toNat ++ d :: ds.drop n.toNat)))) else .stuck
    | _ => .stuck)
  | _ => .stuck
/-- y = [l], l a new list -/
def sSetG (i : Nat) (l : LE) : SE := fun ρ => wOut (l ρ) ρ fun ds => .nx (ρ.set i (some (.og [ds])))
/-- y.append(l), l a new list -/
def sAppG (i : Nat) (l : LE) : SE := fun ρ => match ρ[i]? with
  | some (some (.og dss)) => wOut (l ρ) ρ fun ds => if dss.length < 1000000 then .nx (ρ.set i (some (.og (dss ++ [ds])))) else .stuck
  | _ => .stuck
/-! a def that changes the list handed in first; t.count(k) -/
abbrev FM := List PyData → List SL → Option (List PyData)
/-- it ends without a value -/
def runM (p N : Nat) (g : SE) : FM := fun ds args => if args.length + 1 = p then (match g ((some (.mw ds) :: args.map some) ++ List.replicate (N - p) none) with
  | .nx (some (.mw es) :: _) => some es
  | _ => none) else none
/-- f(x, ..) as a statement, x an own list -/
def sCallM (F : FM) (i : Nat) (ra : AE) : SE := fun ρ => match ρ[i]? with
  | some (some (.ow ds)) => wOut (ra ρ) ρ fun ss => (match F ds ss with
    | some es => .nx (ρ.set i (some (.ow es)))
    | none => .stuck)
  | _ => .stuck
def cntOf (ds : List PyData) : PyData → Out PyData
  | .int k => (match asInts ds with
    | some ns => .ok (.int ((ns.count k : Nat) : Int))
    | none => .stuck)
  | _ => .stuck
def eTCount (a b : VE) : VE := fun ρ => (a ρ).bind fun d => match d with
  | .tuple ds => (b ρ).bind (cntOf ds)
  | _ => .stuck
/-! rows are made longer -/
def flatD : PyData → Bool
  | .int _ => true
  | .bool _ => true
  | .str _ => true
  | .none => true
  | _ => false
def flatS : SL → Bool
  | .fz d => flatD d
  | .ow ds => ds.all flatD
  | .bw ds => ds.all flatD
  | _ => false
def keepFlat (ρ : Env) : Env := ρ.map fun o => match o with
  | some s => if flatS s then some s else none
  | none => none
/-- no list within, two deep -/
def noL1 : PyData → Bool
  | .tuple ds => ds.all flatD
  | d => flatD d
def noL2 : PyData → Bool
  | .tuple ds => ds.all noL1
  | d => flatD d
/-- for y in x: y.append(e), x a list of new lists -/
def sThaw (i j : Nat) (f : VE) : SE := fun ρ => match ρ[i]?, f ρ with
  | some (some (.oo dss)), .ok d => if dss.all (fun ds => decide (ds.length < 1000000) && ds.all noL2) ∧ dss.length < 1000000 ∧ i ≠ j ∧ j < ρ.length then .nx (((keepFlat ρ).set j none).set i (some (.fz (.list (dss.map fun ds => .list (ds ++ [d])))))) else .stuck
  | _, _ => .stuck
end PL

/-! PL2: how the plain values stand in the heap; the rules for expressions. -/
namespace PL
open PySem L2

/-! ### what stays: all but the tables of code objects, which may grow -/
def isTbl : HO → Bool
  | .tbl _ => true
  | _ => false
def Ex (H H' : Hp) : Prop := ∀ b o, H b = some o → isTbl o = false → H' b = some o
theorem Ex.refl (H : Hp) : Ex H H := fun _ _ h _ => h
theorem Ex.trans {H H1 H2 : Hp} (a : Ex H H1) (b : Ex H1 H2) : Ex H H2 := fun x o h n => b x o (a x o h n) n
theorem ex_rd {H H' : Hp} {a : Addr} {u : HO} (e : Ex H H') (hu : isTbl u = false) (h : Rd H a u) : Rd H' a u := by
  rcases h with h | ⟨o, h⟩
  · exact .inl (e _ _ h hu)
  · exact .inr ⟨o, e _ _ h rfl⟩
theorem ex_l {K : PySem.W.Frag} {H H' : Hp} {a : Addr} {xs : List V} (e : Ex H H') (h : SqL K H a xs) : SqL K H' a xs := by
  rcases h with h | h
  · exact .inl (ex_rd e rfl h)
  · exact .inr h
theorem ex_t {K : PySem.W.Frag} {H H' : Hp} {a : Addr} {xs : List V} (e : Ex H H') (h : SqT K H a xs) : SqT K H' a xs := by
  rcases h with h | h
  · exact .inl (ex_rd e rfl h)
  · exact .inr h
structure Gx (τ : List (Addr × Str)) (H H' : Hp) : Prop where
  ex : Ex H H'
  tb : ∀ b o, H b = some o → H' b ≠ none
  tab : ∀ p ∈ τ, LamX.TabS H p.1 p.2 → LamX.TabS H' p.1 p.2
theorem Gx.refl {τ : List (Addr × Str)} (H : Hp) : Gx τ H H := ⟨Ex.refl H, fun b o e z => (by rw [e] at z; cases z), fun _ _ t => t⟩
theorem Gx.trans {τ : List (Addr × Str)} {H H1 H2 : Hp} (a : Gx τ H H1) (b : Gx τ H1 H2) : Gx τ H H2 := by
  refine ⟨a.ex.trans b.ex, fun x o h => ?_, fun p hp t => b.tab p hp (a.tab p hp t)⟩
  cases e : H1 x with
  | none => exact absurd e (a.tb x o h)
  | some u => exact b.tb x u e
theorem Gx.of {τ : List (Addr × Str)} {H H' : Hp} (e : ∀ b o, H b = some o → H' b = some o) : Gx τ H H' := ⟨fun b o h _ => e b o h, fun b o h => by rw [e b o h]; nofun, fun p hp t => t.ext e⟩
theorem Gx.new {τ : List (Addr × Str)} {H : Hp} {p : Addr} {o : HO} (h : H p = none) : Gx τ H (upd H p o) := .of fun a u e => by
  rw [upd_ne (ne_of_none e h)]
  exact e
theorem fresh_back {τ : List (Addr × Str)} {H H' : Hp} {p : Addr} (e : Gx τ H H') (h : H' p = none) : H p = none := by
  cases q : H p with
  | none => rfl
  | some o => exact absurd h (e.tb p o q)
instance {τ : List (Addr × Str)} {H H' : Hp} : CoeOut (Gx τ H H') (Ex H H') := ⟨Gx.ex⟩
/-- all but what may be changed stays -/
structure ExM (τ : List (Addr × Str)) (M : List Addr) (H H' : Hp) : Prop where
  st : ∀ b o, b ∉ M → H b = some o → isTbl o = false → H' b = some o
  tb : ∀ b o, H b = some o → H' b ≠ none
  tab : ∀ p ∈ τ, LamX.TabS H p.1 p.2 → LamX.TabS H' p.1 p.2
theorem ExM.grow {τ : List (Addr × Str)} {M : List Addr} {H H1 H2 : Hp} (a : ExM τ M H H1) (b : Gx τ H1 H2) : ExM τ M H H2 := by
  refine ⟨fun x o hb h n => b.ex x o (a.st x o hb h n) n, fun x o h => ?_, fun p hp t => b.tab p hp (a.tab p hp t)⟩
  cases e : H1 x with
  | none => exact absurd e (a.tb x o h)
  | some u => exact b.tb x u e
theorem ExM.refl {τ : List (Addr × Str)} (M : List Addr) (H : Hp) : ExM τ M H H := ⟨fun _ _ _ h _ => h, fun b o e z => (by rw [e] at z; cases z), fun _ _ t => t⟩
theorem ExM.gx {τ : List (Addr × Str)} {H H' : Hp} (a : ExM τ [] H H') : Gx τ H H' := ⟨fun b o h n => a.st b o (nomatch ·) h n, a.tb, a.tab⟩
/-- a list, a dict changes: tables stay -/
theorem tab_upd {H : Hp} {p : Addr} {o o' : HO} (h : H p = some o) (n1 : isTbl o = false) (n2 : ∀ φ, o ≠ .ext φ) {P : Addr} {q : Str} (t : LamX.TabS H P q) : LamX.TabS (upd H p o') P q := by
  obtain ⟨ps, h1, h2, h3⟩ := t
  have hp : P ≠ p := fun z => by
    subst z
    rw [h] at h1
    cases h1
    cases n1
  refine ⟨ps, by rw [upd_ne hp]; exact h1, h2, fun pos cv hc => ?_⟩
  obtain ⟨c, e1, e2⟩ := h3 pos cv hc
  refine ⟨c, e1, ?_⟩
  have hc : c ≠ p := fun z => by
    subst z
    rw [h] at e2
    exact n2 _ (Option.some.inj e2)
  rw [upd_ne hc]
  exact e2
/-- an object that may be changed, or is new, changes -/
theorem ExM.put {τ : List (Addr × Str)} {M : List Addr} {H H' : Hp} {p : Addr} {o o' : HO} (a : ExM τ M H H') (hp0 : H p = none ∨ p ∈ M) (h : H' p = some o) (n1 : isTbl o = false) (n2 : ∀ φ, o ≠ .ext φ) : ExM τ M H (upd H' p o') := by
  refine ⟨fun b u hb e n => ?_, fun b u e => ?_, fun p hp t => tab_upd h n1 n2 (a.tab p hp t)⟩
  · have : b ≠ p := fun z => by
      subst z
      rcases hp0 with hp | hp
      · rw [hp] at e; cases e
      · exact hb hp
    rw [upd_ne this]
    exact a.st b u hb e n
  · by_cases hb : b = p
    · subst hb; rw [upd_same]; nofun
    · rw [upd_ne hb]; exact a.tb b u e
theorem Gx.mut {τ : List (Addr × Str)} {H H' : Hp} {p : Addr} {o o' : HO} (a : Gx τ H H') (hp0 : H p = none) (h : H' p = some o) (n1 : isTbl o = false := by rfl) (n2 : ∀ φ, o ≠ .ext φ := by nofun) : Gx τ H (upd H' p o') := by
  refine ⟨fun b u e n => ?_, fun b u e => ?_, fun p hp t => tab_upd h n1 n2 (a.tab p hp t)⟩
  · rw [upd_ne (ne_of_none e hp0)]
    exact a.ex b u e n
  · rw [upd_ne (ne_of_none e hp0)]
    exact a.tb b u e
/-! ### heaps without the hidden objects -/
/-- tuples of which is not known that they hold no instance dict -/
def badT : HO → Bool
  | .tup _ => true
  | .frz o (.tup _) => o.dict.isSome
  | _ => false
def hid (O : List Addr) (H : Hp) : Hp := fun b => if b ∈ O then none else match H b with
  | some u => if badT u = true then none else some u
  | none => none
theorem hid_out {O : List Addr} {H : Hp} {b : Addr} {o : HO} (h : b ∉ O) (e : H b = some o) (n : badT o = false := by rfl) : hid O H b = some o := by
  unfold hid
  rw [if_neg h, e]
  dsimp only
  rw [if_neg (by rw [n]; decide)]
theorem hid_in {O : List Addr} {H : Hp} {b : Addr} (h : b ∈ O) : hid O H b = none := if_pos h
theorem hid_none {O : List Addr} {H : Hp} {b : Addr} (h : H b = none) : hid O H b = none := by
  unfold hid
  rw [h]
  split <;> rfl
theorem hid_of3 {O : List Addr} {H : Hp} {b : Addr} {o : HO} (e : hid O H b = some o) : b ∉ O ∧ H b = some o ∧ badT o = false := by
  unfold hid at e
  split at e
  · cases e
  · rename_i hb
    cases q : H b with
    | none => rw [q] at e; cases e
    | some u =>
      rw [q] at e
      dsimp only at e
      split at e
      · cases e
      · rename_i hn
        cases e
        exact ⟨hb, rfl, Bool.eq_false_iff.mpr hn⟩
theorem hid_of {O : List Addr} {H : Hp} {b : Addr} {o : HO} (e : hid O H b = some o) : b ∉ O ∧ H b = some o := ⟨(hid_of3 e).1, (hid_of3 e).2.1⟩
theorem hid_ex {O : List Addr} {H : Hp} : Ex (hid O H) H := fun b o e _ => (hid_of e).2
theorem hid_mono {τ : List (Addr × Str)} {O : List Addr} {H H' : Hp} (x : Gx τ H H') : Ex (hid O H) (hid O H') := fun b o e n => by
  obtain ⟨hb, e', hn⟩ := hid_of3 e
  exact hid_out hb (x.ex b o e' n) hn
theorem hid_sub {O O' : List Addr} {H : Hp} (h : ∀ b ∈ O', b ∈ O) : Ex (hid O H) (hid O' H) := fun b o e _ => by
  obtain ⟨hb, e', hn⟩ := hid_of3 e
  exact hid_out (fun z => hb (h b z)) e' hn
/-- a new object is hidden, or not -/
theorem hid_new {O : List Addr} {H : Hp} {p : Addr} {o : HO} (h : H p = none) : Ex (hid O H) (hid (p :: O) (upd H p o)) := fun b u e _ => by
  obtain ⟨hb, e', hn⟩ := hid_of3 e
  have hp : b ≠ p := ne_of_none e' h
  exact hid_out (by simp only [List.mem_cons, not_or]; exact ⟨hp, hb⟩) (by rw [upd_ne hp]; exact e') hn
/-- a hidden object changes -/
theorem hid_upd {O : List Addr} {H : Hp} {p : Addr} {o : HO} (h : p ∈ O) : hid O (upd H p o) = hid O H := by
  funext b
  unfold hid
  split
  · rfl
  · rename_i hb
    have : b ≠ p := fun z => hb (by rw [z]; exact h)
    rw [upd_ne this]

/-! ### data -/
end PL
namespace L2
open PySem PL
section
variable {K : PySem.W.Frag}
mutual
theorem Dp.mono {G G' : Hp} (x : Ex G G') : ∀ {v : V} {d : PyData}, Dp K G v d → Dp K G' v d
  | _, _, .non => .non
  | _, _, .bl b => .bl b
  | _, _, .int i => .int i
  | _, _, .str s => .str s
  | _, _, .lst h a => .lst (ex_l x h) (DpAll.mono x a)
  | _, _, .tup h a => .tup (ex_t x h) (DpAll.mono x a)
theorem DpAll.mono {G G' : Hp} (x : Ex G G') : ∀ {vs : List V} {ds : List PyData}, DpAll K G vs ds → DpAll K G' vs ds
  | _, _, .nil => .nil
  | _, _, .cons h t => .cons (Dp.mono x h) (DpAll.mono x t)
end
variable {G : Hp}
theorem DpAll.len : ∀ {vs : List V} {ds : List PyData}, DpAll K G vs ds → vs.length = ds.length
  | _, _, .nil => rfl
  | _, _, .cons _ t => by rw [List.length_cons, List.length_cons, DpAll.len t]
theorem DpAll.get : ∀ {vs : List V} {ds : List PyData} {i : Nat} {d : PyData}, DpAll K G vs ds → ds[i]? = some d → ∃ v, vs[i]? = some v ∧ Dp K G v d
  | _, _, _, _, .nil, e => by simp at e
  | _, _, 0, _, .cons h _, e => by simp at e; subst e; exact ⟨_, rfl, h⟩
  | _, _, i + 1, _, .cons _ t, e => by
    obtain ⟨v, h1, h2⟩ := DpAll.get (i := i) t (by simpa using e)
    exact ⟨v, by simpa using h1, h2⟩
theorem DpAll.getV : ∀ {vs : List V} {ds : List PyData} {i : Nat} {v : V}, DpAll K G vs ds → vs[i]? = some v → ∃ d, ds[i]? = some d ∧ Dp K G v d
  | _, _, _, _, .nil, e => by simp at e
  | _, _, 0, _, .cons h _, e => by simp at e; subst e; exact ⟨_, rfl, h⟩
  | _, _, i + 1, _, .cons _ t, e => by
    obtain ⟨v, h1, h2⟩ := DpAll.getV (i := i) t (by simpa using e)
    exact ⟨v, by simpa using h1, h2⟩
theorem DpAll.append : ∀ {vs ws : List V} {ds es : List PyData}, DpAll K G vs ds → DpAll K G ws es → DpAll K G (vs ++ ws) (ds ++ es)
  | _, _, _, _, .nil, s => s
  | _, _, _, _, .cons h t, s => .cons h (DpAll.append t s)
theorem DpAll.take : ∀ {vs : List V} {ds : List PyData} (n : Nat), DpAll K G vs ds → DpAll K G (vs.take n) (ds.take n)
  | _, _, 0, _ => .nil
  | _, _, _ + 1, .nil => .nil
  | _, _, n + 1, .cons h t => .cons h (DpAll.take n t)
theorem DpAll.drop : ∀ {vs : List V} {ds : List PyData} (n : Nat), DpAll K G vs ds → DpAll K G (vs.drop n) (ds.drop n)
  | _, _, 0, r => r
  | _, _, _ + 1, .nil => .nil
  | _, _, n + 1, .cons _ t => DpAll.drop n t
theorem DpAll.set {v : V} {d : PyData} (h : Dp K G v d) : ∀ {vs : List V} {ds : List PyData} (i : Nat), DpAll K G vs ds → DpAll K G (vs.set i v) (ds.set i d)
  | _, _, _, .nil => .nil
  | _, _, 0, .cons _ t => .cons h t
  | _, _, i + 1, .cons q t => .cons q (DpAll.set h i t)
theorem DpAll.erase : ∀ {vs : List V} {ds : List PyData} (i : Nat), DpAll K G vs ds → DpAll K G (vs.eraseIdx i) (ds.eraseIdx i)
  | _, _, _, .nil => .nil
  | _, _, 0, .cons _ t => t
  | _, _, i + 1, .cons q t => .cons q (DpAll.erase i t)
theorem DpAll.reverse {vs : List V} {ds : List PyData} (h : DpAll K G vs ds) : DpAll K G vs.reverse ds.reverse := by
  induction vs generalizing ds with
  | nil => cases h; exact .nil
  | cons v vs ih =>
    cases h with
    | cons h t =>
      rw [List.reverse_cons, List.reverse_cons]
      exact (ih t).append (.cons h .nil)
theorem DpAll.rep {vs : List V} {ds : List PyData} (h : DpAll K G vs ds) : ∀ n : Nat, DpAll K G (List.replicate n vs).flatten (List.replicate n ds).flatten
  | 0 => .nil
  | n + 1 => by
    rw [List.replicate_succ, List.replicate_succ, List.flatten_cons, List.flatten_cons]
    exact h.append (DpAll.rep h n)
theorem DpAll.cut {vs : List V} {ds : List PyData} (h : DpAll K G vs ds) (lo hi : Option Int) : DpAll K G (cutV vs lo hi) (cutD ds lo hi) := by
  unfold cutV cutD
  rw [h.len]
  exact (h.drop _).take _
theorem DpAll.at_ {vs : List V} {ds : List PyData} {k : Int} {d : PyData} (h : DpAll K G vs ds) (e : atI ds k = some d) : ∃ v, L2.atI vs k = some v ∧ Dp K G v d := by
  unfold L2.atI at e ⊢
  rw [h.len]
  cases q : ixN ds.length k with
  | none => rw [q] at e; cases e
  | some j =>
    rw [q] at e
    exact h.get e
theorem DpAll.ints : ∀ {vs : List V} {ds : List PyData} {ns : List Int}, DpAll K G vs ds → asInts ds = some ns → vs = ns.map V.int
  | _, _, ns, .nil, e => by
    have : ns = [] := by simpa [asInts] using e.symm
    subst this; rfl
  | _, d :: ds, ns, .cons h t, e => by
    unfold asInts at e
    rw [List.mapM_cons] at e
    cases d with
    | int i =>
      cases h
      cases q : asInts ds with
      | none =>
        unfold asInts at q
        rw [q] at e
        simp at e
      | some ms =>
        unfold asInts at q
        rw [q] at e
        have e' : i :: ms = ns := by simpa using e
        subst e'
        rw [DpAll.ints t (ns := ms) (by unfold asInts; exact q)]
        rfl
    | _ => simp at e
theorem DpAll.bools : ∀ {vs : List V} {ds : List PyData} {ns : List Bool}, DpAll K G vs ds → asBools ds = some ns → vs = ns.map V.bl
  | _, _, ns, .nil, e => by
    have : ns = [] := by simpa [asBools] using e.symm
    subst this; rfl
  | _, d :: ds, ns, .cons h t, e => by
    unfold asBools at e
    rw [List.mapM_cons] at e
    cases d with
    | bool i =>
      cases h
      cases q : asBools ds with
      | none =>
        unfold asBools at q
        rw [q] at e
        simp at e
      | some ms =>
        unfold asBools at q
        rw [q] at e
        have e' : i :: ms = ns := by simpa using e
        subst e'
        rw [DpAll.bools t (ns := ms) (by unfold asBools; exact q)]
        rfl
    | _ => simp at e
theorem DpAll.strs : ∀ {vs : List V} {ds : List PyData} {ns : List Str}, DpAll K G vs ds → allStr ds = some ns → vs = ns.map V.str
  | _, _, ns, .nil, e => by
    have : ns = [] := by simpa [allStr] using e.symm
    subst this; rfl
  | _, d :: ds, ns, .cons h t, e => by
    unfold allStr at e
    rw [List.mapM_cons] at e
    cases d with
    | str i =>
      cases h
      cases q : allStr ds with
      | none =>
        unfold allStr at q
        rw [q] at e
        simp at e
      | some ms =>
        unfold allStr at q
        rw [q] at e
        have e' : i :: ms = ns := by simpa using e
        subst e'
        rw [DpAll.strs t (ns := ms) (by unfold allStr; exact q)]
        rfl
    | _ => simp at e
/-- pairs of a dict -/
inductive KvAll (K : PySem.W.Frag) (G : Hp) : List (List Key × V) → List (List Int × PyData) → Prop
  | nil : KvAll K G [] []
  | cons {k : List Int} {v : V} {d : PyData} {r : List (List Key × V)} {s : List (List Int × PyData)} : Dp K G v d → KvAll K G r s → KvAll K G ((k.map Sum.inl, v) :: r) ((k, d) :: s)
theorem KvAll.mono {G' : Hp} (x : Ex G G') {a : List (List Key × V)} {b : List (List Int × PyData)} (h : KvAll K G a b) : KvAll K G' a b := by
  induction h with
  | nil => exact .nil
  | cons h _ ih => exact .cons (Dp.mono x h) ih
theorem KvAll.len {a : List (List Key × V)} {b : List (List Int × PyData)} (h : KvAll K G a b) : a.length = b.length := by
  induction h with
  | nil => rfl
  | cons h _ ih => rw [List.length_cons, List.length_cons, ih]
end
end L2
namespace PL
open PySem L2

/-! ### the state -/
structure PC where
  M : List Addr
  H0 : Hp
  O0 : List Addr
  W : WX
  cv : String → Value
  EX : Addr → String → Prop
  T : List (Addr × Str)
def ownS : SL → Bool
  | .ow _ => true
  | .dow _ => true
  | .mw _ => true
  | .og _ => true
  | _ => false
/-- lists that are new, each another one -/
inductive Rows (K : PySem.W.Frag) (G : Hp) : List Addr → List (List PyData) → Prop
  | nil : Rows K G [] []
  | cons {q : Addr} {us : List V} {ds : List PyData} {qs : List Addr} {dss : List (List PyData)} : G q = some (.lst us) → DpAll K G us ds → Rows K G qs dss → Rows K G (q :: qs) (ds :: dss)
theorem Rows.mono {K : PySem.W.Frag} {G G' : Hp} (x : Ex G G') : ∀ {qs : List Addr} {dss : List (List PyData)}, Rows K G qs dss → Rows K G' qs dss
  | _, _, .nil => .nil
  | _, _, .cons h a t => .cons (x _ _ h rfl) (DpAll.mono x a) (Rows.mono x t)
theorem Rows.dp {K : PySem.W.Frag} {G : Hp} : ∀ {qs : List Addr} {dss : List (List PyData)}, Rows K G qs dss → DpAll K G (qs.map V.ref) (dss.map PyData.list)
  | _, _, .nil => .nil
  | _, _, .cons h a t => .cons (.lst (SqL.of h) a) (Rows.dp t)
structure Oo (K : PySem.W.Frag) (H0 G : Hp) (qs : List Addr) (dss : List (List PyData)) : Prop where
  nd : qs.Nodup
  new : ∀ q ∈ qs, H0 q = none
  row : Rows K G qs dss
theorem Oo.mono {K : PySem.W.Frag} {H0 G G' : Hp} {qs : List Addr} {dss : List (List PyData)} (x : Ex G G') (h : Oo K H0 G qs dss) : Oo K H0 G' qs dss := ⟨h.nd, h.new, h.row.mono x⟩
def OoF (K : PySem.W.Frag) (H0 G : Hp) (v : V) (dss : List (List PyData)) : Prop := ∃ p qs, v = .ref p ∧ G p = some (.lst (qs.map V.ref)) ∧ p ∉ qs ∧ Oo K H0 G qs dss
theorem OoF.mono {K : PySem.W.Frag} {H0 G G' : Hp} {v : V} {dss : List (List PyData)} (x : Ex G G') (h : OoF K H0 G v dss) : OoF K H0 G' v dss := by
  obtain ⟨p, qs, a, b, c, d⟩ := h
  exact ⟨p, qs, a, x _ _ b rfl, c, d.mono x⟩
theorem OoF.dp {K : PySem.W.Frag} {H0 G : Hp} {v : V} {dss : List (List PyData)} (h : OoF K H0 G v dss) : Dp K G v (.list (dss.map PyData.list)) := by
  obtain ⟨p, qs, rfl, b, c, d⟩ := h
  exact .lst (SqL.of b) d.row.dp
def SlotOk (K : PySem.W.Frag) (C : PC) (O : List Addr) (H : Hp) (v : V) : SL → Prop
  | .fz d => Dp K (hid O H) v d
  | .ow ds => ∃ p vs, v = .ref p ∧ p ∈ O ∧ (C.H0 p = none ∨ p ∈ C.M) ∧ H p = some (.lst vs) ∧ DpAll K (hid O H) vs ds
  | .bw ds => ∃ p vs, v = .ref p ∧ p ∉ C.M ∧ SqL K C.H0 p vs ∧ DpAll K (hid O H) vs ds
  | .dow kvs => ∃ p vs, v = .ref p ∧ p ∈ O ∧ (C.H0 p = none ∨ p ∈ C.M) ∧ H p = some (.dT vs) ∧ KvAll K (hid O H) vs kvs
  | .dbw kvs => ∃ p vs, v = .ref p ∧ p ∉ C.M ∧ C.H0 p = some (.dT vs) ∧ KvAll K (hid O H) vs kvs
  | .er n => ∃ a, v = .ref a ∧ C.EX a n
  | .mw ds => ∃ p vs, v = .ref p ∧ p ∈ O ∧ p ∈ C.M ∧ H p = some (.lst vs) ∧ DpAll K (hid O H) vs ds
  | .og dss => ∃ p qs, v = .ref p ∧ p ∈ O ∧ C.H0 p = none ∧ H p = some (.lst (qs.map V.ref)) ∧ Oo K C.H0 (hid O H) qs dss
  | .oo dss => OoF K C.H0 (hid O H) v dss
structure Rep (K : PySem.W.Frag) (C : PC) (O : List Addr) (H : Hp) (σ : St) (ρ : Env) : Prop where
  ex : ExM C.T C.M C.H0 H
  o0 : (∀ b ∈ C.O0, C.H0 b ≠ none) ∧ LamX.Tabs C.T C.H0
  sub : ∀ b ∈ C.O0, b ∈ O
  alive : ∀ b ∈ O, H b ≠ none
  len : σ.length = ρ.length
  slot : ∀ (i : Nat) (s : SL), ρ[i]? = some (some s) → ∃ v, σ[i]? = some (some v) ∧ SlotOk K C O H v s
  apart : ∀ (i j : Nat) (s t : SL) (p : Addr), i ≠ j → ρ[i]? = some (some s) → ownS s = true → σ[i]? = some (some (.ref p)) → ρ[j]? = some (some t) → ownS t = true → σ[j]? = some (some (.ref p)) → False
section
variable {K : PySem.W.Frag} {C : PC} {O O' : List Addr} {H H' : Hp} {σ : St} {ρ : Env}
/-- the heap has grown -/
theorem Rep.grow (R : Rep K C O H σ ρ) (x : Gx C.T H H') : Rep K C O H' σ ρ where
  ex := R.ex.grow x
  o0 := R.o0
  sub := R.sub
  alive := fun b hb e => R.alive b hb (fresh_back x e)
  len := R.len
  slot := fun i s e => by
    obtain ⟨v, h1, h2⟩ := R.slot i s e
    refine ⟨v, h1, ?_⟩
    cases s with
    | fz d => exact Dp.mono (hid_mono x) h2
    | ow ds => obtain ⟨p, vs, a, b, c, d, e⟩ := h2; exact ⟨p, vs, a, b, c, x.ex _ _ d rfl, DpAll.mono (hid_mono x) e⟩
    | bw ds => obtain ⟨p, vs, a, b, c, e⟩ := h2; exact ⟨p, vs, a, b, c, DpAll.mono (hid_mono x) e⟩
    | dow ds => obtain ⟨p, vs, a, b, c, d, e⟩ := h2; exact ⟨p, vs, a, b, c, x.ex _ _ d rfl, KvAll.mono (hid_mono x) e⟩
    | dbw ds => obtain ⟨p, vs, a, b, c, e⟩ := h2; exact ⟨p, vs, a, b, c, KvAll.mono (hid_mono x) e⟩
    | er n => exact h2
    | mw ds => obtain ⟨p, vs, a, b, c, d, e⟩ := h2; exact ⟨p, vs, a, b, c, x.ex _ _ d rfl, DpAll.mono (hid_mono x) e⟩
    | og dss => obtain ⟨p, vs, a, b, c, d, e⟩ := h2; exact ⟨p, vs, a, b, c, x.ex _ _ d rfl, e.mono (hid_mono x)⟩
    | oo dss => exact OoF.mono (hid_mono x) h2
  apart := R.apart
/-- the tables -/
theorem Rep.tabs (R : Rep K C O H σ ρ) : LamX.Tabs C.T H := fun p hp => R.ex.tab p hp (R.o0.2 p hp)
/-- a borrowed list in the heap at hand -/
theorem Rep.bwL (R : Rep K C O H σ ρ) {p : Addr} {vs : List V} (hM : p ∉ C.M) (h : SqL K C.H0 p vs) : SqL K H p vs := by
  rcases h with (h | ⟨o, h⟩) | h
  · exact .inl (.inl (R.ex.st p _ hM h rfl))
  · exact .inl (.inr ⟨o, R.ex.st p _ hM h rfl⟩)
  · exact .inr h
/-- the value in a slot, to be read -/
theorem Rep.rd (R : Rep K C O H σ ρ) {i : Nat} {d : PyData} (e : rVar i ρ = .ok d) : ∃ v, σ[i]? = some (some v) ∧ Dp K H v d := by
  unfold rVar at e
  cases q : ρ[i]? with
  | none => rw [q] at e; cases e
  | some o =>
    cases o with
    | none => rw [q] at e; cases e
    | some s =>
      obtain ⟨v, h1, h2⟩ := R.slot i s q
      refine ⟨v, h1, ?_⟩
      rw [q] at e
      cases s with
      | fz d' => cases e; exact Dp.mono hid_ex h2
      | ow ds => obtain ⟨p, vs, rfl, _, _, a, b⟩ := h2; cases e; exact .lst (SqL.of a) (DpAll.mono hid_ex b)
      | bw ds => obtain ⟨p, vs, rfl, hM, a, b⟩ := h2; cases e; exact .lst (R.bwL hM a) (DpAll.mono hid_ex b)
      | dow ds => cases e
      | dbw ds => cases e
      | er n => cases e
      | mw ds => obtain ⟨p, vs, rfl, _, _, a, b⟩ := h2; cases e; exact .lst (SqL.of a) (DpAll.mono hid_ex b)
      | og ds => obtain ⟨p, vs, rfl, _, _, a, b⟩ := h2; cases e; exact .lst (SqL.of a) (DpAll.mono hid_ex b.row.dp)
      | oo ds => cases e; exact Dp.mono hid_ex (OoF.dp h2)
theorem Rep.rl (R : Rep K C O H σ ρ) {i : Nat} {ds : List PyData} (e : lVar i ρ = .ok ds) : ∃ p vs, σ[i]? = some (some (.ref p)) ∧ SqL K H p vs ∧ DpAll K (hid O H) vs ds := by
  unfold lVar at e
  cases q : ρ[i]? with
  | none => rw [q] at e; cases e
  | some o =>
    cases o with
    | none => rw [q] at e; cases e
    | some s =>
      obtain ⟨v, h1, h2⟩ := R.slot i s q
      rw [q] at e
      cases s with
      | fz d' =>
        cases d' with
        | list ds' =>
          cases e
          cases (show Dp K (hid O H) v (.list ds) from h2) with
          | lst a b => exact ⟨_, _, h1, ex_l hid_ex a, b⟩
        | _ => cases e
      | ow ds => obtain ⟨p, vs, rfl, _, _, a, b⟩ := h2; cases e; exact ⟨p, vs, h1, SqL.of a, b⟩
      | bw ds => obtain ⟨p, vs, rfl, hM, a, b⟩ := h2; cases e; exact ⟨p, vs, h1, R.bwL hM a, b⟩
      | dow ds => cases e
      | dbw ds => cases e
      | er n => cases e
      | mw ds => obtain ⟨p, vs, rfl, _, _, a, b⟩ := h2; cases e; exact ⟨p, vs, h1, SqL.of a, b⟩
      | og ds => obtain ⟨p, vs, rfl, _, _, a, b⟩ := h2; cases e; exact ⟨p, _, h1, SqL.of a, b.row.dp⟩
      | oo ds => obtain ⟨p, vs, rfl, a, _, b⟩ := h2; cases e; exact ⟨p, _, h1, ex_l hid_ex (SqL.of a), b.row.dp⟩
theorem Rep.fz (R : Rep K C O H σ ρ) {i : Nat} {d : PyData} (e : eVar i ρ = .ok d) : ∃ v, σ[i]? = some (some v) ∧ Dp K (hid O H) v d := by
  unfold eVar at e
  cases q : ρ[i]? with
  | none => rw [q] at e; cases e
  | some o =>
    cases o with
    | none => rw [q] at e; cases e
    | some s =>
      obtain ⟨v, h1, h2⟩ := R.slot i s q
      rw [q] at e
      cases s with
      | fz d' => cases e; exact ⟨v, h1, h2⟩
      | oo dss => cases e; exact ⟨v, h1, OoF.dp h2⟩
      | _ => cases e
theorem Rep.own (R : Rep K C O H σ ρ) {i : Nat} {ds : List PyData} (q : ρ[i]? = some (some (.ow ds))) : ∃ p vs, σ[i]? = some (some (.ref p)) ∧ p ∈ O ∧ (C.H0 p = none ∨ p ∈ C.M) ∧ H p = some (.lst vs) ∧ DpAll K (hid O H) vs ds := by
  obtain ⟨v, h1, p, vs, rfl, h2⟩ := R.slot i _ q
  exact ⟨p, vs, h1, h2⟩
end

/-! ### judgements -/
section
variable (K : PySem.W.Frag) (C : PC)
/-- what is shown of an expression's end -/
def Fin {α : Type} (σ : St) (H : Hp) (o : Out α) (k : α → Prop) : Prop := match o with
  | .ok a => k a
  | .exc n => ∀ H', Gx C.T H H' → C.W (C.cv n) none σ H'
  | .stuck => False
/-- a value that never changes -/
def tV (f : VE) : TE := fun σ H Q => ∃ O ρ, Rep K C O H σ ρ ∧ Fin C σ H (f ρ) fun d => ∀ v H', Gx C.T H H' → Dp K (hid O H') v d → Q v H'
/-- a thing that is read -/
def tR (f : VE) : TE := fun σ H Q => ∃ O ρ, Rep K C O H σ ρ ∧ Fin C σ H (f ρ) fun d => ∀ v H', Gx C.T H H' → Dp K H' v d → Q v H'
/-- a list that is read -/
def tL (f : LE) : TE := fun σ H Q => ∃ O ρ, Rep K C O H σ ρ ∧ Fin C σ H (f ρ) fun ds => ∀ p vs H', Gx C.T H H' → SqL K H' p vs → DpAll K (hid O H') vs ds → Q (.ref p) H'
/-- a list of the program's own -/
def tO (f : LE) : TE := fun σ H Q => ∃ O ρ, Rep K C O H σ ρ ∧ Fin C σ H (f ρ) fun ds => ∀ p vs H', Gx C.T H H' → H' p = some (.lst vs) → DpAll K (hid O H') vs ds → Q (.ref p) H'
/-- a new list -/
def tF (f : LE) : TE := fun σ H Q => ∃ O ρ, Rep K C O H σ ρ ∧ Fin C σ H (f ρ) fun ds => ∀ p vs H', Gx C.T H H' → H p = none → H' p = some (.lst vs) → DpAll K (hid (p :: O) H') vs ds → Q (.ref p) H'
/-- what a call hands back -/
def RetC (O : List Addr) (H H' : Hp) (v : V) : RV → Prop
  | .val d => Dp K (hid O H') v d
  | .fresh ds => ∃ p vs, v = .ref p ∧ H p = none ∧ H' p = some (.lst vs) ∧ DpAll K (hid (p :: O) H') vs ds
  | .dfresh kvs => ∃ p vs, v = .ref p ∧ H p = none ∧ H' p = some (.dT vs) ∧ KvAll K (hid (p :: O) H') vs kvs
  | .gfresh dss => ∃ p qs, v = .ref p ∧ H p = none ∧ H' p = some (.lst (qs.map V.ref)) ∧ Oo K H (hid (p :: O) H') qs dss
def tX (f : XE) : TE := fun σ H Q => ∃ O ρ, Rep K C O H σ ρ ∧ Fin C σ H (f ρ) fun r => ∀ v H', Gx C.T H H' → RetC K O H H' v r → Q v H'
/-- a test -/
def tT (f : BE) : TT := fun σ H Q => ∃ O ρ, Rep K C O H σ ρ ∧ Fin C σ H (f ρ) fun b => ∀ H', Gx C.T H H' → Q b H'
/-- several values -/
def tA (f : LE) : TA := fun σ H Q => ∃ O ρ, Rep K C O H σ ρ ∧ Fin C σ H (f ρ) fun ds => ∀ vs H', Gx C.T H H' → DpAll K (hid O H') vs ds → Q vs H'
/-- arguments of a def -/
def ArgOk (O : List Addr) (H : Hp) (v : V) : SL → Prop
  | .fz d => Dp K (hid O H) v d
  | .bw ds => ∃ p vs, v = .ref p ∧ SqL K H p vs ∧ DpAll K (hid O H) vs ds
  | .dbw kvs => ∃ p vs, v = .ref p ∧ H p = some (.dT vs) ∧ KvAll K (hid O H) vs kvs
  | _ => False
inductive ArgsOk (O : List Addr) (H : Hp) : List V → List SL → Prop
  | nil : ArgsOk O H [] []
  | cons {v : V} {vs : List V} {s : SL} {ss : List SL} : ArgOk K O H v s → ArgsOk O H vs ss → ArgsOk O H (v :: vs) (s :: ss)
def tAr (f : AE) : TA := fun σ H Q => ∃ O ρ, Rep K C O H σ ρ ∧ Fin C σ H (f ρ) fun ss => ∀ vs H', Gx C.T H H' → ArgsOk K O H' vs ss → Q vs H'
/-- a part of a slice -/
def tP (f : OE) : TO := fun σ H Q => ∃ O ρ, Rep K C O H σ ρ ∧ Fin C σ H (f ρ) fun o => ∀ H', Gx C.T H H' → Q o H'
end
section
variable {K : PySem.W.Frag} {C : PC} {O : List Addr} {H H' : Hp} {σ : St} {ρ : Env}
theorem Fin.bind {α β : Type} {o : Out α} {f : α → Out β} {k : β → Prop} (h : Fin C σ H (o.bind f) k) : Fin C σ H o fun a => Fin C σ H (f a) k := by
  cases o with
  | ok a => exact h
  | exc n => exact h
  | stuck => exact h
theorem Fin.imp {α : Type} {o : Out α} {k k' : α → Prop} (h : Fin C σ H o k) (i : ∀ a, o = .ok a → k a → k' a) : Fin C σ H o k' := by
  cases o with
  | ok a => exact i a rfl h
  | exc n => exact h
  | stuck => exact h
theorem Fin.grow {α : Type} {o : Out α} {k : α → Prop} (h : Fin C σ H o k) (x : Gx C.T H H') : Fin C σ H' o k := by
  cases o with
  | ok a => exact h
  | exc n => exact fun H2 x2 => h H2 (x.trans x2)
  | stuck => exact h
theorem ArgsOk.mono {vs : List V} {ss : List SL} (x : Gx C.T H H') (h : ArgsOk K O H vs ss) : ArgsOk K O H' vs ss := by
  induction h with
  | nil => exact .nil
  | @cons v vs s ss h _ ih =>
    refine .cons ?_ ih
    cases s with
    | fz d => exact Dp.mono (hid_mono x) h
    | bw ds => obtain ⟨p, vs, a, b, c⟩ := h; exact ⟨p, vs, a, ex_l x b, DpAll.mono (hid_mono x) c⟩
    | dbw ds => obtain ⟨p, vs, a, b, c⟩ := h; exact ⟨p, vs, a, x.ex _ _ b rfl, KvAll.mono (hid_mono x) c⟩
    | ow ds => exact h
    | dow ds => exact h
    | er n => exact h
    | mw ds => exact h
    | og ds => exact h
    | oo ds => exact h
theorem ArgsOk.len {vs : List V} {ss : List SL} (h : ArgsOk K O H vs ss) : vs.length = ss.length := by
  induction h with
  | nil => rfl
  | cons _ _ ih => rw [List.length_cons, List.length_cons, ih]
end

/-! ### weakening -/
section
variable {X : Cx} {e : Expr} {es : List Expr} {st : Stmt} {sts : List Stmt}
theorem pe_imp {t t' : TE} (h : PE X e t) (i : ∀ σ H Q, t' σ H Q → t σ H Q) : PE X e t' := ⟨fun pins s σ H Q I q => h.run pins s σ H Q I (i σ H Q q)⟩
theorem pt_imp {t t' : TT} (h : PT X e t) (i : ∀ σ H Q, t' σ H Q → t σ H Q) : PT X e t' := ⟨fun pins s σ H Q I q => h.run pins s σ H Q I (i σ H Q q)⟩
theorem pw_imp {t t' : TT} (h : PW X e t) (i : ∀ σ H Q, t' σ H Q → t σ H Q) : PW X e t' := ⟨fun w pins s σ H Q I q => h.run w pins s σ H Q I (i σ H Q q)⟩
theorem pa_imp {t t' : TA} (h : PA X es t) (i : ∀ σ H Q, t' σ H Q → t σ H Q) : PA X es t' := ⟨fun pos pins s σ H Q I q => h.run pos pins s σ H Q I (i σ H Q q)⟩
theorem po_imp {o : Option Expr} {t t' : TO} (h : PO X o t) (i : ∀ σ H Q, t' σ H Q → t σ H Q) : PO X o t' := ⟨fun pins s σ H Q I q => h.run pins s σ H Q I (i σ H Q q)⟩
theorem ps_imp {t t' : TS} (h : PS X st t) (i : ∀ D σ H, t' D σ H → t D σ H) : PS X st t' := ⟨fun pins s σ H D I q => h.run pins s σ H D I (i D σ H q)⟩
theorem pss_imp {t t' : TS} (h : PSs X sts t) (i : ∀ D σ H, t' D σ H → t D σ H) : PSs X sts t' := ⟨fun pins s σ H D I q => h.run pins s σ H D I (i D σ H q)⟩
theorem pts_imp {t t' : TT} (h : PTs X es t) (i : ∀ σ H Q, t' σ H Q → t σ H Q) : PTs X es t' := ⟨fun pins s σ H Q I q => h.run pins s σ H Q I (i σ H Q q)⟩
theorem pi_imp {tg : Expr} {t t' : TI} (h : PI X tg e t) (i : ∀ σ H R, t' σ H R → t σ H R) : PI X tg e t' := ⟨fun pins s σ H R I q => h.run pins s σ H R I (i σ H R q)⟩
end

/-! ### coercions -/
section
variable {X : Cx} {C : PC} {e : Expr}
theorem r_V {f : VE} (h : PE X e (tV X.K C f)) : PE X e (tR X.K C f) := pe_imp h fun σ H Q ⟨O, ρ, R, q⟩ => ⟨O, ρ, R, q.imp fun d _ k v H' x p => k v H' x (Dp.mono hid_ex p)⟩
theorem v_F {f : LE} (h : PE X e (tF X.K C f)) : PE X e (tV X.K C (eOfL f)) := pe_imp h fun σ H Q ⟨O, ρ, R, q⟩ => ⟨O, ρ, R, (Fin.bind q).imp fun ds _ k p vs H' x n a b => k (.ref p) H' x (.lst (SqL.of (hid_out (fun z => R.alive p z n) a)) (DpAll.mono (hid_sub fun b z => List.mem_cons_of_mem _ z) b))⟩
theorem o_F {f : LE} (h : PE X e (tF X.K C f)) : PE X e (tO X.K C f) := pe_imp h fun σ H Q ⟨O, ρ, R, q⟩ => ⟨O, ρ, R, q.imp fun ds _ k p vs H' x n a b => k p vs H' x a (DpAll.mono (hid_sub fun b z => List.mem_cons_of_mem _ z) b)⟩
theorem l_O {f : LE} (h : PE X e (tO X.K C f)) : PE X e (tL X.K C f) := pe_imp h fun σ H Q ⟨O, ρ, R, q⟩ => ⟨O, ρ, R, q.imp fun ds _ k p vs H' x a b => k p vs H' x (SqL.of a) b⟩
theorem l_F {f : LE} (h : PE X e (tF X.K C f)) : PE X e (tL X.K C f) := l_O (o_F h)
theorem l_V {f : VE} (h : PE X e (tV X.K C f)) : PE X e (tL X.K C (lOfV f)) := pe_imp h fun σ H Q ⟨O, ρ, R, q⟩ => ⟨O, ρ, R, (Fin.bind q).imp fun d _ k v H' x p => by
  cases p with
  | lst a b => exact (show _ from k) _ _ H' x (ex_l hid_ex a) b
  | non => exact k.elim
  | bl _ => exact k.elim
  | int _ => exact k.elim
  | str _ => exact k.elim
  | tup _ _ => exact k.elim⟩
theorem r_L {f : LE} (h : PE X e (tL X.K C f)) : PE X e (tR X.K C (eOfL f)) := pe_imp h fun σ H Q ⟨O, ρ, R, q⟩ => ⟨O, ρ, R, (Fin.bind q).imp fun ds _ k p vs H' x a b => k (.ref p) H' x (.lst a (DpAll.mono hid_ex b))⟩
theorem v_X {f : XE} (h : PE X e (tX X.K C f)) : PE X e (tV X.K C (eX f)) := pe_imp h fun σ H Q ⟨O, ρ, R, q⟩ => ⟨O, ρ, R, (Fin.bind q).imp fun r _ k v H' x p => by
  cases r with
  | val d => exact k v H' x p
  | fresh ds =>
    obtain ⟨a, vs, rfl, n, h1, h2⟩ := p
    exact k _ H' x (.lst (SqL.of (hid_out (fun z => R.alive a z n) h1)) (DpAll.mono (hid_sub fun b z => List.mem_cons_of_mem _ z) h2))
  | dfresh _ => exact k.elim
  | gfresh _ => exact k.elim⟩
theorem f_X {f : XE} (h : PE X e (tX X.K C f)) : PE X e (tF X.K C (lX f)) := pe_imp h fun σ H Q ⟨O, ρ, R, q⟩ => ⟨O, ρ, R, (Fin.bind q).imp fun r _ k v H' x p => by
  cases r with
  | val d => exact k.elim
  | fresh ds =>
    obtain ⟨a, vs, rfl, n, h1, h2⟩ := p
    exact k a vs H' x n h1 h2
  | dfresh _ => exact k.elim
  | gfresh _ => exact k.elim⟩

/-! ### names, constants -/
theorem v_var (i : Nat) {x : Str} {pos : Pos} (hN : X.N[i]? = some x := by rfl) (hv : Vis X.env.scope x := by first | exact Or.inl rfl | exact Or.inr (Or.inl rfl) | exact Or.inr (Or.inr rfl)) (hd : (x == ("__debug__" : Str)) = false := by decide)
    (hcd : (x == ("__classdict__" : Str)) = false := by decide) : PE X (.Name x pos) (tV X.K C (eVar i)) := pe_imp (pe_var (i := i) hN hv hd hcd) fun σ H Q ⟨O, ρ, R, q⟩ => by
  cases e : eVar i ρ with
  | ok d =>
    rw [e] at q
    obtain ⟨v, h1, h2⟩ := R.fz e
    exact ⟨v, h1, q v H (Gx.refl H) h2⟩
  | exc n =>
    unfold eVar at e
    split at e <;> cases e
  | stuck => rw [e] at q; exact q.elim
theorem r_var (i : Nat) {x : Str} {pos : Pos} (hN : X.N[i]? = some x := by rfl) (hv : Vis X.env.scope x := by first | exact Or.inl rfl | exact Or.inr (Or.inl rfl) | exact Or.inr (Or.inr rfl)) (hd : (x == ("__debug__" : Str)) = false := by decide)
    (hcd : (x == ("__classdict__" : Str)) = false := by decide) : PE X (.Name x pos) (tR X.K C (rVar i)) := pe_imp (pe_var (i := i) hN hv hd hcd) fun σ H Q ⟨O, ρ, R, q⟩ => by
  cases e : rVar i ρ with
  | ok d =>
    rw [e] at q
    obtain ⟨v, h1, h2⟩ := R.rd e
    exact ⟨v, h1, q v H (Gx.refl H) h2⟩
  | exc n =>
    unfold rVar at e
    split at e <;> cases e
  | stuck => rw [e] at q; exact q.elim
theorem l_var (i : Nat) {x : Str} {pos : Pos} (hN : X.N[i]? = some x := by rfl) (hv : Vis X.env.scope x := by first | exact Or.inl rfl | exact Or.inr (Or.inl rfl) | exact Or.inr (Or.inr rfl)) (hd : (x == ("__debug__" : Str)) = false := by decide)
    (hcd : (x == ("__classdict__" : Str)) = false := by decide) : PE X (.Name x pos) (tL X.K C (lVar i)) := pe_imp (pe_var (i := i) hN hv hd hcd) fun σ H Q ⟨O, ρ, R, q⟩ => by
  cases e : lVar i ρ with
  | ok d =>
    rw [e] at q
    obtain ⟨p, vs, h1, h2, h3⟩ := R.rl e
    exact ⟨.ref p, h1, q p vs H (Gx.refl H) h2 h3⟩
  | exc n =>
    unfold lVar at e
    split at e <;> cases e
  | stuck => rw [e] at q; exact q.elim
theorem o_var (i : Nat) {x : Str} {pos : Pos} (hN : X.N[i]? = some x := by rfl) (hv : Vis X.env.scope x := by first | exact Or.inl rfl | exact Or.inr (Or.inl rfl) | exact Or.inr (Or.inr rfl)) (hd : (x == ("__debug__" : Str)) = false := by decide)
    (hcd : (x == ("__classdict__" : Str)) = false := by decide) : PE X (.Name x pos) (tO X.K C (kVar i)) := pe_imp (pe_var (i := i) hN hv hd hcd) fun σ H Q ⟨O, ρ, R, q⟩ => by
  unfold kVar at q
  split at q
  · rename_i ds e
    obtain ⟨p, vs, h1, h2, h3, h4, h5⟩ := R.own e
    exact ⟨.ref p, h1, q p vs H (Gx.refl H) h4 h5⟩
  · exact q.elim
theorem v_int {i : Int} {j : Nat} {pos : Pos} : PE X (.Constant (.int i) j pos) (tV X.K C (eC (.int i))) := pe_imp pe_int fun σ H Q ⟨O, ρ, R, q⟩ => q _ H (Gx.refl H) (.int i)
theorem v_str {x : Str} {j : Nat} {pos : Pos} : PE X (.Constant (.str x) j pos) (tV X.K C (eC (.str x))) := pe_imp pe_str fun σ H Q ⟨O, ρ, R, q⟩ => q _ H (Gx.refl H) (.str x)
theorem v_non {j : Nat} {pos : Pos} : PE X (.Constant .none j pos) (tV X.K C (eC .none)) := pe_imp pe_non fun σ H Q ⟨O, ρ, R, q⟩ => q _ H (Gx.refl H) .non
theorem v_bl {b : Bool} {j : Nat} {pos : Pos} : PE X (.Constant (.bool b) j pos) (tV X.K C (eC (.bool b))) := pe_imp pe_bl fun σ H Q ⟨O, ρ, R, q⟩ => q _ H (Gx.refl H) (.bl b)
/-- a module's int -/
theorem v_glob {x : Str} {i : Int} {t : Tok} {pos : Pos} (hg : Gl X x) (hm : X.mg x = some (.int i t)) (hd : (x == ("__debug__" : Str)) = false := by decide) : PE X (.Name x pos) (tV X.K C (eC (.int i))) :=
  pe_imp (pe_glob (v := .int i) hg hm ⟨t, rfl⟩ hd) fun σ H Q ⟨O, ρ, R, q⟩ => q _ H (Gx.refl H) (.int i)

/-! ### operators -/
variable {a b c : Expr} {f g h : VE} {pos : Pos}
/-- two values, then a rule on them -/
theorem two {f g : VE} {σ : St} {H : Hp} {k : PyData → PyData → Out PyData} {Q : VK} {r : R2} {K : PySem.W.Frag}
    (hr : ∀ (O : List Addr) (H : Hp) (x y : V) (d e z : PyData), (∀ b ∈ O, H b ≠ none) → Dp K (hid O H) x d → Dp K (hid O H) y e → k d e = .ok z → (∀ v H', Gx C.T H H' → Dp K (hid O H') v z → Q v H') → r x y H Q)
    (hx : ∀ d e n, k d e ≠ .exc n) (q : tV K C (eOp k f g) σ H Q) : tOp r (tV K C f) (tV K C g) σ H Q := by
  obtain ⟨O, ρ, R, q⟩ := q
  refine ⟨O, ρ, R, (Fin.bind q).imp fun d _ q1 v H1 x1 p1 => ?_⟩
  refine ⟨O, ρ, R.grow x1, ((Fin.bind q1).grow x1).imp fun e _ q2 u H2 x2 p2 => ?_⟩
  cases z : k d e with
  | ok z' =>
    rw [z] at q2
    exact hr O H2 v u d e z' (fun b hb => (R.grow (x1.trans x2)).alive b hb) (Dp.mono (hid_mono x2) p1) p2 z fun w H3 x3 p3 => q2 w H3 ((x1.trans x2).trans x3) p3
  | exc n => exact absurd z (hx d e n)
  | stuck => rw [z] at q2; exact q2.elim
/-- .. that are read -/
theorem twoR {f g : VE} {σ : St} {H : Hp} {k : PyData → PyData → Out PyData} {Q : VK} {r : R2} {K : PySem.W.Frag}
    (hr : ∀ (O : List Addr) (H : Hp) (x y : V) (d e z : PyData), Dp K H x d → Dp K H y e → k d e = .ok z → (∀ v H', Gx C.T H H' → Dp K (hid O H') v z → Q v H') → r x y H Q)
    (hx : ∀ d e n, k d e ≠ .exc n) (q : tV K C (eOp k f g) σ H Q) : tOp r (tR K C f) (tR K C g) σ H Q := by
  obtain ⟨O, ρ, R, q⟩ := q
  refine ⟨O, ρ, R, (Fin.bind q).imp fun d _ q1 v H1 x1 p1 => ?_⟩
  refine ⟨O, ρ, R.grow x1, ((Fin.bind q1).grow x1).imp fun e _ q2 u H2 x2 p2 => ?_⟩
  cases z : k d e with
  | ok z' =>
    rw [z] at q2
    exact hr O H2 v u d e z' (Dp.mono x2 p1) p2 z fun w H3 x3 p3 => q2 w H3 ((x1.trans x2).trans x3) p3
  | exc n => exact absurd z (hx d e n)
  | stuck => rw [z] at q2; exact q2.elim
/-- what an operator's rule gives -/
structure OpD (X : Cx) (fn : Value → Value → Sem Value) (k : Op2) : Prop where
  ok : ∃ r : R2, OpR X fn r ∧ ∀ {τ : List (Addr × Str)} (O : List Addr) (H : Hp) (x y : V) (d e z : PyData) (Q : VK), (∀ b ∈ O, H b ≠ none) → Dp X.K (hid O H) x d → Dp X.K (hid O H) y e → k d e = .ok z → (∀ v H', Gx τ H H' → Dp X.K (hid O H') v z → Q v H') → r x y H Q
  nx : ∀ d e n, k d e ≠ .exc n
structure OpDR (X : Cx) (fn : Value → Value → Sem Value) (k : Op2) : Prop where
  ok : ∃ r : R2, OpR X fn r ∧ ∀ {τ : List (Addr × Str)} (O : List Addr) (H : Hp) (x y : V) (d e z : PyData) (Q : VK), Dp X.K H x d → Dp X.K H y e → k d e = .ok z → (∀ v H', Gx τ H H' → Dp X.K (hid O H') v z → Q v H') → r x y H Q
  nx : ∀ d e n, k d e ≠ .exc n
theorem v_op {op : Operator} {k : Op2} (o : OpD X (binaryOp op) k) (ha : PE X a (tV X.K C f)) (hb : PE X b (tV X.K C g)) : PE X (.BinOp a op b pos) (tV X.K C (eOp k f g)) := by
  obtain ⟨r, hr, hk⟩ := o.ok
  exact pe_imp (pe_op hr ha hb) fun σ H Q q => two (fun O H x y d e z h1 h2 h3 h4 h5 => hk O H x y d e z Q h1 h2 h3 h4 h5) o.nx q
theorem v_cmp {op : CmpOp} {k : Op2} (o : OpD X (compareOp op) k) (ha : PE X a (tV X.K C f)) (hb : PE X b (tV X.K C g)) (hm : behindInMarks op b = false := by first | exact nomark _ | rfl) : PE X (.Compare a [op] [b] pos) (tV X.K C (eOp k f g)) := by
  obtain ⟨r, hr, hk⟩ := o.ok
  exact pe_imp (pe_cmpR hr ha hb hm) fun σ H Q q => two (fun O H x y d e z h1 h2 h3 h4 h5 => hk O H x y d e z Q h1 h2 h3 h4 h5) o.nx q
theorem v_cmpR {op : CmpOp} {k : Op2} (o : OpDR X (compareOp op) k) (ha : PE X a (tR X.K C f)) (hb : PE X b (tR X.K C g)) (hm : behindInMarks op b = false := by first | exact nomark _ | rfl) : PE X (.Compare a [op] [b] pos) (tV X.K C (eOp k f g)) := by
  obtain ⟨r, hr, hk⟩ := o.ok
  exact pe_imp (pe_cmpR hr ha hb hm) fun σ H Q q => twoR (fun O H x y d e z h2 h3 h4 h5 => hk O H x y d e z Q h2 h3 h4 h5) o.nx q
/-- a value that is a bool, as a test -/
theorem tT_tV {K : PySem.W.Frag} {f : VE} {σ : St} {H : Hp} {Q : Bool → Hp → Prop} (q : tT K C (bOf f) σ H Q) : tV K C f σ H fun x H' => ∃ k, x = .bl k ∧ Q k H' := by
  obtain ⟨O, ρ, R, q⟩ := q
  refine ⟨O, ρ, R, (Fin.bind q).imp fun d _ k v H' x p => ?_⟩
  cases p with
  | bl b => exact ⟨b, rfl, k H' x⟩
  | lst a b => exact k.elim
  | non => exact k.elim
  | int _ => exact k.elim
  | str _ => exact k.elim
  | tup _ _ => exact k.elim
theorem t_cmp {op : CmpOp} {k : Op2} (o : OpD X (compareOp op) k) (ha : PE X a (tV X.K C f)) (hb : PE X b (tV X.K C g)) (hm : behindInMarks op b = false := by first | exact nomark _ | rfl) : PT X (.Compare a [op] [b] pos) (tT X.K C (bOf (eOp k f g))) := by
  obtain ⟨r, hr, hk⟩ := o.ok
  exact pt_imp (pt_cmpR hr ha hb hm) fun σ H Q q => two (fun O H x y d e z h1 h2 h3 h4 h5 => hk O H x y d e z _ h1 h2 h3 h4 h5) o.nx (tT_tV q)
theorem t_cmpR {op : CmpOp} {k : Op2} (o : OpDR X (compareOp op) k) (ha : PE X a (tR X.K C f)) (hb : PE X b (tR X.K C g)) (hm : behindInMarks op b = false := by first | exact nomark _ | rfl) : PT X (.Compare a [op] [b] pos) (tT X.K C (bOf (eOp k f g))) := by
  obtain ⟨r, hr, hk⟩ := o.ok
  exact pt_imp (pt_cmpR hr ha hb hm) fun σ H Q q => twoR (fun O H x y d e z h2 h3 h4 h5 => hk O H x y d e z _ h2 h3 h4 h5) o.nx (tT_tV q)
/-- a call or a name as a test -/
theorem t_val {e : Expr} {f : VE} (h : PE X e (tV X.K C f)) (he : ∀ whole, isTrue e X.env whole = (do let v ← whole; standAt e.pos; holding [v] (truthy v)) := by intro _; rfl) : PT X e (tT X.K C (bOf f)) :=
  pt_imp (pt_val h he) fun σ H Q q => tT_tV q
end
end PL

/-! PL3: operators, tests, lists, tuples, texts, built-ins: the rules. -/
namespace PL
open PySem L2
section
variable {K : PySem.W.Frag} {G : Hp} {v : V}
theorem dp_int {i : Int} (h : Dp K G v (.int i)) : v = .int i := by cases h; rfl
theorem dp_str {s : Str} (h : Dp K G v (.str s)) : v = .str s := by cases h; rfl
theorem dp_bl {s : Bool} (h : Dp K G v (.bool s)) : v = .bl s := by cases h; rfl
theorem dp_tup {ds : List PyData} (h : Dp K G v (.tuple ds)) : ∃ a vs, v = .ref a ∧ SqT K G a vs ∧ DpAll K G vs ds := by cases h with | tup a b => exact ⟨_, _, rfl, a, b⟩
theorem dp_lst {ds : List PyData} (h : Dp K G v (.list ds)) : ∃ a vs, v = .ref a ∧ SqL K G a vs ∧ DpAll K G vs ds := by cases h with | lst a b => exact ⟨_, _, rfl, a, b⟩
theorem dp_isN {d : PyData} (h : Dp K G v d) : decide (v = .non) = isN d := by cases h <;> simp [isN]
end
section
variable {X : Cx} {C : PC} {a b c e : Expr} {f g h : VE} {l m : LE} {pos : Pos}
/-! ### operators on ints -/
theorem opI_D {fn : Value → Value → Sem Value} {k : Op2} {Cd : Int → Int → Prop} {gi : Int → Int → Int} (o : OpR X fn (rI Cd fun i j => .int (gi i j)))
    (hk : ∀ d e z, k d e = .ok z → ∃ i j, d = .int i ∧ e = .int j ∧ Cd i j ∧ z = .int (gi i j)) (hx : ∀ d e n, k d e ≠ .exc n) : OpD X fn k :=
  ⟨⟨_, o, fun O H x y d e z Q al h1 h2 hz hq => by
    obtain ⟨i, j, rfl, rfl, hc, rfl⟩ := hk d e z hz
    exact ⟨i, j, dp_int h1, dp_int h2, hc, hq _ H (Gx.refl H) (.int _)⟩⟩, hx⟩
theorem opB_D {fn : Value → Value → Sem Value} {k : Op2} {gi : Int → Int → Bool} (o : OpR X fn (rI0 fun i j => .bl (gi i j)))
    (hk : ∀ d e z, k d e = .ok z → ∃ i j, d = .int i ∧ e = .int j ∧ z = .bool (gi i j)) (hx : ∀ d e n, k d e ≠ .exc n) : OpD X fn k :=
  ⟨⟨_, o, fun O H x y d e z Q al h1 h2 hz hq => by
    obtain ⟨i, j, rfl, rfl, rfl⟩ := hk d e z hz
    exact ⟨i, j, dp_int h1, dp_int h2, hq _ H (Gx.refl H) (.bl _)⟩⟩, hx⟩
theorem opI0_rI {fn : Value → Value → Sem Value} {gi : Int → Int → V} (o : OpR X fn (rI0 gi)) : OpR X fn (rI (fun _ _ => True) gi) := by
  intro pins s σ H x y v u Q I rx ry h
  obtain ⟨i, j, e1, e2, _, q⟩ := h
  exact o pins s σ H x y v u Q I rx ry ⟨i, j, e1, e2, q⟩
theorem d_add : OpD X (binaryOp .Add) oAdd := opI_D (opI0_rI op_add) (fun d e z h => by
  unfold oAdd at h
  split at h
  · cases h; exact ⟨_, _, rfl, rfl, trivial, rfl⟩
  · cases h) (fun d e n h => by unfold oAdd at h; split at h <;> cases h)
theorem d_sub : OpD X (binaryOp .Sub) oSub := opI_D (opI0_rI op_sub) (fun d e z h => by
  unfold oSub at h
  split at h
  · cases h; exact ⟨_, _, rfl, rfl, trivial, rfl⟩
  · cases h) (fun d e n h => by unfold oSub at h; split at h <;> cases h)
theorem d_mul : OpD X (binaryOp .Mult) oMul := opI_D op_mul (fun d e z h => by
  unfold oMul at h
  split at h
  · split at h
    · rename_i hc
      cases h
      refine ⟨_, _, rfl, rfl, ?_, rfl⟩
      rw [Bool.or_eq_true] at hc
      rcases hc with hc | hc
      · exact .inl (of_decide_eq_true hc)
      · exact .inr (of_decide_eq_true hc)
    · cases h
  · cases h) (fun d e n h => by
    unfold oMul at h
    split at h
    · split at h <;> cases h
    · cases h)
theorem d_fdiv : OpD X (binaryOp .FloorDiv) oFdiv := opI_D op_fdiv (fun d e z h => by
  unfold oFdiv at h
  split at h
  · split at h
    · rename_i hc
      cases h
      exact ⟨_, _, rfl, rfl, hc, rfl⟩
    · cases h
  · cases h) (fun d e n h => by
    unfold oFdiv at h
    split at h
    · split at h <;> cases h
    · cases h)
theorem d_mod : OpD X (binaryOp .Mod) oMod := opI_D op_mod (fun d e z h => by
  unfold oMod at h
  split at h
  · split at h
    · rename_i hc
      cases h
      exact ⟨_, _, rfl, rfl, hc, rfl⟩
    · cases h
  · cases h) (fun d e n h => by
    unfold oMod at h
    split at h
    · split at h <;> cases h
    · cases h)
theorem d_lt : OpD X (compareOp .Lt) oLt := opB_D op_lt (fun d e z h => by
  unfold oLt at h
  split at h
  · cases h; exact ⟨_, _, rfl, rfl, rfl⟩
  · cases h) (fun d e n h => by unfold oLt at h; split at h <;> cases h)
theorem d_le : OpD X (compareOp .LtE) oLe := opB_D op_le (fun d e z h => by
  unfold oLe at h
  split at h
  · cases h; exact ⟨_, _, rfl, rfl, rfl⟩
  · cases h) (fun d e n h => by unfold oLe at h; split at h <;> cases h)
theorem d_gt : OpD X (compareOp .Gt) oGt := opB_D op_gt (fun d e z h => by
  unfold oGt at h
  split at h
  · cases h; exact ⟨_, _, rfl, rfl, rfl⟩
  · cases h) (fun d e n h => by unfold oGt at h; split at h <;> cases h)
theorem d_ge : OpD X (compareOp .GtE) oGe := opB_D op_ge (fun d e z h => by
  unfold oGe at h
  split at h
  · cases h; exact ⟨_, _, rfl, rfl, rfl⟩
  · cases h) (fun d e n h => by unfold oGe at h; split at h <;> cases h)
theorem line_le {n : Nat} (h : n ≤ 1000000) : n ≤ sizeLine := Nat.le_trans h (by rw [sizeLine_eq]; decide)
theorem line_lt {n : Nat} (h : n < 1000000) : n < sizeLine := Nat.lt_of_lt_of_le h (by rw [sizeLine_eq]; decide)
theorem d_catS : OpD X (binaryOp .Add) oCatS := ⟨⟨_, op_add_str, fun O H x y d e z Q al h1 h2 hz hq => by
  unfold oCatS at hz
  split at hz
  · split at hz
    · rename_i hc
      cases hz
      exact ⟨_, _, dp_str h1, dp_str h2, line_le hc, hq _ H (Gx.refl H) (.str _)⟩
    · cases hz
  · cases hz⟩, fun d e n h => by
  unfold oCatS at h
  split at h
  · split at h <;> cases h
  · cases h⟩
theorem r_catT {a b : Expr} {f g : VE} {pos : Pos} (ha : PE X a (tV X.K C f)) (hb : PE X b (tV X.K C g)) : PE X (.BinOp a .Add b pos) (tR X.K C (eOp oCatT f g)) := pe_imp (pe_op op_catT ha hb) fun σ H Q ⟨O, ρ, R, q⟩ => by
  refine ⟨O, ρ, R, (Fin.bind q).imp fun d _ q1 x H1 x1 h1 => ?_⟩
  refine ⟨O, ρ, R.grow x1, ((Fin.bind q1).grow x1).imp fun e _ q2 y H2 x2 h2 => ?_⟩
  have h1 := Dp.mono (hid_mono x2) h1
  cases hz : oCatT d e with
  | ok z =>
    rw [hz] at q2
    have hq : ∀ v H', Gx C.T H2 H' → Dp X.K H' v z → Q v H' := fun v H' x3 p => q2 v H' ((x1.trans x2).trans x3) p
    unfold oCatT at hz
    split at hz
    · rename_i da db _ _ _
      split at hz
      · rename_i hc
        cases hz
        obtain ⟨p, vs, rfl, s1, a1⟩ := dp_tup h1
        obtain ⟨q, ws, rfl, s2, a2⟩ := dp_tup h2
        refine ⟨p, q, vs, ws, rfl, rfl, ex_t hid_ex s1, ex_t hid_ex s2, fun z => hc.1 ?_, line_le (by rw [a1.len, a2.len]; exact hc.2), fun z => ?_, fun z r nr => ?_⟩
        · subst z
          have := a1.len
          exact List.length_eq_zero_iff.mp this.symm
        · subst z
          have : db = [] := List.length_eq_zero_iff.mp a2.len.symm
          subst this
          rw [List.append_nil] at hq
          exact hq _ H2 (Gx.refl H2) (Dp.mono hid_ex h1)
        · exact hq _ _ (Gx.new nr) (.tup (SqT.of upd_same) (DpAll.mono (Gx.new (τ := []) nr).ex ((DpAll.mono hid_ex a1).append (DpAll.mono hid_ex a2))))
      · cases hz
    · cases hz
  | exc n =>
    unfold oCatT at hz
    split at hz
    · split at hz <;> cases hz
    · cases hz
  | stuck => rw [hz] at q2; exact q2.elim
theorem d_eq (hu : X.A.units + 64 < cLine) : OpDR X (compareOp .Eq) oEq := ⟨⟨_, op_eqD hu, fun O H x y d e z Q h1 h2 hz hq => by
  unfold oEq at hz
  split at hz
  · rename_i hc
    rw [Bool.and_eq_true] at hc
    cases hz
    exact ⟨d, e, h1, h2, hc.1, hc.2, hq _ H (Gx.refl H) (.bl _)⟩
  · cases hz⟩, fun d e n h => by
  unfold oEq at h
  split at h <;> cases h⟩
theorem d_ne (hu : X.A.units + 64 < cLine) : OpDR X (compareOp .NotEq) oNe := ⟨⟨_, op_neD hu, fun O H x y d e z Q h1 h2 hz hq => by
  unfold oNe at hz
  split at hz
  · rename_i hc
    rw [Bool.and_eq_true] at hc
    cases hz
    exact ⟨d, e, h1, h2, hc.1, hc.2, hq _ H (Gx.refl H) (.bl _)⟩
  · cases hz⟩, fun d e n h => by
  unfold oNe at h
  split at h <;> cases h⟩
theorem d_inS : OpD X (compareOp .In) oInS := ⟨⟨_, op_in_sign, fun O H x y d e z Q al h1 h2 hz hq => by
  unfold oInS at hz
  split at hz
  · rename_i c zz
    split at hz
    · rename_i k hc
      cases hz
      refine ⟨k, zz, ?_, dp_str h2, hq _ H (Gx.refl H) (.bl _)⟩
      rw [dp_str h1]
      exact congrArg V.str (Str.ext' (Array.toList_inj.mp hc))
    · cases hz
  · cases hz⟩, fun d e n h => by
  unfold oInS at h
  split at h
  · split at h <;> cases h
  · cases h⟩
theorem d_notInS : OpD X (compareOp .NotIn) oNotInS := ⟨⟨_, op_notIn_sign, fun O H x y d e z Q al h1 h2 hz hq => by
  unfold oNotInS at hz
  split at hz
  · rename_i c zz
    split at hz
    · rename_i k hc
      cases hz
      refine ⟨k, zz, ?_, dp_str h2, hq _ H (Gx.refl H) (.bl _)⟩
      rw [dp_str h1]
      exact congrArg V.str (Str.ext' (Array.toList_inj.mp hc))
    · cases hz
  · cases hz⟩, fun d e n h => by
  unfold oNotInS at h
  split at h
  · split at h <;> cases h
  · cases h⟩

/-! ### None -/
theorem v_isN {j : Nat} {p2 : Pos} (ha : PE X a (tR X.K C f)) : PE X (.Compare a [.Is] [.Constant .none j p2] pos) (tV X.K C (eIsN f)) := pe_imp (pe_cmp (pc_isN ha) (by first | exact nomark _ | rfl)) fun σ H Q ⟨O, ρ, R, q⟩ =>
  ⟨O, ρ, R, (Fin.bind q).imp fun d _ k v H' x p => k _ H' x (by rw [dp_isN p]; exact .bl _)⟩
theorem v_notN {j : Nat} {p2 : Pos} (ha : PE X a (tR X.K C f)) : PE X (.Compare a [.IsNot] [.Constant .none j p2] pos) (tV X.K C (eNotN f)) := pe_imp (pe_cmp (pc_notN ha) (by first | exact nomark _ | rfl)) fun σ H Q ⟨O, ρ, R, q⟩ =>
  ⟨O, ρ, R, (Fin.bind q).imp fun d _ k v H' x p => k _ H' x (by rw [dp_isN p]; exact .bl _)⟩
theorem t_isN {j : Nat} {p2 : Pos} (ha : PE X a (tR X.K C f)) : PT X (.Compare a [.Is] [.Constant .none j p2] pos) (tT X.K C (bOf (eIsN f))) := pt_imp (pt_cmp (pc_isN ha) (by first | exact nomark _ | rfl)) fun σ H Q ⟨O, ρ, R, q⟩ =>
  ⟨O, ρ, R, (Fin.bind (Fin.bind q)).imp fun d _ k v H' x p => ⟨_, rfl, by rw [dp_isN p]; exact k H' x⟩⟩
theorem t_notN {j : Nat} {p2 : Pos} (ha : PE X a (tR X.K C f)) : PT X (.Compare a [.IsNot] [.Constant .none j p2] pos) (tT X.K C (bOf (eNotN f))) := pt_imp (pt_cmp (pc_notN ha) (by first | exact nomark _ | rfl)) fun σ H Q ⟨O, ρ, R, q⟩ =>
  ⟨O, ρ, R, (Fin.bind (Fin.bind q)).imp fun d _ k v H' x p => ⟨_, rfl, by rw [dp_isN p]; exact k H' x⟩⟩

/-! ### and, or, not -/
variable {tb tc : BE} {rest : List Expr}
theorem bAnd_t {K : PySem.W.Frag} {σ : L2.St} {H : Hp} {Q : Bool → Hp → Prop} (q : tT K C (bAnd tb tc) σ H Q) : tAnd (tT K C tb) (tT K C tc) σ H Q := by
  obtain ⟨O, ρ, R, q⟩ := q
  refine ⟨O, ρ, R, (Fin.bind q).imp fun b _ k H' x => ?_⟩
  cases b with
  | true => exact iteT ⟨O, ρ, R.grow x, (Fin.grow (show Fin C σ H (tc ρ) _ from k) x).imp fun b' _ k' H2 x2 => k' H2 (x.trans x2)⟩
  | false => exact iteF ((show ∀ H', Gx C.T H H' → Q false H' from k) H' x)
theorem bOr_t {K : PySem.W.Frag} {σ : L2.St} {H : Hp} {Q : Bool → Hp → Prop} (q : tT K C (bOr tb tc) σ H Q) : tOr (tT K C tb) (tT K C tc) σ H Q := by
  obtain ⟨O, ρ, R, q⟩ := q
  refine ⟨O, ρ, R, (Fin.bind q).imp fun b _ k H' x => ?_⟩
  cases b with
  | true => exact iteT ((show ∀ H', Gx C.T H H' → Q true H' from k) H' x)
  | false => exact iteF ⟨O, ρ, R.grow x, (Fin.grow (show Fin C σ H (tc ρ) _ from k) x).imp fun b' _ k' H2 x2 => k' H2 (x.trans x2)⟩
theorem w_and1 (ha : PT X a (tT X.K C tb)) : PW X (.BoolOp .And [a] pos) (tT X.K C tb) := pw_and1 ha
theorem w_or1 (ha : PT X a (tT X.K C tb)) : PW X (.BoolOp .Or [a] pos) (tT X.K C tb) := pw_or1 ha
theorem w_and (ha : PT X a (tT X.K C tb)) (hb : PW X (.BoolOp .And (b :: rest) pos) (tT X.K C tc)) : PW X (.BoolOp .And (a :: b :: rest) pos) (tT X.K C (bAnd tb tc)) := pw_imp (pw_and ha hb) fun σ H Q q => bAnd_t q
theorem w_or (ha : PT X a (tT X.K C tb)) (hb : PW X (.BoolOp .Or (b :: rest) pos) (tT X.K C tc)) : PW X (.BoolOp .Or (a :: b :: rest) pos) (tT X.K C (bOr tb tc)) := pw_imp (pw_or ha hb) fun σ H Q q => bOr_t q
theorem t_not (ha : PT X a (tT X.K C tb)) : PT X (.UnaryOp .Not a pos) (tT X.K C (bNot tb)) := pt_imp (pt_not ha) fun σ H Q ⟨O, ρ, R, q⟩ => ⟨O, ρ, R, (Fin.bind q).imp fun b _ k H' x => k H' x⟩
/-- .. as values -/
def tBV (K : PySem.W.Frag) (C : PC) (f : BE) : TE := fun σ H Q => ∃ O ρ, Rep K C O H σ ρ ∧ Fin C σ H (f ρ) fun b => ∀ H', Gx C.T H H' → Q (.bl b) H'
theorem bv_V (ha : PE X a (tV X.K C f)) : PE X a (tBV X.K C (bOf f)) := pe_imp ha fun σ H Q ⟨O, ρ, R, q⟩ => ⟨O, ρ, R, (Fin.bind q).imp fun d _ k v H' x p => by
  cases p with
  | bl b => exact (show ∀ H', Gx C.T H H' → Q (.bl b) H' from k) H' x
  | lst a b => exact k.elim
  | non => exact k.elim
  | int _ => exact k.elim
  | str _ => exact k.elim
  | tup _ _ => exact k.elim⟩
theorem v_BV (ha : PE X a (tBV X.K C tb)) : PE X a (tV X.K C (eOfB tb)) := pe_imp ha fun σ H Q ⟨O, ρ, R, q⟩ => ⟨O, ρ, R, (Fin.bind q).imp fun b _ k H' x => (show ∀ v H', Gx C.T H H' → Dp X.K (hid O H') v (.bool b) → Q v H' from k) _ H' x (.bl b)⟩
theorem v_one {op : PySem.BoolOp} (ha : PE X a (tBV X.K C tb)) : PE X (.BoolOp op [a] pos) (tBV X.K C tb) := pe_one ha
theorem v_and (ha : PE X a (tBV X.K C tb)) (hb : PE X (.BoolOp .And (b :: rest) pos) (tBV X.K C tc)) : PE X (.BoolOp .And (a :: b :: rest) pos) (tBV X.K C (bAnd tb tc)) := pe_imp (pe_and ha hb) fun σ H Q ⟨O, ρ, R, q⟩ => by
  refine ⟨O, ρ, R, (Fin.bind q).imp fun b _ k H' x => ⟨b, rfl, ?_⟩⟩
  cases b with
  | true => exact iteT ⟨O, ρ, R.grow x, (Fin.grow (show Fin C σ H (tc ρ) _ from k) x).imp fun b' _ k' H2 x2 => k' H2 (x.trans x2)⟩
  | false => exact iteF ((show ∀ H', Gx C.T H H' → Q (.bl false) H' from k) H' x)
theorem v_or (ha : PE X a (tBV X.K C tb)) (hb : PE X (.BoolOp .Or (b :: rest) pos) (tBV X.K C tc)) : PE X (.BoolOp .Or (a :: b :: rest) pos) (tBV X.K C (bOr tb tc)) := pe_imp (pe_or ha hb) fun σ H Q ⟨O, ρ, R, q⟩ => by
  refine ⟨O, ρ, R, (Fin.bind q).imp fun b _ k H' x => ⟨b, rfl, ?_⟩⟩
  cases b with
  | true => exact iteT ((show ∀ H', Gx C.T H H' → Q (.bl true) H' from k) H' x)
  | false => exact iteF ⟨O, ρ, R.grow x, (Fin.grow (show Fin C σ H (tc ρ) _ from k) x).imp fun b' _ k' H2 x2 => k' H2 (x.trans x2)⟩
theorem v_not (ha : PE X a (tBV X.K C tb)) : PE X (.UnaryOp .Not a pos) (tBV X.K C (bNot tb)) := pe_imp (pe_not ha) fun σ H Q ⟨O, ρ, R, q⟩ => ⟨O, ρ, R, (Fin.bind q).imp fun b _ k H' x => ⟨b, rfl, k H' x⟩⟩

/-! ### chains -/
theorem chain_t {K : PySem.W.Frag} {k k' : Op2} {r r' : R2} {σ : L2.St} {H : Hp} {Q : VK}
    (hk : ∀ (O : List Addr) (H : Hp) (x y : V) (d e z : PyData) (Q : VK), (∀ b ∈ O, H b ≠ none) → Dp K (hid O H) x d → Dp K (hid O H) y e → k d e = .ok z → (∀ v H', Gx C.T H H' → Dp K (hid O H') v z → Q v H') → r x y H Q)
    (hk' : ∀ (O : List Addr) (H : Hp) (x y : V) (d e z : PyData) (Q : VK), (∀ b ∈ O, H b ≠ none) → Dp K (hid O H) x d → Dp K (hid O H) y e → k' d e = .ok z → (∀ v H', Gx C.T H H' → Dp K (hid O H') v z → Q v H') → r' x y H Q)
    (hx : ∀ d e n, k d e ≠ .exc n) (hx' : ∀ d e n, k' d e ≠ .exc n) (q : tV K C (eChain k k' f g h) σ H Q) : tChain r r' (tV K C f) (tV K C g) (tV K C h) σ H Q := by
  obtain ⟨O, ρ, R, q⟩ := q
  refine ⟨O, ρ, R, (Fin.bind q).imp fun d _ q1 v H1 x1 p1 => ?_⟩
  refine ⟨O, ρ, R.grow x1, ((Fin.bind q1).grow x1).imp fun e _ q2 u H2 x2 p2 => ?_⟩
  have q3 := Fin.bind q2
  cases z : k d e with
  | exc n => exact absurd z (hx d e n)
  | stuck => rw [z] at q3; exact q3.elim
  | ok z' =>
    rw [z] at q3
    refine hk O H2 v u d e z' _ (R.grow (x1.trans x2)).alive (Dp.mono (hid_mono x2) p1) p2 z fun w H3 x3 p3 => ?_
    have x13 := (x1.trans x2).trans x3
    cases p3 with
    | bl b =>
      refine ⟨b, rfl, ?_⟩
      cases b with
      | false => exact iteF ((show ∀ v H', Gx C.T H H' → Dp K (hid O H') v (.bool false) → Q v H' from q3) _ H3 x13 (.bl false))
      | true =>
        refine iteT ⟨O, ρ, R.grow x13, ((Fin.bind (show Fin C σ H ((h ρ).bind fun u => k' e u) _ from q3)).grow x13).imp fun t _ q4 w4 H4 x4 p4 => ?_⟩
        cases z4 : k' e t with
        | exc n => exact absurd z4 (hx' e t n)
        | stuck => rw [z4] at q4; exact q4.elim
        | ok z' =>
          rw [z4] at q4
          exact hk' O H4 u w4 e t z' Q (R.grow (x13.trans x4)).alive (Dp.mono (hid_mono (x3.trans x4)) p2) p4 z4 fun w5 H5 x5 p5 => q4 w5 H5 ((x13.trans x4).trans x5) p5
    | non => exact q3.elim
    | int _ => exact q3.elim
    | str _ => exact q3.elim
    | lst _ _ => exact q3.elim
    | tup _ _ => exact q3.elim
theorem v_chain {op op' : CmpOp} {k k' : Op2} (o : OpD X (compareOp op) k) (o' : OpD X (compareOp op') k') (ha : PE X a (tV X.K C f)) (hb : PE X b (tV X.K C g)) (hc : PE X c (tV X.K C h))
    (hm : lastMarks [op, op'] [b, c] = false := by with_unfolding_all rfl) : PE X (.Compare a [op, op'] [b, c] pos) (tV X.K C (eChain k k' f g h)) := by
  obtain ⟨r, hr, hk⟩ := o.ok
  obtain ⟨r', hr', hk'⟩ := o'.ok
  exact pe_imp (pe_chain hr hr' ha hb hc hm) fun σ H Q q => chain_t hk hk' o.nx o'.nx q
theorem t_chain {op op' : CmpOp} {k k' : Op2} (o : OpD X (compareOp op) k) (o' : OpD X (compareOp op') k') (ha : PE X a (tV X.K C f)) (hb : PE X b (tV X.K C g)) (hc : PE X c (tV X.K C h))
    (hm : lastMarks [op, op'] [b, c] = false := by with_unfolding_all rfl) : PT X (.Compare a [op, op'] [b, c] pos) (tT X.K C (bOf (eChain k k' f g h))) := by
  obtain ⟨r, hr, hk⟩ := o.ok
  obtain ⟨r', hr', hk'⟩ := o'.ok
  exact pt_imp (pt_chain hr hr' ha hb hc hm) fun σ H Q q => chain_t hk hk' o.nx o'.nx (tT_tV q)

/-! ### indices, slices -/
theorem v_ix (ha : PE X a (tL X.K C l)) (hb : PE X b (tV X.K C g)) (hs : PlainIx b := by intro _ _; rfl) : PE X (.Subscript a b pos) (tV X.K C (eIx l g)) := pe_imp (pe_ix ix_list ha hb hs) fun σ H Q ⟨O, ρ, R, q⟩ => by
  refine ⟨O, ρ, R, (Fin.bind q).imp fun ds _ q1 p vs H1 x1 s1 a1 => ?_⟩
  refine ⟨O, ρ, R.grow x1, ((Fin.bind q1).grow x1).imp fun e _ q2 u H2 x2 p2 => ?_⟩
  cases p2 with
  | int k =>
    cases z : L2.atI ds k with
    | none => exact (show False from by simpa [Fin, z] using q2).elim
    | some d =>
      obtain ⟨v, h1, h2⟩ := DpAll.at_ a1 z
      have q3 : ∀ v H', Gx C.T H H' → Dp X.K (hid O H') v d → Q v H' := by simpa [Fin, z] using q2
      exact ⟨p, vs, k, v, rfl, rfl, ex_l x2 s1, h1, q3 v H2 (x1.trans x2) (Dp.mono (hid_mono x2) h2)⟩
  | non => exact q2.elim
  | bl _ => exact q2.elim
  | str _ => exact q2.elim
  | lst _ _ => exact q2.elim
  | tup _ _ => exact q2.elim
theorem v_ixT (ha : PE X a (tV X.K C f)) (hb : PE X b (tV X.K C g)) (hs : PlainIx b := by intro _ _; rfl) : PE X (.Subscript a b pos) (tV X.K C (eIxT f g)) := pe_imp (pe_ix ix_tup ha hb hs) fun σ H Q ⟨O, ρ, R, q⟩ => by
  refine ⟨O, ρ, R, (Fin.bind q).imp fun d _ q1 w H1 x1 p1 => ?_⟩
  refine ⟨O, ρ, R.grow x1, ((Fin.bind q1).grow x1).imp fun e _ q2 u H2 x2 p2 => ?_⟩
  cases d with
  | tuple ds =>
    obtain ⟨p, vs, rfl, s1, a1⟩ := dp_tup p1
    cases p2 with
    | int k =>
      cases z : L2.atI ds k with
      | none => exact (show False from by simpa [Fin, z] using q2).elim
      | some d =>
        obtain ⟨v, h1, h2⟩ := DpAll.at_ a1 z
        have q3 : ∀ v H', Gx C.T H H' → Dp X.K (hid O H') v d → Q v H' := by simpa [Fin, z] using q2
        exact ⟨p, vs, k, v, rfl, rfl, ex_t (hid_ex.trans x2) s1, h1, q3 v H2 (x1.trans x2) (Dp.mono (hid_mono x2) h2)⟩
    | non => exact q2.elim
    | bl _ => exact q2.elim
    | str _ => exact q2.elim
    | lst _ _ => exact q2.elim
    | tup _ _ => exact q2.elim
  | _ => exact q2.elim
theorem v_ixS (ha : PE X a (tV X.K C f)) (hb : PE X b (tV X.K C g)) (hs : PlainIx b := by intro _ _; rfl) : PE X (.Subscript a b pos) (tV X.K C (eIxS f g)) := pe_imp (pe_ix ix_str ha hb hs) fun σ H Q ⟨O, ρ, R, q⟩ => by
  refine ⟨O, ρ, R, (Fin.bind q).imp fun d _ q1 w H1 x1 p1 => ?_⟩
  refine ⟨O, ρ, R.grow x1, ((Fin.bind q1).grow x1).imp fun e _ q2 u H2 x2 p2 => ?_⟩
  cases d with
  | str zz =>
    cases p2 with
    | int k =>
      by_cases hc : zz.length ≤ 1000000
      · cases z : L2.atI zz.cps.toList k with
        | none => exact (show False from by simpa [Fin, z, hc] using q2).elim
        | some d =>
          have q3 : ∀ v H', Gx C.T H H' → Dp X.K (hid O H') v (.str ⟨#[d]⟩) → Q v H' := by simpa [Fin, z, hc] using q2
          exact ⟨zz, k, d, dp_str p1, rfl, line_le hc, z, q3 _ H2 (x1.trans x2) (.str _)⟩
      · exact (show False from by simpa [Fin, hc] using q2).elim
    | non => exact q2.elim
    | bl _ => exact q2.elim
    | str _ => exact q2.elim
    | lst _ _ => exact q2.elim
    | tup _ _ => exact q2.elim
  | _ => exact q2.elim
theorem p_none : PO X none (tP X.K C oNo) := po_imp po_none fun σ H Q ⟨O, ρ, R, q⟩ => (show ∀ H', Gx C.T H H' → Q none H' from q) H (Gx.refl H)
theorem p_some (h : PE X e (tV X.K C f)) : PO X (some e) (tP X.K C (oPart f)) := po_imp (po_some h) fun σ H Q ⟨O, ρ, R, q⟩ => ⟨O, ρ, R, (Fin.bind q).imp fun d _ k v H' x p => by
  cases p with
  | int i => exact ⟨i, rfl, (show ∀ H', Gx C.T H H' → Q (some i) H' from k) H' x⟩
  | non => exact k.elim
  | bl _ => exact k.elim
  | str _ => exact k.elim
  | lst _ _ => exact k.elim
  | tup _ _ => exact k.elim⟩
variable {lo hi : Option Expr} {ol oh : OE} {p2 : Pos}
theorem f_sl (ha : PE X a (tL X.K C l)) (hl : PO X lo (tP X.K C ol)) (hh : PO X hi (tP X.K C oh)) : PE X (.Subscript a (.Slice lo hi none p2) pos) (tF X.K C (lSl l ol oh)) := pe_imp (pe_slice sl_list ha hl hh) fun σ H Q ⟨O, ρ, R, q⟩ => by
  refine ⟨O, ρ, R, (Fin.bind q).imp fun ds _ q1 p vs H1 x1 s1 a1 => ?_⟩
  refine ⟨O, ρ, R.grow x1, ((Fin.bind q1).grow x1).imp fun u _ q2 H2 x2 => ?_⟩
  refine ⟨O, ρ, R.grow (x1.trans x2), ((Fin.bind q2).grow (x1.trans x2)).imp fun w _ q3 H3 x3 => ?_⟩
  have x13 := (x1.trans x2).trans x3
  exact ⟨p, vs, rfl, ex_l (x2.trans x3) s1, fun r nr => (show ∀ p vs H', Gx C.T H H' → H p = none → H' p = some (.lst vs) → DpAll X.K (hid (p :: O) H') vs (cutD ds u w) → Q (.ref p) H' from q3) r _ _ (x13.trans (Gx.new nr)) (fresh_back x13 nr) upd_same
    (DpAll.mono (hid_new nr) ((DpAll.mono (hid_mono (x2.trans x3)) a1).cut u w))⟩
theorem v_slS (ha : PE X a (tV X.K C f)) (hl : PO X lo (tP X.K C ol)) (hh : PO X hi (tP X.K C oh)) : PE X (.Subscript a (.Slice lo hi none p2) pos) (tV X.K C (eSlS f ol oh)) := pe_imp (pe_slice sl_str ha hl hh) fun σ H Q ⟨O, ρ, R, q⟩ => by
  refine ⟨O, ρ, R, (Fin.bind q).imp fun d _ q1 v H1 x1 p1 => ?_⟩
  refine ⟨O, ρ, R.grow x1, ((Fin.bind q1).grow x1).imp fun u _ q2 H2 x2 => ?_⟩
  refine ⟨O, ρ, R.grow (x1.trans x2), ((Fin.bind q2).grow (x1.trans x2)).imp fun w _ q3 H3 x3 => ?_⟩
  have x13 := (x1.trans x2).trans x3
  cases d with
  | str z =>
    by_cases hc : z.length ≤ 1000000
    · have q4 : ∀ v H', Gx C.T H H' → Dp X.K (hid O H') v (.str (cutS z u w)) → Q v H' := by simpa [Fin, hc] using q3
      exact ⟨z, dp_str p1, line_le hc, q4 _ H3 x13 (.str _)⟩
    · exact (show False from by simpa [Fin, hc] using q3).elim
  | _ => exact q3.elim
theorem f_cat (ha : PE X a (tO X.K C l)) (hb : PE X b (tO X.K C m)) : PE X (.BinOp a .Add b pos) (tF X.K C (lCat l m)) := pe_imp (pe_op op_cat ha hb) fun σ H Q ⟨O, ρ, R, q⟩ => by
  refine ⟨O, ρ, R, (Fin.bind q).imp fun ds _ q1 p vs H1 x1 s1 a1 => ?_⟩
  refine ⟨O, ρ, R.grow x1, ((Fin.bind q1).grow x1).imp fun es _ q2 p' ws H2 x2 s2 a2 => ?_⟩
  by_cases hc : ds.length + es.length ≤ 1000000
  · have q4 : ∀ p vs H', Gx C.T H H' → H p = none → H' p = some (.lst vs) → DpAll X.K (hid (p :: O) H') vs (ds ++ es) → Q (.ref p) H' := by simpa [Fin, hc] using q2
    have x12 := x1.trans x2
    exact ⟨p, p', vs, ws, rfl, rfl, x2.ex _ _ s1 rfl, s2, line_le (by rw [a1.len, a2.len]; exact hc), fun r nr => q4 r _ _ (x12.trans (Gx.new nr)) (fresh_back x12 nr) upd_same (DpAll.mono (hid_new nr) ((DpAll.mono (hid_mono x2) a1).append a2))⟩
  · exact (show False from by simpa [Fin, hc] using q2).elim
theorem f_rep (ha : PE X a (tO X.K C l)) (hb : PE X b (tV X.K C g)) : PE X (.BinOp a .Mult b pos) (tF X.K C (lRep l g)) := pe_imp (pe_op op_rep ha hb) fun σ H Q ⟨O, ρ, R, q⟩ => by
  refine ⟨O, ρ, R, (Fin.bind q).imp fun ds _ q1 p vs H1 x1 s1 a1 => ?_⟩
  refine ⟨O, ρ, R.grow x1, ((Fin.bind q1).grow x1).imp fun e _ q2 u H2 x2 p2 => ?_⟩
  cases e with
  | int n =>
    by_cases hc : -1000000 ≤ n ∧ n ≤ 1000000 ∧ ds.length ≤ 1
    · have q4 : ∀ p vs H', Gx C.T H H' → H p = none → H' p = some (.lst vs) → DpAll X.K (hid (p :: O) H') vs (List.replicate n.toNat ds).flatten → Q (.ref p) H' := by simpa [Fin, hc] using q2
      have x12 := x1.trans x2
      refine ⟨p, n, vs, rfl, dp_int p2, x2.ex _ _ s1 rfl, by omega, by omega, line_le ?_, fun r nr => q4 r _ _ (x12.trans (Gx.new nr)) (fresh_back x12 nr) upd_same (DpAll.mono (hid_new nr) ((DpAll.mono (hid_mono x2) a1).rep _))⟩
      rw [a1.len]
      have h1 : ds.length = 0 ∨ ds.length = 1 := by omega
      rcases h1 with h1 | h1 <;> rw [h1] <;> omega
    · exact (show False from by simpa [Fin, hc] using q2).elim
  | _ => exact q2.elim

/-! ### displays -/
variable {es : List Expr} {fs : List VE}
theorem a_nil : PA X [] (tA X.K C (aAll [])) := pa_imp pa_nil fun σ H Q ⟨O, ρ, R, q⟩ => (show ∀ vs H', Gx C.T H H' → DpAll X.K (hid O H') vs [] → Q vs H' from q) [] H (Gx.refl H) .nil
theorem a_cons (ha : PE X e (tV X.K C f)) (hr : PA X es (tA X.K C (aAll fs))) (hs : starEach (e :: es) X.env = (false, eval e X.env) :: starEach es X.env := by rfl) : PA X (e :: es) (tA X.K C (aAll (f :: fs))) := pa_imp (pa_cons ha hr hs) fun σ H Q ⟨O, ρ, R, q⟩ => by
  refine ⟨O, ρ, R, (Fin.bind q).imp fun d _ q1 v H1 x1 p1 => ?_⟩
  refine ⟨O, ρ, R.grow x1, ((Fin.bind q1).grow x1).imp fun ds _ q2 vs H2 x2 p2 => ?_⟩
  exact (show ∀ vs H', Gx C.T H H' → DpAll X.K (hid O H') vs (d :: ds) → Q vs H' from q2) _ H2 (x1.trans x2) (.cons (Dp.mono (hid_mono x2) p1) p2)
/-- a tuple's display: the new tuple holds no instance dict -/
theorem pe_tupF {t : TA} {x1 : Nat} (h : PA X es t) : PE X (.Tuple es x1 pos) (fun σ H Q => t σ H fun xs H1 => xs.length ≤ sizeLine ∧ ∀ (p : Addr) (o : Obj), H1 p = none → o.dict = none → Q (.ref p) (upd H1 p (.frz o (.tup xs)))) := by
  refine ⟨fun pins s σ H Q I hq => ?_⟩
  refine wpAny_Tuple_spliced (thn (h.run pos pins s σ H _ I hq) fun us s1 ⟨xs, H1, I1, r, z, q⟩ => ⟨by rw [← r.length]; exact z, ?_⟩)
  have hf : H1 s1.heap.objs.size = none := I1.hok.fresh (Nat.le_refl _)
  refine ⟨.ref s1.heap.objs.size, upd H1 s1.heap.objs.size (.frz { cls := .type "tuple", data := .seq us.toArray } (.tup xs)), I1.laid (t' := s1.toks) (fun b u e => Heap.get?_push_of_some _ e) (Nat.le_refl _) ?_, rfl, q _ _ hf rfl⟩
  exact ⟨Heap.get?_push_size _ rfl, z, us, r, ⟨_, Heap.get?_push_size _ rfl, rfl, _, rfl⟩⟩
/-- such a tuple among the data -/
theorem tup_new {K : PySem.W.Frag} {O : List Addr} {H : Hp} {p : Addr} {o : Obj} {xs : List V} (hp : p ∉ O) (h : o.dict = none) : SqT K (hid O (upd H p (.frz o (.tup xs)))) p xs := .inl (.inr ⟨o, hid_out hp upd_same (by show o.dict.isSome = false; rw [h]; rfl)⟩)
theorem v_tup {k : Nat} (h : PA X es (tA X.K C (aAll fs))) (hl : fs.length ≤ 1000 := by exact Nat.le_of_ble_eq_true rfl) : PE X (.Tuple es k pos) (tV X.K C (eTup fs)) := pe_imp (pe_tupF h) fun σ H Q ⟨O, ρ, R, q⟩ => by
  refine ⟨O, ρ, R, (Fin.bind q).imp fun ds ed q1 vs H1 x1 p1 => ?_⟩
  have R1 := R.grow x1
  refine ⟨line_le (by rw [p1.len, aAll_len _ _ _ ed]; omega), fun p o np hd => ?_⟩
  exact (show ∀ v H', Gx C.T H H' → Dp X.K (hid O H') v (.tuple ds) → Q v H' from q1) _ _ (x1.trans (Gx.new np)) (.tup (tup_new (fun z => R1.alive p z np) hd) (DpAll.mono (hid_mono (τ := []) (Gx.new np)) p1))
theorem f_lst (h : PA X es (tA X.K C (aAll fs))) (hl : fs.length ≤ 1000 := by exact Nat.le_of_ble_eq_true rfl) : PE X (.List es pos) (tF X.K C (lLst fs)) := pe_imp (pe_lst h) fun σ H Q ⟨O, ρ, R, q⟩ => by
  refine ⟨O, ρ, R, (show Fin C σ H (aAll fs ρ) _ from q).imp fun ds ed q1 vs H1 x1 p1 => ?_⟩
  refine ⟨line_le (by rw [p1.len, aAll_len _ _ _ ed]; omega), fun p np => ?_⟩
  exact q1 p vs _ (x1.trans (Gx.new np)) (fresh_back x1 np) upd_same (DpAll.mono (hid_new np) p1)
end
end PL

/-! PL4: built-in functions, calls of defs, what is walked, comprehensions. -/
namespace PL
open PySem L2
section
variable {X : Cx} {C : PC} {a b c e : Expr} {f g h : VE} {l m : LE} {pos p1 : Pos} {es : List Expr}
/-! ### len, isinstance, sum .. -/
theorem dp_ty {K : PySem.W.Frag} {H : Hp} {v : V} {d : PyData} (h : Dp K H v d) : TyX K H v (.type (tyName d)) := by
  cases h with
  | non => exact .base .non
  | bl b => exact .base (.bl b)
  | int i => exact .base (.int i)
  | str s => exact .base (.str s)
  | lst s a =>
    rcases s with (s | ⟨o, s⟩) | ⟨o, its, n, h1, h2, _⟩
    · exact .base (.lst s)
    · exact .base (.frz s)
    · exact .kList h1 h2
  | tup s a =>
    rcases s with (s | ⟨o, s⟩) | ⟨o, its, n, h1, h2, _⟩
    · exact .base (.tup s)
    · exact .fTuple s
    · exact .kTuple h1 h2
/-- one argument that is read, by a rule on values -/
theorem one_cb {K : PySem.W.Frag} {r : List V → Hp → VK → Prop} {k : PyData → Out PyData} {σ : L2.St} {H : Hp} {Q : VK} {f : VE}
    (hr : ∀ (O : List Addr) (H : Hp) (x : V) (d z : PyData), Dp K H x d → k d = .ok z → (∀ v H', Gx C.T H H' → Dp K (hid O H') v z → Q v H') → r [x] H Q) (hx : ∀ d n, k d ≠ .exc n)
    (q : tV K C (fun ρ => (f ρ).bind k) σ H Q) : tCB r (tCons (tR K C f) tNil) σ H Q := by
  obtain ⟨O, ρ, R, q⟩ := q
  refine ⟨O, ρ, R, (Fin.bind q).imp fun d _ q1 v H1 x1 p1 => ?_⟩
  cases z : k d with
  | ok z' =>
    rw [z] at q1
    exact hr O H1 v d z' p1 z fun w H2 x2 p2 => q1 w H2 (x1.trans x2) p2
  | exc n => exact absurd z (hx d n)
  | stuck => rw [z] at q1; exact q1.elim
theorem v_len (hg : Gl X "len") (hm : X.mg "len" = none) (ha : PE X a (tR X.K C f)) (he : starEach [a] X.env = (false, eval a X.env) :: starEach [] X.env := by rfl) :
    PE X (.Call (.Name "len" p1) [a] [] pos) (tV X.K C (eLenV f)) := pe_imp (pe_callB call_len hg hm PySem.boot_len (pa_cons ha pa_nil he) (by decide) (by decide) he) fun σ H Q q => one_cb (fun O H x d z p hz hq => by
  unfold lenOf at hz
  split at hz
  · split at hz
    · rename_i hc
      cases hz
      rw [dp_str p]
      exact ⟨_, _, rfl, ⟨line_le hc, rfl⟩, hq _ H (Gx.refl H) (.int _)⟩
    · cases hz
  · cases hz
    obtain ⟨p, vs, rfl, s, t⟩ := dp_tup p
    exact ⟨_, _, rfl, .inr ⟨vs, s, rfl⟩, hq _ H (Gx.refl H) (by rw [t.len]; exact .int _)⟩
  · cases hz
    obtain ⟨p, vs, rfl, s, t⟩ := dp_lst p
    exact ⟨_, _, rfl, .inl ⟨vs, s, rfl⟩, hq _ H (Gx.refl H) (by rw [t.len]; exact .int _)⟩
  · cases hz) (fun d n h => by
  unfold lenOf at h
  split at h
  · split at h <;> cases h
  · cases h
  · cases h
  · cases h) q
theorem v_isI {T : String} (hg : Gl X "isinstance") (hm : X.mg "isinstance" = none) (hgT : Gl X (Str.ofString T)) (hmT : X.mg (Str.ofString T) = none) (hvT : bootBuiltins (Str.ofString T) = some (.type T)) (ha : PE X a (tR X.K C f)) (he : starEach (a :: [.Name (Str.ofString T) p1]) X.env = (false, eval a X.env) :: starEach [.Name (Str.ofString T) p1] X.env := by rfl)
    (hn : Str.ofString T ≠ "__name__" := by decide) (hd : (Str.ofString T == ("__debug__" : Str)) = false := by decide) {p2 : Pos} :
    PE X (.Call (.Name "isinstance" p2) [a, .Name (Str.ofString T) p1] [] pos) (tV X.K C (eIsI f T)) :=
  pe_imp (pe_callB call_isi hg hm (by decide +kernel) (pa_cons ha (pa_cons (pe_bltn (v := .ty T) hgT hmT hvT rfl hn hd) pa_nil) he) (by decide) (by decide) he) fun σ H Q ⟨O, ρ, R, q⟩ => by
  refine ⟨O, ρ, R, (Fin.bind q).imp fun d _ q1 v H1 x1 p1 => ?_⟩
  cases z : kitB (tyName d) T with
  | none => exact (show False from by simpa [Fin, z] using q1).elim
  | some b =>
    have q2 : ∀ v H', Gx C.T H H' → Dp X.K (hid O H') v (.bool b) → Q v H' := by simpa [Fin, z] using q1
    exact ⟨v, .ty T, .type (tyName d), .type T, b, rfl, .ty T, dp_ty p1, kit_ty z, q2 _ H1 x1 (.bl b)⟩
theorem v_sum (hc : X.calm = true) (hg : Gl X "sum") (hm : X.mg "sum" = none) (ha : PE X a (tL X.K C l)) (he : starEach [a] X.env = (false, eval a X.env) :: starEach [] X.env := by rfl) :
    PE X (.Call (.Name "sum" p1) [a] [] pos) (tV X.K C (eSum l)) := pe_imp (pe_callB (cr_sum hc) hg hm (by decide +kernel) (pa_cons ha pa_nil he) (by decide) (by decide) he) fun σ H Q ⟨O, ρ, R, q⟩ => by
  refine ⟨O, ρ, R, (Fin.bind q).imp fun ds _ q1 p vs H1 x1 s1 a1 => ?_⟩
  cases z : asInts ds with
  | none => exact (show False from by simpa [Fin, z] using q1).elim
  | some ns =>
    have q2 : ∀ v H', Gx C.T H H' → Dp X.K (hid O H') v (.int ns.sum) → Q v H' := by simpa [Fin, z] using q1
    refine ⟨p, ns, rfl, ?_, q2 _ H1 x1 (.int _)⟩
    rw [← a1.ints z]
    exact s1
theorem v_any (hc : X.calm = true) (hg : Gl X "any") (hm : X.mg "any" = none) (ha : PE X a (tL X.K C l)) (he : starEach [a] X.env = (false, eval a X.env) :: starEach [] X.env := by rfl) :
    PE X (.Call (.Name "any" p1) [a] [] pos) (tV X.K C (eAny l)) := pe_imp (pe_callB (cr_any hc) hg hm (by decide +kernel) (pa_cons ha pa_nil he) (by decide) (by decide) he) fun σ H Q ⟨O, ρ, R, q⟩ => by
  refine ⟨O, ρ, R, (Fin.bind q).imp fun ds _ q1 p vs H1 x1 s1 a1 => ?_⟩
  cases z : asBools ds with
  | none => exact (show False from by simpa [Fin, z] using q1).elim
  | some ns =>
    have q2 : ∀ v H', Gx C.T H H' → Dp X.K (hid O H') v (.bool (ns.any _root_.id)) → Q v H' := by simpa [Fin, z] using q1
    refine ⟨p, ns, rfl, ?_, q2 _ H1 x1 (.bl _)⟩
    rw [← a1.bools z]
    exact s1
theorem v_all (hc : X.calm = true) (hg : Gl X "all") (hm : X.mg "all" = none) (ha : PE X a (tL X.K C l)) (he : starEach [a] X.env = (false, eval a X.env) :: starEach [] X.env := by rfl) :
    PE X (.Call (.Name "all" p1) [a] [] pos) (tV X.K C (eAll l)) := pe_imp (pe_callB (cr_all hc) hg hm (by decide +kernel) (pa_cons ha pa_nil he) (by decide) (by decide) he) fun σ H Q ⟨O, ρ, R, q⟩ => by
  refine ⟨O, ρ, R, (Fin.bind q).imp fun ds _ q1 p vs H1 x1 s1 a1 => ?_⟩
  cases z : asBools ds with
  | none => exact (show False from by simpa [Fin, z] using q1).elim
  | some ns =>
    have q2 : ∀ v H', Gx C.T H H' → Dp X.K (hid O H') v (.bool (ns.all _root_.id)) → Q v H' := by simpa [Fin, z] using q1
    refine ⟨p, ns, rfl, ?_, q2 _ H1 x1 (.bl _)⟩
    rw [← a1.bools z]
    exact s1
theorem foldl_min_mem : ∀ (r : List Int) (x : Int), r.foldl min x ∈ x :: r ∧ ∀ y ∈ x :: r, r.foldl min x ≤ y
  | [], x => ⟨List.mem_cons_self, fun y hy => by
    have : y = x := by simpa using hy
    subst this
    exact Int.le_refl _⟩
  | y :: r, x => by
    obtain ⟨h1, h2⟩ := foldl_min_mem r (min x y)
    rw [List.foldl_cons]
    refine ⟨?_, fun z hz => ?_⟩
    · rcases List.mem_cons.mp h1 with e | e
      · rw [e]
        rcases Int.le_total x y with h | h
        · rw [Int.min_eq_left h]; exact List.mem_cons_self
        · rw [Int.min_eq_right h]; exact List.mem_cons_of_mem _ List.mem_cons_self
      · exact List.mem_cons_of_mem _ (List.mem_cons_of_mem _ e)
    · have h0 := h2 (min x y) List.mem_cons_self
      rcases List.mem_cons.mp hz with rfl | hz
      · omega
      · rcases List.mem_cons.mp hz with rfl | hz
        · omega
        · exact h2 z (List.mem_cons_of_mem _ hz)
theorem least_is {ns : List Int} {m m' : Int} (h : leastOf ns = some m) (h1 : m' ∈ ns) (h2 : ∀ y ∈ ns, m' ≤ y) : m' = m := by
  cases ns with
  | nil => cases h
  | cons x r =>
    cases h
    obtain ⟨a1, a2⟩ := foldl_min_mem r x
    have := h2 _ a1
    have := a2 _ h1
    omega
theorem v_minL (hc : X.calm = true) (hg : Gl X "min") (hm : X.mg "min" = none) (ha : PE X a (tL X.K C l)) (he : starEach [a] X.env = (false, eval a X.env) :: starEach [] X.env := by rfl) :
    PE X (.Call (.Name "min" p1) [a] [] pos) (tV X.K C (eMinL l)) := pe_imp (pe_callB (cr_min hc) hg hm (by decide +kernel) (pa_cons ha pa_nil he) (by decide) (by decide) he) fun σ H Q ⟨O, ρ, R, q⟩ => by
  refine ⟨O, ρ, R, (Fin.bind q).imp fun ds _ q1 p vs H1 x1 s1 a1 => ?_⟩
  cases z : asInts ds with
  | none => exact (show False from by simpa [Fin, z] using q1).elim
  | some ns =>
    cases z2 : leastOf ns with
    | none => exact (show False from by simpa [Fin, z, z2] using q1).elim
    | some m =>
      have q2 : ∀ v H', Gx C.T H H' → Dp X.K (hid O H') v (.int m) → Q v H' := by simpa [Fin, z, z2] using q1
      refine ⟨p, ns, rfl, ?_, ?_, fun m' hm1 hm2 => ?_⟩
      · rw [← a1.ints z]
        exact s1
      · cases ns with
        | nil => cases z2
        | cons x r => exact Nat.succ_pos _
      · rw [least_is z2 hm1 hm2]
        exact q2 _ H1 x1 (.int _)
theorem two_cb {K : PySem.W.Frag} {r : List V → Hp → VK → Prop} {k : Op2} {σ : L2.St} {H : Hp} {Q : VK} {f g : VE}
    (hr : ∀ (O : List Addr) (H : Hp) (x y : V) (d e z : PyData), Dp K (hid O H) x d → Dp K (hid O H) y e → k d e = .ok z → (∀ v H', Gx C.T H H' → Dp K (hid O H') v z → Q v H') → r [x, y] H Q) (hx : ∀ d e n, k d e ≠ .exc n)
    (q : tV K C (eOp k f g) σ H Q) : tCB r (tCons (tV K C f) (tCons (tV K C g) tNil)) σ H Q := by
  obtain ⟨O, ρ, R, q⟩ := q
  refine ⟨O, ρ, R, (Fin.bind q).imp fun d _ q1 v H1 x1 p1 => ?_⟩
  refine ⟨O, ρ, R.grow x1, ((Fin.bind q1).grow x1).imp fun e _ q2 u H2 x2 p2 => ?_⟩
  cases z : k d e with
  | ok z' =>
    rw [z] at q2
    exact hr O H2 v u d e z' (Dp.mono (hid_mono x2) p1) p2 z fun w H3 x3 p3 => q2 w H3 ((x1.trans x2).trans x3) p3
  | exc n => exact absurd z (hx d e n)
  | stuck => rw [z] at q2; exact q2.elim
theorem v_min2 (hc : X.calm = true) (hg : Gl X "min") (hm : X.mg "min" = none) (ha : PE X a (tV X.K C f)) (hb : PE X b (tV X.K C g)) (he : starEach [a, b] X.env = (false, eval a X.env) :: starEach [b] X.env := by rfl) (he2 : starEach [b] X.env = (false, eval b X.env) :: starEach [] X.env := by rfl) :
    PE X (.Call (.Name "min" p1) [a, b] [] pos) (tV X.K C (eOp oMin f g)) := pe_imp (pe_callB (call_min2 hc) hg hm (by decide +kernel) (pa_cons ha (pa_cons hb pa_nil he2) he) (by decide) (by decide) he (by rw [he2]; rfl)) fun σ H Q q => two_cb (fun O H x y d e z h1 h2 hz hq => by
  unfold oMin at hz
  split at hz
  · cases hz; exact ⟨_, _, by rw [dp_int h1, dp_int h2], hq _ H (Gx.refl H) (.int _)⟩
  · cases hz) (fun d e n h => by unfold oMin at h; split at h <;> cases h) q
theorem v_max2 (hc : X.calm = true) (hg : Gl X "max") (hm : X.mg "max" = none) (ha : PE X a (tV X.K C f)) (hb : PE X b (tV X.K C g)) (he : starEach [a, b] X.env = (false, eval a X.env) :: starEach [b] X.env := by rfl) (he2 : starEach [b] X.env = (false, eval b X.env) :: starEach [] X.env := by rfl) :
    PE X (.Call (.Name "max" p1) [a, b] [] pos) (tV X.K C (eOp oMax f g)) := pe_imp (pe_callB (call_max2 hc) hg hm (by decide +kernel) (pa_cons ha (pa_cons hb pa_nil he2) he) (by decide) (by decide) he (by rw [he2]; rfl)) fun σ H Q q => two_cb (fun O H x y d e z h1 h2 hz hq => by
  unfold oMax at hz
  split at hz
  · cases hz; exact ⟨_, _, by rw [dp_int h1, dp_int h2], hq _ H (Gx.refl H) (.int _)⟩
  · cases hz) (fun d e n h => by unfold oMax at h; split at h <;> cases h) q
theorem v_intB (hg : Gl X "int") (hm : X.mg "int" = none) (ha : PE X a (tV X.K C f)) (he : starEach [a] X.env = (false, eval a X.env) :: starEach [] X.env := by rfl) :
    PE X (.Call (.Name "int" p1) [a] [] pos) (tV X.K C (eIntB f)) := pe_imp (pe_callTy call_int1 hg hm (by decide +kernel) (pa_cons ha pa_nil he) (by decide) (by decide) he) fun σ H Q ⟨O, ρ, R, q⟩ => by
  refine ⟨O, ρ, R, (Fin.bind q).imp fun d _ q1 v H1 x1 p1 => ?_⟩
  cases d with
  | bool b => exact .inr ⟨b, by rw [dp_bl p1], (show ∀ v H', Gx C.T H H' → Dp X.K (hid O H') v (.int (if b then 1 else 0)) → Q v H' from q1) _ H1 x1 (.int _)⟩
  | _ => exact q1.elim
/-- list(x): a new list -/
theorem f_listL (hg : Gl X "list") (hm : X.mg "list" = none) (ha : PE X a (tL X.K C l)) (he : starEach [a] X.env = (false, eval a X.env) :: starEach [] X.env := by rfl) :
    PE X (.Call (.Name "list" p1) [a] [] pos) (tF X.K C l) := pe_imp (pe_callTy call_list_of hg hm (by decide +kernel) (pa_cons ha pa_nil he) (by decide) (by decide) he) fun σ H Q ⟨O, ρ, R, q⟩ => by
  refine ⟨O, ρ, R, q.imp fun ds _ q1 p vs H1 x1 s1 a1 => ?_⟩
  exact ⟨p, vs, rfl, .inl s1, fun r nr => q1 r vs _ (x1.trans (Gx.new nr)) (fresh_back x1 nr) upd_same (DpAll.mono (hid_new nr) a1)⟩
theorem call_tupleF : CallR X (.type "tuple") (fun xs H Q => ∃ p ys, xs = [.ref p] ∧ SqL X.K H p ys ∧ ∀ (l : Addr) (o : Obj), H l = none → o.dict = none → Q (.ref l) (upd H l (.frz o (.tup ys)))) := by
  intro pins s σ H xs us Q I r h
  obtain ⟨p, ys, rfl, hq, q⟩ := h
  obtain ⟨u, rfl, rx⟩ := vals1 r
  cases rx
  obtain ⟨its, r', pl, hz⟩ := I.list hq
  have hlen := r'.length
  refine call_tuple_list pl.isList (fun h' kp => ?_) (by simp only [List.size_toArray] <;> omega)
  have I1 : Inv X pins σ H { s with heap := h' } := I.kept (t' := s.toks) kp
  have I2 : Inv X pins σ (upd H h'.objs.size (.frz { cls := .type "tuple", data := .seq its.toArray } (.tup ys))) { s with heap := h'.push { cls := .type "tuple", data := .seq its.toArray } } :=
    I1.laid (t' := s.toks) (fun b o e => Heap.get?_push_of_some _ e) (Nat.le_refl _) (show ObjOk X.prog X.w _ _ _ (.frz _ (.tup ys)) from ⟨Heap.get?_push_size _ rfl, hz, its, r', ⟨_, Heap.get?_push_size _ rfl, rfl, _, rfl⟩⟩)
  exact ⟨.ref h'.objs.size, _, I2, rfl, q _ _ (I1.hok.fresh (Nat.le_refl _)) rfl⟩
/-- tuple(x), x a list -/
theorem v_tupL (hg : Gl X "tuple") (hm : X.mg "tuple" = none) (ha : PE X a (tL X.K C l)) (he : starEach [a] X.env = (false, eval a X.env) :: starEach [] X.env := by rfl) :
    PE X (.Call (.Name "tuple" p1) [a] [] pos) (tV X.K C (eTupL l)) := pe_imp (pe_callTy call_tupleF hg hm (by decide +kernel) (pa_cons ha pa_nil he) (by decide) (by decide) he) fun σ H Q ⟨O, ρ, R, q⟩ => by
  refine ⟨O, ρ, R, (Fin.bind q).imp fun ds _ q1 p vs H1 x1 s1 a1 => ?_⟩
  refine ⟨p, vs, rfl, s1, fun r o nr hd => ?_⟩
  have R1 := R.grow x1
  exact (show ∀ v H', Gx C.T H H' → Dp X.K (hid O H') v (.tuple ds) → Q v H' from q1) _ _ (x1.trans (Gx.new nr)) (.tup (tup_new (fun z => R1.alive r z nr) hd) (DpAll.mono (hid_mono (τ := []) (Gx.new nr)) a1))

/-! ### calls of defs -/
/-- a def's promise, by its plain function -/
def spP (K : PySem.W.Frag) (tb : List (Addr × Str)) (cv : String → Value) (n : Nat) (F : FN) : Sp := fun vs H Q E => ∃ O args, args.length = n ∧ LamX.Tabs tb H ∧ (∀ b ∈ O, H b ≠ none) ∧ ArgsOk K O H vs args ∧ match F args with
  | .ok r => ∀ v H', Gx tb H H' → RetC K O H H' v r → Q v H'
  | .exc nm => ∀ H', Gx tb H H' → E (cv nm) none H'
  | .stuck => False
/-- a def that stands, with its plain function -/
structure Dfn (P : Program) (w : World) (K : PySem.W.Frag) (mg : Str → Option Value) (base : Heap) (tb : List (Addr × Str)) (cv : String → Value) (k : Nat) (x : Str) (n : Nat) (F : FN) : Prop where
  ex : ∃ (f : Addr) (fd : FuncData) (ps : List Str), FnOk P w K mg base (L2.CX P w) k f fd ps (spP K tb cv n F) ∧ mg x = some (.ref f) ∧ PySem.W.keepIn K (.ref f) = true ∧ Binds K fd ps []
theorem Dfn.imp {P : Program} {w : World} {K : PySem.W.Frag} {mg : Str → Option Value} {base : Heap} {tb : List (Addr × Str)} {cv : String → Value} {k : Nat} {x : Str} {n : Nat} {F F' : FN} (D : Dfn P w K mg base tb cv k x n F) (h : ∀ as, as.length = n → F' as ≠ .stuck → F as = F' as) : Dfn P w K mg base tb cv k x n F' := by
  obtain ⟨f, fd, ps, F0, r⟩ := D.ex
  refine ⟨f, fd, ps, F0.imp fun vs H Q E ⟨O, args, hl, ht, al, ha, q⟩ => ⟨O, args, hl, ht, al, ha, ?_⟩, r⟩
  have : F' args ≠ .stuck := fun z => by rw [z] at q; exact q
  rw [h args hl this]
  exact q
theorem Dfn.mono {P : Program} {w : World} {K : PySem.W.Frag} {mg : Str → Option Value} {base : Heap} {tb : List (Addr × Str)} {cv : String → Value} {j k : Nat} {x : Str} {n : Nat} {F : FN} (D : Dfn P w K mg base tb cv j x n F) (h : j ≤ k) : Dfn P w K mg base tb cv k x n F := by
  obtain ⟨f, fd, ps, F0, r⟩ := D.ex
  exact ⟨f, fd, ps, F0.mono h, r⟩
variable {ra : AE} {F : FN} {k : Nat} {n : Nat} {x : Str}
/-- what a callee raises is taken -/
def Wk (X : Cx) (C : PC) : Prop := ∀ σ, PassesAt (L2.CX X.prog X.w) X σ (WE C.W σ)
theorem x_call (D : Dfn X.prog X.w X.K X.mg X.base C.T C.cv k x n F) (hr : Room k X.A) (hx : Wk X C) (hg : Gl X x) (ha : PA X (e :: es) (tAr X.K C ra)) (hn : ∀ ρ ss, ra ρ = .ok ss → ss.length = n) (hdb : (x == ("__debug__" : Str)) = false := by decide)
    (he : starEach (e :: es) X.env = (false, eval e X.env) :: starEach es X.env := by rfl) (hpl : (backTo pos (starEach es X.env)).any (·.1) = false := by rfl) :
    PE X (.Call (.Name x p1) (e :: es) [] pos) (tX X.K C (xCall F ra)) := by
  obtain ⟨f, fd, ps, F0, hmg, hk, hb⟩ := D.ex
  refine pe_imp (pe_callS F0 hr hg hmg hk hb hx ha hdb he hpl) fun σ H Q ⟨O, ρ, R, q⟩ => ?_
  refine ⟨O, ρ, R, (Fin.bind q).imp fun ss es q1 vs H1 x1 a1 => ?_⟩
  refine ⟨O, ss, hn ρ ss es, (R.grow x1).tabs, (R.grow x1).alive, a1, ?_⟩
  cases z : F ss with
  | ok r =>
    rw [z] at q1
    refine fun v H' x2 p2 => q1 v H' (x1.trans x2) ?_
    cases r with
    | val d => exact p2
    | fresh ds => obtain ⟨p, vs, a, b, c⟩ := p2; exact ⟨p, vs, a, fresh_back x1 b, c⟩
    | dfresh ds => obtain ⟨p, vs, a, b, c⟩ := p2; exact ⟨p, vs, a, fresh_back x1 b, c⟩
    | gfresh ds => obtain ⟨p, vs, a, b, c, d⟩ := p2; exact ⟨p, vs, a, fresh_back x1 b, c, d.nd, fun q hq => fresh_back x1 (d.new q hq), d.row⟩
  | exc nm => rw [z] at q1; exact fun H' x2 => q1 H' (x1.trans x2)
  | stuck => rw [z] at q1; exact q1
theorem ar_nil : PA X [] (tAr X.K C rNil) := pa_imp pa_nil fun σ H Q ⟨O, ρ, R, q⟩ => (show ∀ vs H', Gx C.T H H' → ArgsOk X.K O H' vs [] → Q vs H' from q) [] H (Gx.refl H) .nil
theorem ar_V (ha : PE X e (tV X.K C f)) (hr : PA X es (tAr X.K C ra)) (hs : starEach (e :: es) X.env = (false, eval e X.env) :: starEach es X.env := by rfl) : PA X (e :: es) (tAr X.K C (rV f ra)) := pa_imp (pa_cons ha hr hs) fun σ H Q ⟨O, ρ, R, q⟩ => by
  refine ⟨O, ρ, R, (Fin.bind q).imp fun d _ q1 v H1 x1 p1 => ?_⟩
  refine ⟨O, ρ, R.grow x1, ((Fin.bind q1).grow x1).imp fun ds _ q2 vs H2 x2 p2 => ?_⟩
  exact (show ∀ vs H', Gx C.T H H' → ArgsOk X.K O H' vs (.fz d :: ds) → Q vs H' from q2) _ H2 (x1.trans x2) (.cons (Dp.mono (hid_mono x2) p1) p2)
theorem ar_L (ha : PE X e (tL X.K C l)) (hr : PA X es (tAr X.K C ra)) (hs : starEach (e :: es) X.env = (false, eval e X.env) :: starEach es X.env := by rfl) : PA X (e :: es) (tAr X.K C (rL l ra)) := pa_imp (pa_cons ha hr hs) fun σ H Q ⟨O, ρ, R, q⟩ => by
  refine ⟨O, ρ, R, (Fin.bind q).imp fun d _ q1 p vs H1 x1 s1 a1 => ?_⟩
  refine ⟨O, ρ, R.grow x1, ((Fin.bind q1).grow x1).imp fun ds _ q2 ws H2 x2 p2 => ?_⟩
  exact (show ∀ vs H', Gx C.T H H' → ArgsOk X.K O H' vs (.bw d :: ds) → Q vs H' from q2) _ H2 (x1.trans x2) (.cons ⟨p, vs, rfl, ex_l x2 s1, DpAll.mono (hid_mono x2) a1⟩ p2)
/-- a dict that is read -/
def tD (K : PySem.W.Frag) (C : PC) (i : Nat) : TE := fun σ H Q => ∃ O ρ, Rep K C O H σ ρ ∧ Fin C σ H (dVar i ρ) fun kvs => ∀ p vs H', Gx C.T H H' → H' p = some (.dT vs) → KvAll K (hid O H') vs kvs → Q (.ref p) H'
theorem d_var (i : Nat) {x : Str} {pos : Pos} (hN : X.N[i]? = some x := by rfl) (hv : Vis X.env.scope x := by first | exact Or.inl rfl | exact Or.inr (Or.inl rfl) | exact Or.inr (Or.inr rfl)) (hd : (x == ("__debug__" : Str)) = false := by decide)
    (hcd : (x == ("__classdict__" : Str)) = false := by decide) : PE X (.Name x pos) (tD X.K C i) := pe_imp (pe_var (i := i) hN hv hd hcd) fun σ H Q ⟨O, ρ, R, q⟩ => by
  unfold dVar at q
  split at q
  · rename_i ds e
    obtain ⟨v, h1, p, vs, rfl, _, _, h4, h5⟩ := R.slot i _ e
    exact ⟨.ref p, h1, q p vs H (Gx.refl H) h4 h5⟩
  · rename_i ds e
    obtain ⟨v, h1, p, vs, rfl, hM, h4, h5⟩ := R.slot i _ e
    exact ⟨.ref p, h1, q p vs H (Gx.refl H) (R.ex.st _ _ hM h4 rfl) h5⟩
  · exact q.elim
theorem ar_D {i : Nat} (ha : PE X e (tD X.K C i)) (hr : PA X es (tAr X.K C ra)) (hs : starEach (e :: es) X.env = (false, eval e X.env) :: starEach es X.env := by rfl) : PA X (e :: es) (tAr X.K C (rD i ra)) := pa_imp (pa_cons ha hr hs) fun σ H Q ⟨O, ρ, R, q⟩ => by
  refine ⟨O, ρ, R, (Fin.bind q).imp fun d _ q1 p vs H1 x1 s1 a1 => ?_⟩
  refine ⟨O, ρ, R.grow x1, ((Fin.bind q1).grow x1).imp fun ds _ q2 ws H2 x2 p2 => ?_⟩
  exact (show ∀ vs H', Gx C.T H H' → ArgsOk X.K O H' vs (.dbw d :: ds) → Q vs H' from q2) _ H2 (x1.trans x2) (.cons ⟨p, vs, rfl, x2.ex _ _ s1 rfl, KvAll.mono (hid_mono x2) a1⟩ p2)
end
end PL

/-! PL5: what loops and comprehensions walk. -/
namespace PL
open PySem L2
/-- J yields ds, whatever of the program's own has changed meanwhile -/
def ItOk (K : PySem.W.Frag) (C : PC) (O : List Addr) (H : Hp) (J : It) (ds : List PyData) : Prop := ∀ (O' : List Addr) (H' : Hp), Ex (hid O H) (hid O' H') → (ExM C.T C.M C.H0 H') → (∀ b ∈ O', H' b ≠ none) → ∀ i : Nat,
  (i < ds.length → J.go i H' ∧ ∀ x H3, J.yld i H' x H3 → Gx C.T H' H3 ∧ ∃ d, ds[i]? = some d ∧ Dp K (hid O' H3) x d) ∧ (ds.length ≤ i → J.stop i H')
/-- a value; or (s is false) a tuple that is taken apart at once -/
def DpB (s : Bool) (K : PySem.W.Frag) (O : List Addr) (H : Hp) (v : V) (d : PyData) : Prop := Dp K (hid O H) v d ∨ (s = false ∧ ∃ a vs ds, v = .ref a ∧ d = .tuple ds ∧ SqT K H a vs ∧ DpAll K (hid O H) vs ds)
theorem DpB.tup {s : Bool} {K : PySem.W.Frag} {O : List Addr} {H : Hp} {v : V} {ds : List PyData} (h : DpB s K O H v (.tuple ds)) : ∃ a vs, v = .ref a ∧ SqT K H a vs ∧ DpAll K (hid O H) vs ds := by
  rcases h with h | ⟨_, a, vs, ds', rfl, e, h1, h2⟩
  · obtain ⟨a, vs, rfl, s, al⟩ := dp_tup h
    exact ⟨a, vs, rfl, ex_t hid_ex s, al⟩
  · cases e
    exact ⟨a, vs, rfl, h1, h2⟩
theorem DpB.st {K : PySem.W.Frag} {O : List Addr} {H : Hp} {v : V} {d : PyData} (h : DpB true K O H v d) : Dp K (hid O H) v d := h.elim id fun z => nomatch z.1
/-- .. while nothing changes -/
def ItOkE (s : Bool) (K : PySem.W.Frag) (τ : List (Addr × Str)) (O : List Addr) (H : Hp) (J : It) (ds : List PyData) : Prop := ∀ (O' : List Addr) (H' : Hp), Gx τ H H' → Ex (hid O H) (hid O' H') → (∀ b ∈ O', H' b ≠ none) → ∀ i : Nat,
  (i < ds.length → J.go i H' ∧ ∀ x H3, J.yld i H' x H3 → Gx τ H' H3 ∧ ∃ d, ds[i]? = some d ∧ DpB s K O' H3 x d) ∧ (ds.length ≤ i → J.stop i H')
section
variable (K : PySem.W.Frag) (C : PC)
def tW (w : LE) : TI := fun σ H R => ∃ O ρ, Rep K C O H σ ρ ∧ Fin C σ H (w ρ) fun ds => ∀ J H', Gx C.T H H' → ItOk K C O H' J ds → R J H'
def tWE (s : Bool) (w : LE) : TI := fun σ H R => ∃ O ρ, Rep K C O H σ ρ ∧ Fin C σ H (w ρ) fun ds => ∀ J H', Gx C.T H H' → ItOkE s K C.T O H' J ds → R J H'
end
section
variable {X : Cx} {C : PC} {a b c e tg : Expr} {f g h : VE} {l m : LE} {pos p1 : Pos} {es : List Expr}
theorem wE_W (hi : PI X tg e (tW X.K C l)) : PI X tg e (tWE X.K C true l) := pi_imp hi fun σ H R ⟨O, ρ, Rp, q⟩ => ⟨O, ρ, Rp, q.imp fun ds _ k J H' x it => k J H' x fun O2 H2 x2 xh al => fun i => (it O2 H2 xh (Rp.grow (x.trans x2)).ex al i).imp (fun f hi => (f hi).imp id fun g x H3 y => (g x H3 y).imp id fun ⟨d, a, b⟩ => ⟨d, a, .inl b⟩) id⟩
theorem get_rng (lo : Int) (n : Nat) (c : Int) (i : Nat) (h : i < n) : (rngD lo n c)[i]? = some (.int (lo + (i : Nat) * c)) := by
  unfold rngD
  rw [List.getElem?_map, List.getElem?_range h]
  rfl
theorem len_rng (lo : Int) (n : Nat) (c : Int) : (rngD lo n c).length = n := by
  unfold rngD
  rw [List.length_map, List.length_range]
theorem itr_ok {K : PySem.W.Frag} {O : List Addr} {H : Hp} {lo : Int} {n : Nat} : ItOk K C O H (Itr lo n) (rngD lo n 1) := fun O' H' _ _ _ i => by
  rw [len_rng]
  refine ⟨fun hi => ⟨hi, fun x H3 y => ?_⟩, fun hi => hi⟩
  obtain ⟨rfl, rfl⟩ := y
  refine ⟨Gx.refl _, _, get_rng lo n 1 i hi, ?_⟩
  rw [Int.mul_one]
  exact .int _
theorem itc_ok {K : PySem.W.Frag} {O : List Addr} {H : Hp} {lo c : Int} {n : Nat} : ItOk K C O H (Itc lo c n) (rngD lo n c) := fun O' H' _ _ _ i => by
  rw [len_rng]
  refine ⟨fun hi => ⟨hi, fun x H3 y => ?_⟩, fun hi => hi⟩
  obtain ⟨rfl, rfl⟩ := y
  exact ⟨Gx.refl _, _, get_rng lo n c i hi, .int _⟩
theorem w_range1 (hg : Gl X "range") (hm : X.mg "range" = none) (ha : PE X a (tV X.K C f)) (hs : starEach [a] X.env = [(false, eval a X.env)] := by rfl) : PI X tg (.Call (.Name "range" p1) [a] [] pos) (tW X.K C (wRange1 f)) :=
  pi_imp (pi_range1 hg hm (pa_cons ha pa_nil hs) hs) fun σ H R ⟨O, ρ, Rp, q⟩ => by
  refine ⟨O, ρ, Rp, (Fin.bind q).imp fun d _ q1 v H1 x1 p1 => ?_⟩
  cases d with
  | int n =>
    by_cases hc : okR n = true
    · have hb := of_decide_eq_true hc
      have q2 : ∀ J H', Gx C.T H H' → ItOk X.K C O H' J (rngD 0 n.toNat 1) → R J H' := by simpa [Fin, hc] using q1
      exact ⟨n, by rw [dp_int p1], by omega, by omega, q2 _ H1 x1 itr_ok⟩
    · exact (show False from by simpa [Fin, hc] using q1).elim
  | _ => exact q1.elim
theorem w_range2 (hg : Gl X "range") (hm : X.mg "range" = none) (ha : PE X a (tV X.K C f)) (hb : PE X b (tV X.K C g)) (hs : starEach [a, b] X.env = [(false, eval a X.env), (false, eval b X.env)] := by rfl) (hs2 : starEach [b] X.env = [(false, eval b X.env)] := by rfl) : PI X tg (.Call (.Name "range" p1) [a, b] [] pos) (tW X.K C (wRange2 f g)) :=
  pi_imp (pi_range2 hg hm (pa_cons ha (pa_cons hb pa_nil hs2) (by rw [hs, hs2])) hs hs2) fun σ H R ⟨O, ρ, Rp, q⟩ => by
  refine ⟨O, ρ, Rp, (Fin.bind q).imp fun d _ q1 v H1 x1 p1 => ?_⟩
  refine ⟨O, ρ, Rp.grow x1, ((Fin.bind q1).grow x1).imp fun e _ q2 u H2 x2 p2 => ?_⟩
  cases d with
  | int lo =>
    cases e with
    | int hi =>
      by_cases hc : (okR lo && okR hi) = true
      · have hc' := hc
        rw [Bool.and_eq_true] at hc'
        have hb1 := of_decide_eq_true hc'.1
        have hb2 := of_decide_eq_true hc'.2
        have q3 : ∀ J H', Gx C.T H H' → ItOk X.K C O H' J (rngD lo (hi - lo).toNat 1) → R J H' := by
          have q4 := q2
          simp only [Fin, hc, if_true] at q4
          exact q4
        exact ⟨lo, hi, by rw [dp_int p1, dp_int p2], ⟨by omega, by omega, by omega, by omega⟩, q3 _ H2 (x1.trans x2) itr_ok⟩
      · exact (show False from by
          have q4 := q2
          simp only [Fin, hc] at q4
          exact q4).elim
    | _ => exact q2.elim
  | _ => exact q2.elim
theorem small_two {a b : Int} (h1 : -100000 ≤ a) (h2 : a ≤ 100000) (h3 : -100000 ≤ b) (h4 : b ≤ 100000) : RgC a b 2 ((b - a + 1) / 2).toNat := by
  refine ⟨by decide, by decide, ?_, ?_⟩
  · unfold Builtin.Range.small Builtin.Range.rangeSize
    simp only [Builtin.Range.rangeFitsLong, Bool.and_eq_true, Bool.or_eq_true, decide_eq_true_eq, beq_iff_eq, show ((2 : Int) > 0) from by decide, if_true]
    split <;> (first | omega | (refine ⟨?_, ?_⟩ <;> omega))
  · unfold Builtin.Range.rangeSize
    simp only [show ((2 : Int) > 0) from by decide, if_true]
    split <;> omega
theorem w_range3 (hg : Gl X "range") (hm : X.mg "range" = none) (ha : PE X a (tV X.K C f)) (hb : PE X b (tV X.K C g)) (hc : PE X c (tV X.K C h)) (hs : starEach [a, b, c] X.env = (false, eval a X.env) :: starEach [b, c] X.env := by rfl) (hs2 : starEach [b, c] X.env = (false, eval b X.env) :: starEach [c] X.env := by rfl) (hs3 : starEach [c] X.env = [(false, eval c X.env)] := by rfl) :
    PI X tg (.Call (.Name "range" p1) [a, b, c] [] pos) (tW X.K C (wRange3 f g h)) :=
  pi_imp (pi_range3 hg hm (pa_cons ha (pa_cons hb (pa_cons hc pa_nil hs3) hs2) hs) hs (by rw [hs2, hs3]; rfl)) fun σ H R ⟨O, ρ, Rp, q⟩ => by
  refine ⟨O, ρ, Rp, (Fin.bind q).imp fun d _ q1 v H1 x1 p1 => ?_⟩
  refine ⟨O, ρ, Rp.grow x1, ((Fin.bind q1).grow x1).imp fun e _ q2 u H2 x2 p2 => ?_⟩
  refine ⟨O, ρ, Rp.grow (x1.trans x2), ((Fin.bind q2).grow (x1.trans x2)).imp fun e' _ q3 u3 H3 x3 p3 => ?_⟩
  cases d with
  | int lo =>
    cases e with
    | int hi =>
      cases e' with
      | int c =>
        by_cases hc : c = 2 ∧ -100000 ≤ lo ∧ lo ≤ 100000 ∧ -100000 ≤ hi ∧ hi ≤ 100000
        · have q4 := q3
          simp only [Fin, if_pos hc] at q4
          obtain ⟨rfl, h1, h2, h3, h4⟩ := hc
          exact ⟨lo, hi, 2, _, by rw [dp_int p1, dp_int p2, dp_int p3], small_two h1 h2 h3 h4, q4 _ H3 ((x1.trans x2).trans x3) itc_ok⟩
        · exact (show False from by
            have q4 := q3
            simp only [Fin, if_neg hc] at q4).elim
      | _ => exact q3.elim
    | _ => exact q3.elim
  | _ => exact q3.elim
/-- a list that stands still -/
theorem itl_ok {K : PySem.W.Frag} {O : List Addr} {H : Hp} {p : Addr} {vs : List V} {ds : List PyData} (st : ∀ H', (ExM C.T C.M C.H0 H') → ∀ O', Ex (hid O H) (hid O' H') → SqL K H' p vs) (al : DpAll K (hid O H) vs ds) : ItOk K C O H (Itl K p) ds := fun O' H' x ex _ i => by
  have s := st H' ex O' x
  refine ⟨fun hi => ?_, fun hi => ⟨vs, s, by rw [al.len]; exact hi⟩⟩
  obtain ⟨v, h1, h2⟩ := al.get (List.getElem?_eq_getElem hi)
  refine ⟨⟨vs, v, s, h1⟩, fun y H3 hy => ?_⟩
  obtain ⟨rfl, hy⟩ := hy
  have e : y = v := Option.some.inj ((hy vs s).symm.trans h1)
  subst e
  exact ⟨Gx.refl _, _, List.getElem?_eq_getElem hi, Dp.mono x h2⟩
theorem w_V (ha : PE X e (tV X.K C f)) : PI X tg e (tW X.K C (lOfV f)) := pi_imp (pi_list ha) fun σ H R ⟨O, ρ, Rp, q⟩ => by
  refine ⟨O, ρ, Rp, (Fin.bind q).imp fun d _ q1 v H1 x1 p1 => ?_⟩
  cases d with
  | list ds =>
    obtain ⟨p, vs, rfl, s, al⟩ := dp_lst p1
    exact ⟨p, rfl, ⟨vs, ex_l hid_ex s⟩, (show ∀ J H', Gx C.T H H' → ItOk X.K C O H' J ds → R J H' from q1) _ H1 x1 (itl_ok (fun H' _ O' x => ex_l (x.trans hid_ex) s) al)⟩
  | _ => exact q1.elim
/-- a name whose list stands still -/
theorem w_var (i : Nat) {x : Str} {pos : Pos} (hN : X.N[i]? = some x := by rfl) (hv : Vis X.env.scope x := by first | exact Or.inl rfl | exact Or.inr (Or.inl rfl) | exact Or.inr (Or.inr rfl)) (hd : (x == ("__debug__" : Str)) = false := by decide)
    (hcd : (x == ("__classdict__" : Str)) = false := by decide) : PI X tg (.Name x pos) (tW X.K C (sVar i)) := pi_imp (pi_list (pe_var (i := i) hN hv hd hcd)) fun σ H R ⟨O, ρ, Rp, q⟩ => by
  unfold sVar at q
  split at q
  · rename_i ds e
    obtain ⟨v, h1, h2⟩ := Rp.slot i _ e
    obtain ⟨p, vs, rfl, s, al⟩ := dp_lst (show Dp X.K (hid O H) v (.list ds) from h2)
    exact ⟨.ref p, h1, p, rfl, ⟨vs, ex_l hid_ex s⟩, q _ H (Gx.refl H) (itl_ok (fun H' _ O' x => ex_l (x.trans hid_ex) s) al)⟩
  · rename_i ds e
    obtain ⟨v, h1, p, vs, rfl, hM, s, al⟩ := Rp.slot i _ e
    refine ⟨.ref p, h1, p, rfl, ⟨vs, Rp.bwL hM s⟩, q _ H (Gx.refl H) (itl_ok (fun H' ex O' x => ?_) al)⟩
    rcases s with (s | ⟨o, s⟩) | s
    · exact .inl (.inl (ex.st p _ hM s rfl))
    · exact .inl (.inr ⟨o, ex.st p _ hM s rfl⟩)
    · exact .inr s
  · rename_i ds e
    obtain ⟨v, h1, h2⟩ := Rp.slot i _ e
    obtain ⟨p, vs, rfl, s, al⟩ := dp_lst (OoF.dp (show OoF X.K C.H0 (hid O H) v ds from h2))
    exact ⟨.ref p, h1, p, rfl, ⟨vs, ex_l hid_ex s⟩, q _ H (Gx.refl H) (itl_ok (fun H' _ O' x => ex_l (x.trans hid_ex) s) al)⟩
  · exact q.elim
theorem w_str (ha : PE X e (tV X.K C f)) : PI X tg e (tW X.K C (wStr f)) := pi_imp (pi_str ha) fun σ H R ⟨O, ρ, Rp, q⟩ => by
  refine ⟨O, ρ, Rp, (Fin.bind q).imp fun d _ q1 v H1 x1 p1 => ?_⟩
  cases d with
  | str z =>
    refine ⟨z, dp_str p1, (show ∀ J H', Gx C.T H H' → ItOk X.K C O H' J (z.cps.toList.map fun c => .str ⟨#[c]⟩) → R J H' from q1) _ H1 x1 fun O' H' x ex _ i => ?_⟩
    have hl : (z.cps.toList.map fun c => PyData.str ⟨#[c]⟩).length = z.cps.size := by simp
    rw [hl]
    refine ⟨fun hi => ⟨hi, fun y H3 hy => ?_⟩, fun hi => hi⟩
    obtain ⟨rfl, c, hc, rfl⟩ := hy
    refine ⟨Gx.refl _, .str ⟨#[c]⟩, ?_, .str _⟩
    rw [List.getElem?_map, Array.getElem?_toList, hc]
    rfl
  | _ => exact q1.elim
/-- any list, while nothing changes -/
theorem wE_L (ha : PE X e (tL X.K C l)) : PI X tg e (tWE X.K C true l) := pi_imp (pi_list ha) fun σ H R ⟨O, ρ, Rp, q⟩ => by
  refine ⟨O, ρ, Rp, q.imp fun ds _ q1 p vs H1 x1 s1 al => ?_⟩
  refine ⟨p, rfl, ⟨vs, s1⟩, q1 _ H1 x1 fun O' H' x xh _ i => ?_⟩
  have s := ex_l x.ex s1
  refine ⟨fun hi => ?_, fun hi => ⟨vs, s, by rw [al.len]; exact hi⟩⟩
  obtain ⟨v, h1, h2⟩ := al.get (List.getElem?_eq_getElem hi)
  refine ⟨⟨vs, v, s, h1⟩, fun y H3 hy => ?_⟩
  obtain ⟨rfl, hy⟩ := hy
  have e : y = v := Option.some.inj ((hy vs s).symm.trans h1)
  subst e
  exact ⟨Gx.refl _, _, List.getElem?_eq_getElem hi, .inl (Dp.mono xh h2)⟩
theorem get_enum (ds : List PyData) (i : Nat) (d : PyData) (h : ds[i]? = some d) : (enumD ds)[i]? = some (.tuple [.int (i : Nat), d]) := by
  unfold enumD
  have hi : i < ds.length := (List.getElem?_eq_some_iff.mp h).1
  rw [List.getElem?_zipWith, List.getElem?_range hi, h]
theorem len_enum (ds : List PyData) : (enumD ds).length = ds.length := by
  unfold enumD
  rw [List.length_zipWith, List.length_range, Nat.min_self]
variable {elts : List Expr} {kk : Nat} {tpos : Pos}
theorem wE_enum (hg : Gl X "enumerate") (hm : X.mg "enumerate" = none) (ha : PE X a (tL X.K C l)) (hs : starEach [a] X.env = [(false, eval a X.env)] := by rfl) : PI X (.Tuple elts kk tpos) (.Call (.Name "enumerate" p1) [a] [] pos) (tWE X.K C false (wEnum l)) :=
  pi_imp (pi_enum hg hm (pa_cons ha pa_nil hs) hs) fun σ H R ⟨O, ρ, Rp, q⟩ => by
  refine ⟨O, ρ, Rp, (Fin.bind q).imp fun ds _ q1 p vs H1 x1 s1 al => ?_⟩
  refine ⟨p, vs, rfl, s1, (show ∀ J H', Gx C.T H H' → ItOkE false X.K C.T O H' J (enumD ds) → R J H' from q1) _ H1 x1 fun O' H' x xh ali i => ?_⟩
  have s := ex_l x.ex s1
  rw [len_enum]
  refine ⟨fun hi => ?_, fun hi => ⟨vs, s, by rw [al.len]; exact hi⟩⟩
  obtain ⟨v, h1, h2⟩ := al.get (List.getElem?_eq_getElem hi)
  refine ⟨⟨vs, v, s, h1⟩, fun y H3 hy => ?_⟩
  obtain ⟨T, x', rfl, nT, rfl, hy⟩ := hy
  have e : x' = v := Option.some.inj ((hy vs s).symm.trans h1)
  subst e
  exact ⟨Gx.new nT, _, get_enum ds i _ (List.getElem?_eq_getElem hi), .inr ⟨rfl, _, _, _, rfl, rfl, SqT.of upd_same, .cons (.int _) (.cons (Dp.mono (xh.trans (hid_mono (τ := []) (Gx.new nT))) h2) .nil)⟩⟩
theorem get_zip (a b : List PyData) (i : Nat) (d e : PyData) (h : a[i]? = some d) (h2 : b[i]? = some e) : (zipD a b)[i]? = some (.tuple [d, e]) := by
  unfold zipD
  rw [List.getElem?_zipWith, h, h2]
theorem wE_zip (hg : Gl X "zip") (hm : X.mg "zip" = none) (ha : PE X a (tL X.K C l)) (hb : PE X b (tL X.K C m)) (hs : starEach [a, b] X.env = (false, eval a X.env) :: starEach [b] X.env := by rfl) (hs2 : starEach [b] X.env = [(false, eval b X.env)] := by rfl) : PI X (.Tuple elts kk tpos) (.Call (.Name "zip" p1) [a, b] [] pos) (tWE X.K C false (wZip l m)) :=
  pi_imp (pi_zip hg hm (pa_cons ha (pa_cons hb pa_nil hs2) hs) hs (by rw [hs2]; rfl)) fun σ H R ⟨O, ρ, Rp, q⟩ => by
  refine ⟨O, ρ, Rp, (Fin.bind q).imp fun ds _ q1 p vs H1 x1 s1 al => ?_⟩
  refine ⟨O, ρ, Rp.grow x1, ((Fin.bind q1).grow x1).imp fun es _ q2 r ws H2 x2 s2 bl => ?_⟩
  refine ⟨p, r, vs, ws, rfl, ex_l x2 s1, s2, (show ∀ J H', Gx C.T H H' → ItOkE false X.K C.T O H' J (zipD ds es) → R J H' from q2) _ H2 (x1.trans x2) fun O' H' x xh ali i => ?_⟩
  have sa := ex_l (x2.trans x).ex s1
  have sb := ex_l x.ex s2
  have hl : (zipD ds es).length = min ds.length es.length := by unfold zipD; rw [List.length_zipWith]
  rw [hl]
  refine ⟨fun hi => ?_, fun hi => ⟨vs, ws, sa, sb, by rw [al.len, bl.len]; omega⟩⟩
  have h1 : i < ds.length := by omega
  have h2 : i < es.length := by omega
  obtain ⟨v, a1, a2⟩ := al.get (List.getElem?_eq_getElem h1)
  obtain ⟨u, b1, b2⟩ := bl.get (List.getElem?_eq_getElem h2)
  refine ⟨⟨vs, ws, v, u, sa, sb, a1, b1⟩, fun y H3 hy => ?_⟩
  obtain ⟨T, x', y', rfl, nT, rfl, hy1, hy2⟩ := hy
  have e1 : x' = v := Option.some.inj ((hy1 vs sa).symm.trans a1)
  have e2 : y' = u := Option.some.inj ((hy2 ws sb).symm.trans b1)
  subst e1 e2
  exact ⟨Gx.new nT, _, get_zip ds es i _ _ (List.getElem?_eq_getElem h1) (List.getElem?_eq_getElem h2), .inr ⟨rfl, _, _, _, rfl, rfl, SqT.of upd_same, .cons (Dp.mono ((hid_mono x2).trans (xh.trans (hid_mono (τ := []) (Gx.new nT)))) a2) (.cons (Dp.mono (xh.trans (hid_mono (τ := []) (Gx.new nT))) b2) .nil)⟩⟩

/-! ### targets -/
section
variable {K : PySem.W.Frag} {O O' : List Addr} {H H' : Hp} {σ : L2.St} {ρ : Env}
theorem Rep.set (R : Rep K C O H σ ρ) {i : Nat} {v : V} {d : PyData} (h : Dp K (hid O H) v d) : Rep K C O H (σ.set i (some v)) (ρ.set i (some (.fz d))) where
  ex := R.ex
  o0 := R.o0
  sub := R.sub
  alive := R.alive
  len := by rw [List.length_set, List.length_set]; exact R.len
  slot := fun j s e => by
    by_cases hj : j = i
    · subst hj
      have hl : j < ρ.length := by
        have := (List.getElem?_eq_some_iff.mp e).1
        rw [List.length_set] at this
        exact this
      rw [List.getElem?_set_self hl] at e
      cases e
      exact ⟨v, by rw [List.getElem?_set_self (by rw [R.len]; exact hl)], h⟩
    · rw [List.getElem?_set_ne (Ne.symm hj)] at e
      rw [List.getElem?_set_ne (Ne.symm hj)]
      exact R.slot j s e
  apart := fun j k s t p hjk e1 o1 e2 e3 o3 e4 => by
    by_cases hj : j = i
    · subst hj
      have hl : j < ρ.length := by
        have := (List.getElem?_eq_some_iff.mp e1).1
        rw [List.length_set] at this
        exact this
      rw [List.getElem?_set_self hl] at e1
      cases e1
      cases o1
    · by_cases hk : k = i
      · subst hk
        have hl : k < ρ.length := by
          have := (List.getElem?_eq_some_iff.mp e3).1
          rw [List.length_set] at this
          exact this
        rw [List.getElem?_set_self hl] at e3
        cases e3
        cases o3
      · rw [List.getElem?_set_ne (Ne.symm hj)] at e1 e2
        rw [List.getElem?_set_ne (Ne.symm hk)] at e3 e4
        exact R.apart j k s t p hjk e1 o1 e2 e3 o3 e4
theorem Rep.back0 (R : Rep K C O H σ ρ) {q : Addr} (h : H q = none) : C.H0 q = none := by
  cases e : C.H0 q with
  | none => rfl
  | some o => exact absurd h (R.ex.tb q o e)
theorem Rep.setG (R : Rep K C O H σ ρ) {i : Nat} {v : V} {dss : List (List PyData)} (h : OoF K C.H0 (hid O H) v dss) : Rep K C O H (σ.set i (some v)) (ρ.set i (some (.oo dss))) where
  ex := R.ex
  o0 := R.o0
  sub := R.sub
  alive := R.alive
  len := by rw [List.length_set, List.length_set]; exact R.len
  slot := fun j s e => by
    by_cases hj : j = i
    · subst hj
      have hl : j < ρ.length := by
        have := (List.getElem?_eq_some_iff.mp e).1
        rw [List.length_set] at this
        exact this
      rw [List.getElem?_set_self hl] at e
      cases e
      exact ⟨v, by rw [List.getElem?_set_self (by rw [R.len]; exact hl)], h⟩
    · rw [List.getElem?_set_ne (Ne.symm hj)] at e
      rw [List.getElem?_set_ne (Ne.symm hj)]
      exact R.slot j s e
  apart := fun j k s t p hjk e1 o1 e2 e3 o3 e4 => by
    by_cases hj : j = i
    · subst hj
      have hl : j < ρ.length := by
        have := (List.getElem?_eq_some_iff.mp e1).1
        rw [List.length_set] at this
        exact this
      rw [List.getElem?_set_self hl] at e1
      cases e1
      cases o1
    · by_cases hk : k = i
      · subst hk
        have hl : k < ρ.length := by
          have := (List.getElem?_eq_some_iff.mp e3).1
          rw [List.length_set] at this
          exact this
        rw [List.getElem?_set_self hl] at e3
        cases e3
        cases o3
      · rw [List.getElem?_set_ne (Ne.symm hj)] at e1 e2
        rw [List.getElem?_set_ne (Ne.symm hk)] at e3 e4
        exact R.apart j k s t p hjk e1 o1 e2 e3 o3 e4
/-- less is known -/
theorem Rep.weak (R : Rep K C O H σ ρ) {σ' : L2.St} {ρ' : Env} (hl : σ'.length = ρ'.length) (h : ∀ (i : Nat) s, ρ'[i]? = some (some s) → ρ[i]? = some (some s) ∧ σ'[i]? = σ[i]?) : Rep K C O H σ' ρ' where
  ex := R.ex
  o0 := R.o0
  sub := R.sub
  alive := R.alive
  len := hl
  slot := fun j s e => by
    obtain ⟨e1, e2⟩ := h j s e
    rw [e2]
    exact R.slot j s e1
  apart := fun j k s t p hjk e1 o1 e2 e3 o3 e4 => by
    obtain ⟨a1, a2⟩ := h j s e1
    obtain ⟨b1, b2⟩ := h k t e3
    rw [a2] at e2
    rw [b2] at e4
    exact R.apart j k s t p hjk a1 o1 e2 b1 o3 e4
theorem wp_some {ρ : Env} {i : Nat} {s : SL} : ∀ {ws : List Nat}, (wp ws ρ)[i]? = some (some s) → ρ[i]? = some (some s) ∧ i ∉ ws
  | [], h => ⟨h, by simp⟩
  | v :: vs, h => by
    unfold wp at h
    by_cases hi : v = i
    · subst hi
      by_cases hv : v < (wp vs ρ).length
      · rw [List.getElem?_set_self hv] at h; cases h
      · rw [List.getElem?_eq_none (by rw [List.length_set]; omega)] at h; cases h
    · rw [List.getElem?_set_ne hi] at h
      obtain ⟨h1, h2⟩ := wp_some h
      exact ⟨h1, by simp only [List.mem_cons, not_or]; exact ⟨fun e => hi e.symm, h2⟩⟩
theorem wp_len {ρ : Env} : ∀ {ws : List Nat}, (wp ws ρ).length = ρ.length
  | [] => rfl
  | v :: vs => by unfold wp; rw [List.length_set, wp_len]
/-- the value keeps its slot, the plain state forgets it -/
theorem Rep.wp (R : Rep K C O H σ ρ) {ws : List Nat} : Rep K C O H σ (wp ws ρ) := R.weak (by rw [wp_len]; exact R.len) fun i s e => ⟨(wp_some e).1, rfl⟩
theorem wipe_at {σ : L2.St} {i : Nat} : ∀ {ws : List Nat}, i ∉ ws → (wipe σ ws)[i]? = σ[i]? := wipe_out
/-- .. both forget it -/
theorem Rep.wipe (R : Rep K C O H σ ρ) {ws : List Nat} : Rep K C O H (L2.wipe σ ws) (PL.wp ws ρ) := R.weak (by rw [wp_len, wipe_length]; exact R.len) fun i s e => ⟨(wp_some e).1, wipe_at (wp_some e).2⟩
end
/-- a target's plain form; ts: the slots that it stores -/
def TgOk (s : Bool) (K : PySem.W.Frag) (C : PC) (g : TG) (tg : TGT) (ts : List Nat) : Prop := ∀ (v : V) (d : PyData) (O : List Addr) (H : Hp) (σ : L2.St) (ρ ρ' : Env) (Q : L2.St → Hp → Prop), Rep K C O H σ ρ → DpB s K O H v d → tg d ρ = some ρ' →
  (∀ σ', Rep K C O H σ' ρ' → (∀ ws : List Nat, (∀ t ∈ ts, t ∈ ws) → wipe σ' ws = wipe σ ws) → Q σ' H) → g v σ H Q
theorem wipe_get (σ : L2.St) (j : Nat) : ∀ ws : List Nat, (wipe σ ws)[j]? = if j ∈ ws ∧ j < σ.length then some none else σ[j]?
  | [] => by simp [wipe]
  | v :: vs => by
    unfold wipe
    by_cases hv : v = j
    · subst hv
      by_cases hl : v < σ.length
      · rw [List.getElem?_set_self (by rw [wipe_length]; exact hl), if_pos ⟨List.mem_cons_self, hl⟩]
      · rw [if_neg (fun z => hl z.2), List.getElem?_eq_none (by rw [List.length_set, wipe_length]; omega), List.getElem?_eq_none (by omega)]
    · rw [List.getElem?_set_ne hv, wipe_get σ j vs]
      by_cases hm : j ∈ vs ∧ j < σ.length
      · rw [if_pos hm, if_pos ⟨List.mem_cons_of_mem _ hm.1, hm.2⟩]
      · rw [if_neg hm, if_neg (fun z => hm ⟨(List.mem_cons.mp z.1).resolve_left (fun e => hv e.symm), z.2⟩)]
theorem wipe_set {σ : L2.St} {i : Nat} {x : Option V} {ws : List Nat} (h : i ∈ ws) : wipe (σ.set i x) ws = wipe σ ws := by
  refine List.ext_getElem? fun j => ?_
  rw [wipe_get, wipe_get, List.length_set]
  by_cases hj : j ∈ ws ∧ j < σ.length
  · rw [if_pos hj, if_pos hj]
  · rw [if_neg hj, if_neg hj]
    by_cases e : i = j
    · subst e
      have hl : ¬ i < σ.length := fun z => hj ⟨h, z⟩
      rw [List.getElem?_eq_none (by rw [List.length_set]; omega), List.getElem?_eq_none (by omega)]
    · rw [List.getElem?_set_ne e]
theorem tg_name {K : PySem.W.Frag} (i : Nat) : TgOk true K C (gName i) (tgN i) [i] := fun v d O H σ ρ ρ' Q R p e k => by
  cases e
  exact k _ (R.set p.st) fun ws hw => wipe_set (hw i List.mem_cons_self)
theorem tg_pair {K : PySem.W.Frag} {s : Bool} (i j : Nat) : TgOk s K C (gTup K 2 (gCons (gName i) (gCons (gName j) gNil))) (tgP i j) [i, j] := fun v d O H σ ρ ρ' Q R p e k => by
  unfold tgP at e
  split at e
  · rename_i x y
    cases e
    obtain ⟨a, vs, rfl, s, al⟩ := DpB.tup p
    cases al with
    | cons h1 t =>
      cases t with
      | cons h2 t =>
        cases t
        exact ⟨a, _, rfl, s, rfl, _, _, rfl, _, _, rfl, rfl, k _ ((R.set h1).set h2) fun ws hw => by
          rw [wipe_set (hw j (List.mem_cons_of_mem _ List.mem_cons_self)), wipe_set (hw i List.mem_cons_self)]⟩
  · cases e

/-! ### comprehensions -/
theorem hid_more {O : List Addr} {H H' : Hp} {D : Addr} (x : Gx C.T H H') (h : H D = none) : Ex (hid O H) (hid (D :: O) H') := fun b u e n => by
  obtain ⟨hb, e'⟩ := hid_of e
  exact hid_out (by simp only [List.mem_cons, not_or]; exact ⟨ne_of_none e' h, hb⟩) (x.ex b u e' n) (hid_of3 e).2.2
theorem Rep.more {K : PySem.W.Frag} {O : List Addr} {H H' : Hp} {σ : L2.St} {ρ : Env} {D : Addr} (R : Rep K C O H σ ρ) (x : Gx C.T H H') (h : H D = none) (hD : H' D ≠ none) : Rep K C (D :: O) H' σ ρ where
  ex := R.ex.grow x
  o0 := R.o0
  sub := fun b hb => List.mem_cons_of_mem _ (R.sub b hb)
  alive := fun b hb e => by
    rcases List.mem_cons.mp hb with rfl | hb
    · exact hD e
    · exact R.alive b hb (fresh_back x e)
  len := R.len
  slot := fun i s e => by
    obtain ⟨v, h1, h2⟩ := R.slot i s e
    refine ⟨v, h1, ?_⟩
    have xm : Ex (hid O H) (hid (D :: O) H') := hid_more x h
    cases s with
    | fz d => exact Dp.mono xm h2
    | ow ds => obtain ⟨p, vs, a, b, c, d, e⟩ := h2; exact ⟨p, vs, a, List.mem_cons_of_mem _ b, c, x.ex _ _ d rfl, DpAll.mono xm e⟩
    | bw ds => obtain ⟨p, vs, a, b, c, e⟩ := h2; exact ⟨p, vs, a, b, c, DpAll.mono xm e⟩
    | dow ds => obtain ⟨p, vs, a, b, c, d, e⟩ := h2; exact ⟨p, vs, a, List.mem_cons_of_mem _ b, c, x.ex _ _ d rfl, KvAll.mono xm e⟩
    | dbw ds => obtain ⟨p, vs, a, b, c, e⟩ := h2; exact ⟨p, vs, a, b, c, KvAll.mono xm e⟩
    | er n => exact h2
    | mw ds => obtain ⟨p, vs, a, b, c, d, e⟩ := h2; exact ⟨p, vs, a, List.mem_cons_of_mem _ b, c, x.ex _ _ d rfl, DpAll.mono xm e⟩
    | og ds => obtain ⟨p, vs, a, b, c, d, e⟩ := h2; exact ⟨p, vs, a, List.mem_cons_of_mem _ b, c, x.ex _ _ d rfl, e.mono xm⟩
    | oo ds => exact OoF.mono xm h2
  apart := R.apart
theorem wipe_idem (σ : L2.St) (vs : List Nat) : wipe (wipe σ vs) vs = wipe σ vs := by
  refine List.ext_getElem? fun j => ?_
  rw [wipe_get, wipe_get, wipe_length]
  by_cases hj : j ∈ vs ∧ j < σ.length
  · rw [if_pos hj, if_pos hj]
  · rw [if_neg hj]
abbrev PC.blk (C : PC) : PC := { C with W := fun _ _ _ _ => False }
theorem Rep.blk {K : PySem.W.Frag} {O : List Addr} {H : Hp} {σ : L2.St} {ρ : Env} (R : Rep K C O H σ ρ) : Rep K C.blk O H σ ρ := ⟨R.ex, R.o0, R.sub, R.alive, R.len, R.slot, R.apart⟩
variable {tg' : TGT} {ts : List Nat} {tt : BE} {el : VE} {wl : LE}
theorem lcGo_run {sg : Bool} {K : PySem.W.Frag} {O : List Addr} {H1 : Hp} {J : It} {ds : List PyData} {g : TG} {σ : L2.St} {ρ : Env} {vs : List Nat} {D : Addr} {Qd : Hp → Prop}
    (R : Rep K C O H1 σ ρ) (hD : H1 D = none) (it : ItOkE sg K C.T O H1 J ds) (hg : TgOk sg K C.blk g tg' ts) (hts : ∀ x ∈ ts, x ∈ vs) (hlen : ds.length < 1000000)
    {ys : List PyData} (hgo : lcGo tg' tt el (wp vs ρ) ds = .ok ys) (hd : ∀ H' us, Gx C.T H1 H' → H' D = some (.lst us) → DpAll K (hid (D :: O) H') us ys → Qd H') :
    ∃ W : Nat → Nat → Hp → Prop, (∃ m, W 0 m (upd H1 D (.lst []))) ∧ ∀ i m H, W i m H →
      (J.stop i H ∧ Qd H) ∨ (J.go i H ∧ ∃ Nx : Hp → Prop, (∀ H', Nx H' → ∃ m', m' < m ∧ W (i + 1) m' H') ∧ ∀ x H', J.yld i H x H' → g x (wipe σ vs) H' fun σ2 H2 => wipe σ2 vs = wipe σ vs ∧ tT K C.blk tt σ2 H2 fun b H3 =>
        if b = true then tV K C.blk el σ2 H3 fun y H4 => ∃ acc, H4 D = some (.lst acc) ∧ acc.length < sizeLine ∧ Nx (upd H4 D (.lst (acc ++ [y]))) else Nx H3) := by
  refine ⟨fun i m H => m = ds.length - i ∧ i ≤ ds.length ∧ Gx C.T H1 H ∧ ∃ us zs rest, H D = some (.lst us) ∧ DpAll K (hid (D :: O) H) us zs ∧ us.length ≤ i ∧ lcGo tg' tt el (wp vs ρ) (ds.drop i) = .ok rest ∧ ys = zs ++ rest,
    ⟨ds.length, rfl, Nat.zero_le _, Gx.new hD, [], [], ys, upd_same, .nil, Nat.le_refl _, hgo, rfl⟩, ?_⟩
  rintro i m H ⟨rfl, hi, ex, us, zs, rest, hDl, al, hus, hgo', hys⟩
  have RD : Rep K C (D :: O) H σ ρ := R.more ex hD (by rw [hDl]; intro z; cases z)
  obtain ⟨it1, it2⟩ := it (D :: O) H ex (hid_more ex hD) RD.alive i
  by_cases hlt : i < ds.length
  · obtain ⟨hgo1, hy⟩ := it1 hlt
    refine .inr ⟨hgo1, fun H' => Gx C.T H1 H' ∧ ∃ us zs rest, H' D = some (.lst us) ∧ DpAll K (hid (D :: O) H') us zs ∧ us.length ≤ i + 1 ∧ lcGo tg' tt el (wp vs ρ) (ds.drop (i + 1)) = .ok rest ∧ ys = zs ++ rest,
      fun H' ⟨h1, h2⟩ => ⟨ds.length - (i + 1), by omega, rfl, hlt, h1, h2⟩, fun x H' yl => ?_⟩
    obtain ⟨ex2, d, hd1, hd2⟩ := hy x H' yl
    have hdrop : ds.drop i = d :: ds.drop (i + 1) := by
      rw [List.drop_eq_getElem_cons hlt]
      congr 1
      rw [List.getElem?_eq_getElem hlt] at hd1
      exact Option.some.inj hd1
    rw [hdrop] at hgo'
    unfold lcGo at hgo'
    cases ht : tg' d (wp vs ρ) with
    | none => rw [ht] at hgo'; cases hgo'
    | some ρ1 =>
      rw [ht] at hgo'
      have hgo1 : ((tt ρ1).bind fun b => if b = true then (el ρ1).bind fun y => (lcGo tg' tt el (wp vs ρ) (ds.drop (i + 1))).bind fun ys => .ok (y :: ys) else lcGo tg' tt el (wp vs ρ) (ds.drop (i + 1))) = Out.ok rest := hgo'
      have R1 : Rep K C.blk (D :: O) H' (wipe σ vs) (wp vs ρ) := (RD.blk.wipe).grow ex2
      refine hg x d (D :: O) H' (wipe σ vs) _ ρ1 _ R1 hd2 ht fun σ' R2 hwp => ?_
      refine ⟨by rw [hwp vs hts, wipe_idem], ?_⟩
      refine ⟨D :: O, ρ1, R2, ?_⟩
      cases hb : tt ρ1 with
      | exc n => rw [hb] at hgo1; cases hgo1
      | stuck => rw [hb] at hgo1; cases hgo1
      | ok b =>
        rw [hb] at hgo1
        refine fun H3 x3 => ?_
        have exD : H3 D = some (.lst us) := x3.ex _ _ (ex2.ex _ _ hDl rfl) rfl
        have al3 : DpAll K (hid (D :: O) H3) us zs := DpAll.mono (hid_mono (ex2.trans x3)) al
        cases b with
        | false =>
          exact iteF ⟨(ex.trans ex2).trans x3, us, zs, rest, exD, al3, by omega, hgo1, hys⟩
        | true =>
          refine iteT ⟨D :: O, ρ1, R2.grow x3, ?_⟩
          have hgo2 : ((el ρ1).bind fun y => (lcGo tg' tt el (wp vs ρ) (ds.drop (i + 1))).bind fun ys => .ok (y :: ys)) = Out.ok rest := hgo1
          cases he : el ρ1 with
          | exc n => rw [he] at hgo2; cases hgo2
          | stuck => rw [he] at hgo2; cases hgo2
          | ok y =>
            rw [he] at hgo2
            have hgo3 : ((lcGo tg' tt el (wp vs ρ) (ds.drop (i + 1))).bind fun ys => .ok (y :: ys)) = Out.ok rest := hgo2
            cases hr : lcGo tg' tt el (wp vs ρ) (ds.drop (i + 1)) with
            | exc n => rw [hr] at hgo3; cases hgo3
            | stuck => rw [hr] at hgo3; cases hgo3
            | ok rest' =>
              rw [hr] at hgo3
              cases hgo3
              refine fun v H4 x4 p4 => ⟨us, x4.ex _ _ exD rfl, Nat.lt_of_lt_of_le (Nat.lt_of_le_of_lt (Nat.le_trans hus hi) hlen) (by rw [sizeLine_eq]; decide), Gx.mut (((ex.trans ex2).trans x3).trans x4) hD (x4.ex _ _ exD rfl), us ++ [v], zs ++ [y], rest', upd_same, ?_, by
                rw [List.length_append]
                show us.length + 1 ≤ i + 1
                omega, rfl, by rw [hys, List.append_assoc]; rfl⟩
              rw [hid_upd List.mem_cons_self]
              exact (DpAll.mono (hid_mono x4) al3).append (.cons p4 .nil)
  · have hie : i = ds.length := by omega
    subst hie
    refine .inl ⟨it2 (Nat.le_refl _), ?_⟩
    rw [List.drop_length] at hgo'
    cases hgo'
    rw [List.append_nil] at hys
    subst hys
    exact hd H us ex hDl al
theorem lc_t {sg : Bool} {K : PySem.W.Frag} {g : TG} {σ : L2.St} {H : Hp} {Q : VK} {vs : List Nat} (hg : TgOk sg K C.blk g tg' ts) (hts : ∀ x ∈ ts, x ∈ vs) (q : tF K C (lComp wl tg' vs tt el) σ H Q) : tLc (tWE K C sg wl) g (tT K C.blk tt) (tV K C.blk el) vs σ H Q := by
  obtain ⟨O, ρ, R, q⟩ := q
  refine ⟨O, ρ, R, (Fin.bind q).imp fun ds _ q1 J H1 x1 it D nD => ?_⟩
  by_cases hlen : ds.length < 1000000
  · cases hgo : lcGo tg' tt el (wp vs ρ) ds with
    | ok ys =>
      have q2 : ∀ p vs H', Gx C.T H H' → H p = none → H' p = some (.lst vs) → DpAll K (hid (p :: O) H') vs ys → Q (.ref p) H' := by
        have q3 := q1
        simp only [Fin, if_pos hlen, hgo] at q3
        exact q3
      exact lcGo_run (R.grow x1) nD it hg hts hlen hgo fun H' us x2 a b => q2 D us H' (x1.trans x2) (fresh_back x1 nD) a b
    | exc n =>
      have q3 := q1
      simp only [Fin, if_pos hlen, hgo, noExc] at q3
    | stuck =>
      have q3 := q1
      simp only [Fin, if_pos hlen, hgo, noExc] at q3
  · have q3 := q1
    simp only [Fin, if_neg hlen] at q3
/-- [elt for target in iter if ..] -/
theorem f_lc {sg : Bool} {elt iter : Expr} {ifs : List Expr} {scope : Scope} {own : List (Str × Nat)} {g : TG} (hc : X.calm = true) (hN : X.N.Nodup) (hi : PI X tg iter (tWE X.K C sg wl)) (hgt : TgOk sg X.K C.blk g tg' ts) (ok : BlkOk X.N X.env.scope scope own) (hts : ∀ x ∈ ts, x ∈ own.map (·.2))
    (hg : ∀ (s : Shared) (H : Hp) (C : Addr) (cl : List (Str × Addr)) (fp : List Addr), PG (X.blk s H scope (compEnvC scope cl C X.env) fp) tg g) (ht : ∀ (s : Shared) (H : Hp) (C' : Addr) (cl : List (Str × Addr)) (fp : List Addr), PTs (X.blk s H scope (compEnvC scope cl C' X.env) fp) ifs (tT X.K C.blk tt))
    (he : ∀ (s : Shared) (H : Hp) (C' : Addr) (cl : List (Str × Addr)) (fp : List Addr), PE (X.blk s H scope (compEnvC scope cl C' X.env) fp) elt (tV X.K C.blk el)) (hs : ∀ x, foldedSetIterable iter X.env x = pure x := by intro _; rfl) :
    PE X (.ListComp elt [⟨tg, iter, ifs, 0⟩] scope pos) (tF X.K C (lComp wl tg' (own.map (·.2)) tt el)) := pe_imp (pe_lc hc hN hi ok hg ht he hs) fun σ H Q q => lc_t hgt hts q
theorem ts_nil : PTs X [] (tT X.K C bYes) := pts_imp pts_nil fun σ H Q ⟨O, ρ, R, q⟩ => (show ∀ H', Gx C.T H H' → Q true H' from q) H (Gx.refl H)
theorem ts_one {c : Expr} (h : PT X c (tT X.K C tt)) : PTs X [c] (tT X.K C tt) := pts_one h
/-- nothing is taken within a comprehension -/
theorem wk_blk {s : Shared} {H : Hp} {scope : Scope} {ce : PySem.Env} {fp : List Addr} : Wk (X.blk s H scope ce fp) C.blk := fun σ pins H s e s' I ⟨a, B, H', cls, d, h1, h2, h3, h4, h5, h6, h7, h8⟩ => h8.elim
end
end PL

/-! PL6: statements, loops, defs. -/
namespace PL
open PySem L2
section
variable (K : PySem.W.Frag) (C : PC)
/-- what a body hands back, at its end -/
def RetV (O : List Addr) (H : Hp) (v : V) : RV → Prop
  | .val d => Dp K (hid O H) v d
  | .fresh ds => ∃ p vs, v = .ref p ∧ C.H0 p = none ∧ H p = some (.lst vs) ∧ DpAll K (hid (p :: O) H) vs ds
  | .dfresh kvs => ∃ p vs, v = .ref p ∧ C.H0 p = none ∧ H p = some (.dT vs) ∧ KvAll K (hid (p :: O) H) vs kvs
  | .gfresh dss => ∃ p qs, v = .ref p ∧ C.H0 p = none ∧ H p = some (.lst (qs.map V.ref)) ∧ Oo K C.H0 (hid (p :: O) H) qs dss
def Post (D : Ends) (O : List Addr) (H : Hp) : SO → Prop
  | .nx ρ' => ∀ σ' O' H', Rep K C O' H' σ' ρ' → Ex (hid O H) (hid O' H') → D.nx σ' H'
  | .bk ρ' => ∀ σ' O' H', Rep K C O' H' σ' ρ' → Ex (hid O H) (hid O' H') → D.bk σ' H'
  | .ct ρ' => ∀ σ' O' H', Rep K C O' H' σ' ρ' → Ex (hid O H) (hid O' H') → D.ct σ' H'
  | .rt r ρ' => ∀ v σ' O' H', Rep K C O' H' σ' ρ' → Ex (hid O H) (hid O' H') → RetV K C O' H' v r → D.rt v H'
  | .ex n ρ' => ∀ σ' O' H', Rep K C O' H' σ' ρ' → Ex (hid O H) (hid O' H') → C.W (C.cv n) none σ' H'
  | .stuck => False
def tS (g : SE) : TS := fun D σ H => ∃ O ρ, Rep K C O H σ ρ ∧ Post K C D O H (g ρ)
end
section
variable {K : PySem.W.Frag} {C : PC} {O O' : List Addr} {H H' : Hp} {σ : L2.St} {ρ : Env} {D : Ends}
theorem Post.grow {s : SO} (h : Post K C D O H s) (x : Ex (hid O H) (hid O' H')) : Post K C D O' H' s := by
  cases s with
  | nx ρ' => exact fun σ' O2 H2 R x2 => h σ' O2 H2 R (x.trans x2)
  | bk ρ' => exact fun σ' O2 H2 R x2 => h σ' O2 H2 R (x.trans x2)
  | ct ρ' => exact fun σ' O2 H2 R x2 => h σ' O2 H2 R (x.trans x2)
  | rt r ρ' => exact fun v σ' O2 H2 R x2 => h v σ' O2 H2 R (x.trans x2)
  | ex n ρ' => exact fun σ' O2 H2 R x2 => h σ' O2 H2 R (x.trans x2)
  | stuck => exact h
/-- an expression's end in a statement -/
theorem Post.fin {α : Type} {o : Out α} {f : α → SO} {k : α → Prop} (R : Rep K C O H σ ρ) (h : Post K C D O H (wOut o ρ f)) (i : ∀ a, o = .ok a → Post K C D O H (f a) → k a) : Fin C σ H o k := by
  cases o with
  | ok a => exact i a rfl h
  | exc n => exact fun H' x => h σ O H' (R.grow x) (hid_mono x)
  | stuck => exact h
theorem Post.then {s : SO} {f : SE} {D' : Ends} (h : Post K C D O H (s.then f)) (hn : ∀ ρ' σ' O' H', Rep K C O' H' σ' ρ' → Post K C D O' H' (f ρ') → D'.nx σ' H') (hb : D'.bk = D.bk) (hc : D'.ct = D.ct) (hr : D'.rt = D.rt) : Post K C D' O H s := by
  cases s with
  | nx ρ' => exact fun σ' O2 H2 R x2 => hn ρ' σ' O2 H2 R (Post.grow h x2)
  | bk ρ' => rw [show Post K C D' O H (.bk ρ') = _ from rfl]; intro σ' O2 H2 R x2; rw [hb]; exact h σ' O2 H2 R x2
  | ct ρ' => rw [show Post K C D' O H (.ct ρ') = _ from rfl]; intro σ' O2 H2 R x2; rw [hc]; exact h σ' O2 H2 R x2
  | rt r ρ' => rw [show Post K C D' O H (.rt r ρ') = _ from rfl]; intro v σ' O2 H2 R x2 q; rw [hr]; exact h v σ' O2 H2 R x2 q
  | ex n ρ' => exact h
  | stuck => exact h
/-- a fresh list becomes an own one -/
theorem Rep.setO (R : Rep K C O H σ ρ) {i : Nat} {p : Addr} {vs : List V} {ds : List PyData} (x : Gx C.T H H') (n : H p = none) (h : H' p = some (.lst vs)) (a : DpAll K (hid (p :: O) H') vs ds) (nM : p ∉ C.M) : Rep K C (p :: O) H' (σ.set i (some (.ref p))) (ρ.set i (some (.ow ds))) := by
  have R1 : Rep K C (p :: O) H' σ ρ := R.more x n (by rw [h]; intro z; cases z)
  refine ⟨R1.ex, R1.o0, R1.sub, R1.alive, by rw [List.length_set, List.length_set]; exact R.len, fun j s e => ?_, fun j k s t q hjk e1 o1 e2 e3 o3 e4 => ?_⟩
  · by_cases hj : j = i
    · subst hj
      have hl : j < ρ.length := by
        have := (List.getElem?_eq_some_iff.mp e).1
        rw [List.length_set] at this
        exact this
      rw [List.getElem?_set_self hl] at e
      cases e
      refine ⟨.ref p, by rw [List.getElem?_set_self (by rw [R.len]; exact hl)], p, vs, rfl, List.mem_cons_self, .inl ?_, h, a⟩
      cases q : C.H0 p with
      | none => rfl
      | some o =>
        exact absurd n (R.ex.tb p o q)
    · rw [List.getElem?_set_ne (Ne.symm hj)] at e
      rw [List.getElem?_set_ne (Ne.symm hj)]
      exact R1.slot j s e
  · have old : ∀ (j : Nat) (s : SL), ρ[j]? = some (some s) → ownS s = true → σ[j]? = some (some (.ref p)) → False := fun j s e1 o1 e2 => by
      obtain ⟨v, h1, h2⟩ := R.slot j s e1
      rw [e2] at h1
      cases h1
      cases s with
      | ow ds => obtain ⟨p', vs', e, b, _⟩ := h2; cases e; exact R.alive _ b n
      | dow ds => obtain ⟨p', vs', e, b, _⟩ := h2; cases e; exact R.alive _ b n
      | mw ds => obtain ⟨p', vs', e, b, _⟩ := h2; cases e; exact R.alive _ b n
      | og ds => obtain ⟨p', vs', e, b, _⟩ := h2; cases e; exact R.alive _ b n
      | _  => cases o1
    by_cases hj : j = i
    · subst hj
      have hl : j < ρ.length := by
        have := (List.getElem?_eq_some_iff.mp e1).1
        rw [List.length_set] at this
        exact this
      rw [List.getElem?_set_self (by rw [R.len]; exact hl)] at e2
      cases e2
      rw [List.getElem?_set_ne hjk] at e3 e4
      exact old k t e3 o3 e4
    · by_cases hk : k = i
      · subst hk
        have hl : k < ρ.length := by
          have := (List.getElem?_eq_some_iff.mp e3).1
          rw [List.length_set] at this
          exact this
        rw [List.getElem?_set_self (by rw [R.len]; exact hl)] at e4
        cases e4
        rw [List.getElem?_set_ne (Ne.symm hj)] at e1 e2
        exact old j s e1 o1 e2
      · rw [List.getElem?_set_ne (Ne.symm hj)] at e1 e2
        rw [List.getElem?_set_ne (Ne.symm hk)] at e3 e4
        exact R.apart j k s t q hjk e1 o1 e2 e3 o3 e4
/-- .. a fresh dict -/
theorem Rep.setOD (R : Rep K C O H σ ρ) {i : Nat} {p : Addr} {vs : List (List Key × V)} {kvs : List (List Int × PyData)} (x : Gx C.T H H') (n : H p = none) (h : H' p = some (.dT vs)) (a : KvAll K (hid (p :: O) H') vs kvs) (nM : p ∉ C.M) : Rep K C (p :: O) H' (σ.set i (some (.ref p))) (ρ.set i (some (.dow kvs))) := by
  have R1 : Rep K C (p :: O) H' σ ρ := R.more x n (by rw [h]; intro z; cases z)
  refine ⟨R1.ex, R1.o0, R1.sub, R1.alive, by rw [List.length_set, List.length_set]; exact R.len, fun j s e => ?_, fun j k s t q hjk e1 o1 e2 e3 o3 e4 => ?_⟩
  · by_cases hj : j = i
    · subst hj
      have hl : j < ρ.length := by
        have := (List.getElem?_eq_some_iff.mp e).1
        rw [List.length_set] at this
        exact this
      rw [List.getElem?_set_self hl] at e
      cases e
      refine ⟨.ref p, by rw [List.getElem?_set_self (by rw [R.len]; exact hl)], p, vs, rfl, List.mem_cons_self, .inl ?_, h, a⟩
      cases q : C.H0 p with
      | none => rfl
      | some o =>
        exact absurd n (R.ex.tb p o q)
    · rw [List.getElem?_set_ne (Ne.symm hj)] at e
      rw [List.getElem?_set_ne (Ne.symm hj)]
      exact R1.slot j s e
  · have old : ∀ (j : Nat) (s : SL), ρ[j]? = some (some s) → ownS s = true → σ[j]? = some (some (.ref p)) → False := fun j s e1 o1 e2 => by
      obtain ⟨v, h1, h2⟩ := R.slot j s e1
      rw [e2] at h1
      cases h1
      cases s with
      | ow ds => obtain ⟨p', vs', e, b, _⟩ := h2; cases e; exact R.alive _ b n
      | dow ds => obtain ⟨p', vs', e, b, _⟩ := h2; cases e; exact R.alive _ b n
      | mw ds => obtain ⟨p', vs', e, b, _⟩ := h2; cases e; exact R.alive _ b n
      | og ds => obtain ⟨p', vs', e, b, _⟩ := h2; cases e; exact R.alive _ b n
      | _  => cases o1
    by_cases hj : j = i
    · subst hj
      have hl : j < ρ.length := by
        have := (List.getElem?_eq_some_iff.mp e1).1
        rw [List.length_set] at this
        exact this
      rw [List.getElem?_set_self (by rw [R.len]; exact hl)] at e2
      cases e2
      rw [List.getElem?_set_ne hjk] at e3 e4
      exact old k t e3 o3 e4
    · by_cases hk : k = i
      · subst hk
        have hl : k < ρ.length := by
          have := (List.getElem?_eq_some_iff.mp e3).1
          rw [List.length_set] at this
          exact this
        rw [List.getElem?_set_self (by rw [R.len]; exact hl)] at e4
        cases e4
        rw [List.getElem?_set_ne (Ne.symm hj)] at e1 e2
        exact old j s e1 o1 e2
      · rw [List.getElem?_set_ne (Ne.symm hj)] at e1 e2
        rw [List.getElem?_set_ne (Ne.symm hk)] at e3 e4
        exact R.apart j k s t q hjk e1 o1 e2 e3 o3 e4
/-- an own list is written -/
theorem Rep.put (R : Rep K C O H σ ρ) {i : Nat} {p : Addr} {vs' : List V} {ds ds' : List PyData} (hi : ρ[i]? = some (some (.ow ds))) (hs : σ[i]? = some (some (.ref p))) (a : DpAll K (hid O H) vs' ds') : Rep K C O (upd H p (.lst vs')) σ (ρ.set i (some (.ow ds'))) := by
  obtain ⟨v, h1, p', vs, rfl, hO, hM, hp, al⟩ := R.slot i _ hi
  rw [hs] at h1
  cases h1
  have hl : i < ρ.length := (List.getElem?_eq_some_iff.mp hi).1
  refine ⟨R.ex.put hM hp rfl nofun, R.o0, R.sub, fun b hb e => ?_, by rw [List.length_set]; exact R.len, fun j s e => ?_, fun j k s t q hjk e1 o1 e2 e3 o3 e4 => ?_⟩
  · by_cases hbp : b = p
    · subst hbp; rw [upd_same] at e; cases e
    · rw [upd_ne hbp] at e; exact R.alive b hb e
  · have hh : hid O (upd H p (.lst vs')) = hid O H := hid_upd hO
    by_cases hj : j = i
    · subst hj
      rw [List.getElem?_set_self hl] at e
      cases e
      exact ⟨.ref p, hs, p, vs', rfl, hO, hM, upd_same, by rw [hh]; exact a⟩
    · rw [List.getElem?_set_ne (Ne.symm hj)] at e
      obtain ⟨v, h1, h2⟩ := R.slot j s e
      refine ⟨v, h1, ?_⟩
      cases s with
      | fz d => show Dp K (hid O _) v d; rw [hh]; exact h2
      | bw ds => obtain ⟨p2, vs2, a2, b2, c2, d2⟩ := h2; exact ⟨p2, vs2, a2, b2, c2, by rw [hh]; exact d2⟩
      | dbw ds => obtain ⟨p2, vs2, a2, b2, c2, d2⟩ := h2; exact ⟨p2, vs2, a2, b2, c2, by rw [hh]; exact d2⟩
      | er n => exact h2
      | oo dss => show OoF K _ (hid O _) v dss; rw [hh]; exact h2
      | mw ds =>
        obtain ⟨p2, vs2, rfl, b2, c2, d2, e2⟩ := h2
        have : p2 ≠ p := fun z => by subst z; exact R.apart j i _ _ _ hj e rfl h1 hi rfl hs
        exact ⟨p2, vs2, rfl, b2, c2, by rw [upd_ne this]; exact d2, by rw [hh]; exact e2⟩
      | og ds =>
        obtain ⟨p2, vs2, rfl, b2, c2, d2, e2⟩ := h2
        have : p2 ≠ p := fun z => by subst z; exact R.apart j i _ _ _ hj e rfl h1 hi rfl hs
        exact ⟨p2, vs2, rfl, b2, c2, by rw [upd_ne this]; exact d2, by rw [hh]; exact e2⟩
      | ow  ds =>
        obtain ⟨p2, vs2, rfl, b2, c2, d2, e2⟩ := h2
        have : p2 ≠ p := fun z => by subst z; exact R.apart j i _ _ _ hj e rfl h1 hi rfl hs
        exact ⟨p2, vs2, rfl, b2, c2, by rw [upd_ne this]; exact d2, by rw [hh]; exact e2⟩
      | dow ds =>
        obtain ⟨p2, vs2, rfl, b2, c2, d2, e2⟩ := h2
        have : p2 ≠ p := fun z => by subst z; exact R.apart j i _ _ _ hj e rfl h1 hi rfl hs
        exact ⟨p2, vs2, rfl, b2, c2, by rw [upd_ne this]; exact d2, by rw [hh]; exact e2⟩
  · have back : ∀ (j : Nat) (s : SL), (ρ.set i (some (.ow ds')))[j]? = some (some s) → ownS s = true → ∃ s', ρ[j]? = some (some s') ∧ ownS s' = true := fun j s e o => by
      by_cases hj : j = i
      · subst hj; exact ⟨_, hi, rfl⟩
      · rw [List.getElem?_set_ne (Ne.symm hj)] at e; exact ⟨s, e, o⟩
    obtain ⟨s', a1, a2⟩ := back j s e1 o1
    obtain ⟨t', b1, b2⟩ := back k t e3 o3
    exact R.apart j k s' t' q hjk a1 a2 e2 b1 b2 e4
/-- an own dict is written -/
theorem Rep.putD (R : Rep K C O H σ ρ) {i : Nat} {p : Addr} {vs' : List (List Key × V)} {ds ds' : List (List Int × PyData)} (hi : ρ[i]? = some (some (.dow ds))) (hs : σ[i]? = some (some (.ref p))) (a : KvAll K (hid O H) vs' ds') : Rep K C O (upd H p (.dT vs')) σ (ρ.set i (some (.dow ds'))) := by
  obtain ⟨v, h1, p', vs, rfl, hO, hM, hp, al⟩ := R.slot i _ hi
  rw [hs] at h1
  cases h1
  have hl : i < ρ.length := (List.getElem?_eq_some_iff.mp hi).1
  refine ⟨R.ex.put hM hp rfl nofun, R.o0, R.sub, fun b hb e => ?_, by rw [List.length_set]; exact R.len, fun j s e => ?_, fun j k s t q hjk e1 o1 e2 e3 o3 e4 => ?_⟩
  · by_cases hbp : b = p
    · subst hbp; rw [upd_same] at e; cases e
    · rw [upd_ne hbp] at e; exact R.alive b hb e
  · have hh : hid O (upd H p (.dT vs')) = hid O H := hid_upd hO
    by_cases hj : j = i
    · subst hj
      rw [List.getElem?_set_self hl] at e
      cases e
      exact ⟨.ref p, hs, p, vs', rfl, hO, hM, upd_same, by rw [hh]; exact a⟩
    · rw [List.getElem?_set_ne (Ne.symm hj)] at e
      obtain ⟨v, h1, h2⟩ := R.slot j s e
      refine ⟨v, h1, ?_⟩
      cases s with
      | fz d => show Dp K (hid O _) v d; rw [hh]; exact h2
      | bw ds => obtain ⟨p2, vs2, a2, b2, c2, d2⟩ := h2; exact ⟨p2, vs2, a2, b2, c2, by rw [hh]; exact d2⟩
      | dbw ds => obtain ⟨p2, vs2, a2, b2, c2, d2⟩ := h2; exact ⟨p2, vs2, a2, b2, c2, by rw [hh]; exact d2⟩
      | er n => exact h2
      | oo dss => show OoF K _ (hid O _) v dss; rw [hh]; exact h2
      | mw ds =>
        obtain ⟨p2, vs2, rfl, b2, c2, d2, e2⟩ := h2
        have : p2 ≠ p := fun z => by subst z; exact R.apart j i _ _ _ hj e rfl h1 hi rfl hs
        exact ⟨p2, vs2, rfl, b2, c2, by rw [upd_ne this]; exact d2, by rw [hh]; exact e2⟩
      | og ds =>
        obtain ⟨p2, vs2, rfl, b2, c2, d2, e2⟩ := h2
        have : p2 ≠ p := fun z => by subst z; exact R.apart j i _ _ _ hj e rfl h1 hi rfl hs
        exact ⟨p2, vs2, rfl, b2, c2, by rw [upd_ne this]; exact d2, by rw [hh]; exact e2⟩
      | ow  ds =>
        obtain ⟨p2, vs2, rfl, b2, c2, d2, e2⟩ := h2
        have : p2 ≠ p := fun z => by subst z; exact R.apart j i _ _ _ hj e rfl h1 hi rfl hs
        exact ⟨p2, vs2, rfl, b2, c2, by rw [upd_ne this]; exact d2, by rw [hh]; exact e2⟩
      | dow ds =>
        obtain ⟨p2, vs2, rfl, b2, c2, d2, e2⟩ := h2
        have : p2 ≠ p := fun z => by subst z; exact R.apart j i _ _ _ hj e rfl h1 hi rfl hs
        exact ⟨p2, vs2, rfl, b2, c2, by rw [upd_ne this]; exact d2, by rw [hh]; exact e2⟩
  · have back : ∀ (j : Nat) (s : SL), (ρ.set i (some (.dow ds')))[j]? = some (some s) → ownS s = true → ∃ s', ρ[j]? = some (some s') ∧ ownS s' = true := fun j s e o => by
      by_cases hj : j = i
      · subst hj; exact ⟨_, hi, rfl⟩
      · rw [List.getElem?_set_ne (Ne.symm hj)] at e; exact ⟨s, e, o⟩
    obtain ⟨s', a1, a2⟩ := back j s e1 o1
    obtain ⟨t', b1, b2⟩ := back k t e3 o3
    exact R.apart j k s' t' q hjk a1 a2 e2 b1 b2 e4
/-- an own list is changed no more -/
theorem Rep.frz (R : Rep K C O H σ ρ) {i : Nat} {ds : List PyData} (hi : ρ[i]? = some (some (.ow ds))) (hM : C.M = []) : ∃ O', Rep K C O' H σ (ρ.set i (some (.fz (.list ds)))) ∧ Ex (hid O H) (hid O' H) := by
  obtain ⟨v, h1, p, vs, rfl, hO, hH0, hp, al⟩ := R.slot i _ hi
  have hl : i < ρ.length := (List.getElem?_eq_some_iff.mp hi).1
  have hsub : ∀ b ∈ O.filter (· ≠ p), b ∈ O := fun b hb => (List.mem_filter.mp hb).1
  have hx : Ex (hid O H) (hid (O.filter (· ≠ p)) H) := hid_sub hsub
  have hn : C.H0 p = none := by
    rcases hH0 with z | z
    · exact z
    · rw [hM] at z; cases z
  refine ⟨O.filter (· ≠ p), ⟨R.ex, R.o0, fun b hb => List.mem_filter.mpr ⟨R.sub b hb, ?_⟩, fun b hb => R.alive b (hsub b hb), by rw [List.length_set]; exact R.len, fun j s e => ?_, fun j k s t q hjk e1 o1 e2 e3 o3 e4 => ?_⟩, hx⟩
  · exact decide_eq_true fun z => R.o0.1 b hb (by rw [z]; exact hn)
  · by_cases hj : j = i
    · subst hj
      rw [List.getElem?_set_self hl] at e
      cases e
      refine ⟨.ref p, h1, .lst (SqL.of ?_) (DpAll.mono hx al)⟩
      exact hid_out (fun z => (of_decide_eq_true (show decide (p ≠ p) = true from (List.mem_filter.mp z).2)) rfl) hp
    · rw [List.getElem?_set_ne (Ne.symm hj)] at e
      obtain ⟨v, a1, a2⟩ := R.slot j s e
      refine ⟨v, a1, ?_⟩
      cases s with
      | fz d => exact Dp.mono hx a2
      | bw ds => obtain ⟨p2, vs2, b2, c2, d2, e2⟩ := a2; exact ⟨p2, vs2, b2, c2, d2, DpAll.mono hx e2⟩
      | dbw ds => obtain ⟨p2, vs2, b2, c2, d2, e2⟩ := a2; exact ⟨p2, vs2, b2, c2, d2, KvAll.mono hx e2⟩
      | er n => exact a2
      | oo dss => exact OoF.mono hx a2
      | mw ds =>
        obtain ⟨p2, vs2, rfl, b2, c2, d2, e2⟩ := a2
        have : p2 ≠ p := fun z => by subst z; exact R.apart j i _ _ _ hj e rfl a1 hi rfl h1
        exact ⟨p2, vs2, rfl, List.mem_filter.mpr ⟨b2, decide_eq_true this⟩, c2, d2, DpAll.mono hx e2⟩
      | og ds =>
        obtain ⟨p2, vs2, rfl, b2, c2, d2, e2⟩ := a2
        have : p2 ≠ p := fun z => by subst z; exact R.apart j i _ _ _ hj e rfl a1 hi rfl h1
        exact ⟨p2, vs2, rfl, List.mem_filter.mpr ⟨b2, decide_eq_true this⟩, c2, d2, e2.mono hx⟩
      | ow ds =>
        obtain ⟨p2, vs2, rfl, b2, c2, d2, e2⟩ := a2
        have : p2 ≠ p := fun z => by subst z; exact R.apart j i _ _ _ hj e rfl a1 hi rfl h1
        exact ⟨p2, vs2, rfl, List.mem_filter.mpr ⟨b2, decide_eq_true this⟩, c2, d2, DpAll.mono hx e2⟩
      | dow ds =>
        obtain ⟨p2, vs2, rfl, b2, c2, d2, e2⟩ := a2
        have : p2 ≠ p := fun z => by subst z; exact R.apart j i _ _ _ hj e rfl a1 hi rfl h1
        exact ⟨p2, vs2, rfl, List.mem_filter.mpr ⟨b2, decide_eq_true this⟩, c2, d2, KvAll.mono hx e2⟩
  · by_cases hj : j = i
    · subst hj
      rw [List.getElem?_set_self hl] at e1
      cases e1
      cases o1
    · by_cases hk : k = i
      · subst hk
        rw [List.getElem?_set_self hl] at e3
        cases e3
        cases o3
      · rw [List.getElem?_set_ne (Ne.symm hj)] at e1
        rw [List.getElem?_set_ne (Ne.symm hk)] at e3
        exact R.apart j k s t q hjk e1 o1 e2 e3 o3 e4
end

/-! ### the rules -/
section
variable {X : Cx} {C : PC} {a b c e : Expr} {st : Stmt} {sts : List Stmt} {f g : VE} {l : LE} {x : XE} {bt : BE} {s s1 s2 : SE} {pos p1 p2 : Pos}
theorem ss_nil : PSs X [] (tS X.K C sNext) := pss_imp pss_nil fun D σ H ⟨O, ρ, R, q⟩ => q σ O H R (Ex.refl _)
theorem ss_cons (h1 : PS X st (tS X.K C s1)) (h2 : PSs X sts (tS X.K C s2)) : PSs X (st :: sts) (tS X.K C (sSeq s1 s2)) := pss_imp (pss_cons h1 h2) fun D σ H ⟨O, ρ, R, q⟩ =>
  ⟨O, ρ, R, Post.then (f := s2) q (fun ρ' σ' O' H' R' p => ⟨O', ρ', R', p⟩) rfl rfl rfl⟩
theorem ss_one (h1 : PS X st (tS X.K C s1)) : PSs X [st] (tS X.K C s1) := pss_one h1
theorem s_pass : PS X (.Pass pos) (tS X.K C sNext) := ps_imp ps_pass fun D σ H ⟨O, ρ, R, q⟩ => q σ O H R (Ex.refl _)
theorem s_brk : PS X (.Break pos) (tS X.K C sBrk) := ps_imp ps_break fun D σ H ⟨O, ρ, R, q⟩ => q σ O H R (Ex.refl _)
theorem s_cont : PS X (.Continue pos) (tS X.K C sCont) := ps_imp ps_continue fun D σ H ⟨O, ρ, R, q⟩ => q σ O H R (Ex.refl _)
theorem s_set {i : Nat} {y : Str} {pos' : Pos} (hN : X.N.Nodup) (hi : X.N[i]? = some y) (hx : Loc X.env.scope y) (he : PE X e (tV X.K C f)) (hs : swapsWith e (some (.Name y pos')) pos.line X.env = pure false := by rfl) (hf : X.fn y = true ∨ X.env.scope.names.lookup y = some .local := by first | exact .inl rfl | exact .inr rfl | assumption) :
    PS X (.Assign [.Name y pos'] e pos) (tS X.K C (sSet i f)) := ps_imp (ps_set hN hi hx he hs hf) fun D σ H ⟨O, ρ, R, q⟩ =>
  ⟨O, ρ, R, Post.fin R q fun d _ k v H' x p => k _ O H' ((R.grow x).set p) (hid_mono x)⟩
theorem noM {K : PySem.W.Frag} {O : List Addr} {H : Hp} {σ : L2.St} {ρ : Env} (R : Rep K C O H σ ρ) (hM : ∀ b ∈ C.M, b ∈ O) {p : Addr} (n : H p = none) : p ∉ C.M := fun z => R.alive p (hM p z) n
theorem s_setL {i : Nat} {y : Str} {pos' : Pos} (hM : ∀ b ∈ C.M, b ∈ C.O0) (hN : X.N.Nodup) (hi : X.N[i]? = some y) (hx : Loc X.env.scope y) (he : PE X e (tF X.K C l)) (hs : swapsWith e (some (.Name y pos')) pos.line X.env = pure false := by rfl) (hf : X.fn y = true ∨ X.env.scope.names.lookup y = some .local := by first | exact .inl rfl | exact .inr rfl | assumption) :
    PS X (.Assign [.Name y pos'] e pos) (tS X.K C (sSetL i l)) := ps_imp (ps_set hN hi hx he hs hf) fun D σ H ⟨O, ρ, R, q⟩ =>
  ⟨O, ρ, R, Post.fin R q fun d _ k p vs H' x n h a => k _ (p :: O) H' (R.setO x n h a (noM R (fun b z => R.sub b (hM b z)) n)) (hid_more x n)⟩
theorem s_setX {i : Nat} {y : Str} {pos' : Pos} (hM : ∀ b ∈ C.M, b ∈ C.O0) (hN : X.N.Nodup) (hi : X.N[i]? = some y) (hx : Loc X.env.scope y) (he : PE X e (tX X.K C x)) (hs : swapsWith e (some (.Name y pos')) pos.line X.env = pure false := by rfl) (hf : X.fn y = true ∨ X.env.scope.names.lookup y = some .local := by first | exact .inl rfl | exact .inr rfl | assumption) :
    PS X (.Assign [.Name y pos'] e pos) (tS X.K C (sSetX i x)) := ps_imp (ps_set hN hi hx he hs hf) fun D σ H ⟨O, ρ, R, q⟩ =>
  ⟨O, ρ, R, Post.fin R q fun r _ k v H' x p => by
    cases r with
    | val d => exact k _ O H' ((R.grow x).set p) (hid_mono x)
    | fresh ds => obtain ⟨p, vs, rfl, n, h, a⟩ := p; exact k _ (p :: O) H' (R.setO x n h a (noM R (fun b z => R.sub b (hM b z)) n)) (hid_more x n)
    | dfresh ds => obtain ⟨p, vs, rfl, n, h, a⟩ := p; exact k _ (p :: O) H' (R.setOD x n h a (noM R (fun b z => R.sub b (hM b z)) n)) (hid_more x n)
    | gfresh dss =>
      obtain ⟨p, qs, rfl, n, h, a⟩ := p
      have hp : p ∉ O := fun z => R.alive p z n
      have hx : Ex (hid (p :: O) H') (hid O H') := hid_sub fun b z => List.mem_cons_of_mem _ z
      have hpq : p ∉ qs := fun z => by
        have : ∀ (qs : List Addr) (dss : List (List PyData)), Rows X.K (hid (p :: O) H') qs dss → p ∉ qs := fun qs dss r => by
          induction r with
          | nil => exact fun z => nomatch z
          | cons e _ _ ih =>
            intro z
            rcases List.mem_cons.mp z with rfl | z
            · rw [hid_in List.mem_cons_self] at e; cases e
            · exact ih z
        exact this _ _ a.row z
      exact k _ O H' ((R.grow x).setG ⟨p, qs, rfl, hid_out hp h, hpq, a.nd, fun q hq => R.back0 (a.new q hq), a.row.mono hx⟩) (hid_mono x)⟩
/-- y = [.. for ..] on one line -/
theorem s_setLc {sg : Bool} {i : Nat} {y : Str} {py : Pos} {elt tg iter : Expr} {ifs : List Expr} {scope : Scope} {own : List (Str × Nat)} {spos : Pos} {g : TG} {tg' : TGT} {ts : List Nat} {wl : LE} {tt : BE} {el : VE} (hM : ∀ b ∈ C.M, b ∈ C.O0) (hc : X.calm = true) (hN : X.N.Nodup) (hy : X.N[i]? = some y) (hyl : X.env.scope.names.lookup y = some .local)
    (hsw : swapsWith (.ListComp elt [⟨tg, iter, ifs, 0⟩] scope pos) (some (.Name y py)) spos.line X.env = pure true) (hi : PI X tg iter (tWE X.K C sg wl)) (hgt : TgOk sg X.K C.blk g tg' ts) (ok : BlkOk X.N X.env.scope scope own) (hts : ∀ x ∈ ts, x ∈ own.map (·.2))
    (hg : ∀ (s : Shared) (H : Hp) (C : Addr) (cl : List (Str × Addr)) (fp : List Addr), PG (X.blk s H scope (compEnvC scope cl C X.env) fp) tg g) (ht : ∀ (s : Shared) (H : Hp) (C' : Addr) (cl : List (Str × Addr)) (fp : List Addr), PTs (X.blk s H scope (compEnvC scope cl C' X.env) fp) ifs (tT X.K C.blk tt))
    (he : ∀ (s : Shared) (H : Hp) (C' : Addr) (cl : List (Str × Addr)) (fp : List Addr), PE (X.blk s H scope (compEnvC scope cl C' X.env) fp) elt (tV X.K C.blk el)) (hs : ∀ x, foldedSetIterable iter X.env x = pure x := by intro _; rfl) :
    PS X (.Assign [.Name y py] (.ListComp elt [⟨tg, iter, ifs, 0⟩] scope pos) spos) (tS X.K C (sSetL i (lComp wl tg' (own.map (·.2)) tt el))) := ps_imp (ps_setLc hc hN hy hyl hsw hi ok hg ht he hs) fun D σ H ⟨O, ρ, R, q⟩ =>
  lc_t hgt hts ⟨O, ρ, R, Post.fin R q fun d _ k p vs H' x n h a => k _ (p :: O) H' (R.setO x n h a (noM R (fun b z => R.sub b (hM b z)) n)) (hid_more x n)⟩
theorem s_dnew {i : Nat} {y : Str} {pos' : Pos} (hM : ∀ b ∈ C.M, b ∈ C.O0) (hN : X.N.Nodup) (hi : X.N[i]? = some y) (hx : Loc X.env.scope y) (hs : swapsWith (.Dict [] [] p1) (some (.Name y pos')) pos.line X.env = pure false := by rfl) (hf : X.fn y = true ∨ X.env.scope.names.lookup y = some .local := by first | exact .inl rfl | exact .inr rfl | assumption) :
    PS X (.Assign [.Name y pos'] (.Dict [] [] p1) pos) (tS X.K C (sSetD i)) := ps_imp (ps_set hN hi hx pe_dnewT hs hf) fun D σ H ⟨O, ρ, R, q⟩ p n =>
  q _ (p :: O) _ (R.setOD (Gx.new n) n upd_same .nil (noM R (fun b z => R.sub b (hM b z)) n)) (hid_more (C := C) (Gx.new n) n)
theorem s_drop (he : PE X e (tV X.K C f)) (hs : swapsWith e none pos.line X.env = pure false := by rfl) : PS X (.Expr e pos) (tS X.K C (sDrop f)) := ps_imp (ps_expr he hs) fun D σ H ⟨O, ρ, R, q⟩ => ⟨O, ρ, R, Post.fin R q fun d _ k v H' x p => k _ O H' (R.grow x) (hid_mono x)⟩
theorem s_dropX (he : PE X e (tX X.K C x)) (hs : swapsWith e none pos.line X.env = pure false := by rfl) : PS X (.Expr e pos) (tS X.K C (sDropX x)) := ps_imp (ps_expr he hs) fun D σ H ⟨O, ρ, R, q⟩ => ⟨O, ρ, R, Post.fin R q fun d _ k v H' x p => k _ O H' (R.grow x) (hid_mono x)⟩
theorem s_if {A B : List Stmt} (hc : PT X c (tT X.K C bt)) (ha : PSs X A (tS X.K C s1)) (hb : PSs X B (tS X.K C s2)) : PS X (.If c A B pos) (tS X.K C (sIf bt s1 s2)) := ps_imp (ps_if hc ha hb) fun D σ H ⟨O, ρ, R, q⟩ => ⟨O, ρ, R, Post.fin R q fun b _ k H' x => by
  cases b with
  | true => exact iteT ⟨O, ρ, R.grow x, Post.grow (show Post X.K C D O H (s1 ρ) from k) (hid_mono x)⟩
  | false => exact iteF ⟨O, ρ, R.grow x, Post.grow (show Post X.K C D O H (s2 ρ) from k) (hid_mono x)⟩⟩
theorem s_ret (he : PE X e (tV X.K C f)) : PS X (.Return (some e) pos) (tS X.K C (sRet f)) := ps_imp (ps_ret he) fun D σ H ⟨O, ρ, R, q⟩ => ⟨O, ρ, R, Post.fin R q fun d _ k v H' x p => k v σ O H' (R.grow x) (hid_mono x) p⟩
theorem fresh0 {K : PySem.W.Frag} {O : List Addr} {H : Hp} {σ : L2.St} {ρ : Env} (R : Rep K C O H σ ρ) (hM : ∀ b ∈ C.M, b ∈ C.O0) {p : Addr} (n : H p = none) : C.H0 p = none := by
  cases q : C.H0 p with
  | none => rfl
  | some o =>
    exact absurd n (R.ex.tb p o q)
theorem s_retL (hM : ∀ b ∈ C.M, b ∈ C.O0) (he : PE X e (tF X.K C l)) : PS X (.Return (some e) pos) (tS X.K C (sRetL l)) := ps_imp (ps_ret he) fun D σ H ⟨O, ρ, R, q⟩ => ⟨O, ρ, R, Post.fin R q fun d _ k p vs H' x n h a => k _ σ O H' (R.grow x) (hid_mono x) ⟨p, vs, rfl, fresh0 R hM n, h, a⟩⟩
theorem s_retX (hM : ∀ b ∈ C.M, b ∈ C.O0) (he : PE X e (tX X.K C x)) : PS X (.Return (some e) pos) (tS X.K C (sRetX x)) := ps_imp (ps_ret he) fun D σ H ⟨O, ρ, R, q⟩ => ⟨O, ρ, R, Post.fin R q fun r _ k v H' x p => k v σ O H' (R.grow x) (hid_mono x) (by
  cases r with
  | val d => exact p
  | fresh ds => obtain ⟨p, vs, rfl, n, h, a⟩ := p; exact ⟨p, vs, rfl, fresh0 R hM n, h, a⟩
  | dfresh ds => obtain ⟨p, vs, rfl, n, h, a⟩ := p; exact ⟨p, vs, rfl, fresh0 R hM n, h, a⟩
  | gfresh ds => obtain ⟨p, vs, rfl, n, h, a⟩ := p; exact ⟨p, vs, rfl, fresh0 R hM n, h, a.nd, fun q hq => R.back0 (a.new q hq), a.row⟩)⟩
theorem s_retN : PS X (.Return none pos) (tS X.K C (sRet (eC .none))) := ps_imp ps_retN fun D σ H ⟨O, ρ, R, q⟩ => q .non σ O H R (Ex.refl _) .non
/-- return of a name -/
theorem s_retO (i : Nat) {x : Str} {np : Pos} (hM : C.M = []) (hN : X.N[i]? = some x := by rfl) (hv : Vis X.env.scope x := by first | exact Or.inl rfl | exact Or.inr (Or.inl rfl) | exact Or.inr (Or.inr rfl)) (hd : (x == ("__debug__" : Str)) = false := by decide)
    (hcd : (x == ("__classdict__" : Str)) = false := by decide) : PS X (.Return (some (.Name x np)) pos) (tS X.K C (sRetO i)) := ps_imp (ps_ret (pe_var (i := i) hN hv hd hcd)) fun D σ H ⟨O, ρ, R, q⟩ => by
  have h0 : ∀ p, (C.H0 p = none ∨ p ∈ C.M) → C.H0 p = none := fun p z => by
    rcases z with z | z
    · exact z
    · rw [hM] at z; cases z
  unfold sRetO at q
  split at q
  · rename_i ds e
    obtain ⟨v, h1, p, vs, rfl, hO, hn, hp, al⟩ := R.slot i _ e
    exact ⟨.ref p, h1, q _ σ O H R (Ex.refl _) ⟨p, vs, rfl, h0 p hn, hp, DpAll.mono (hid_sub fun b z => by
      rcases List.mem_cons.mp z with rfl | z
      · exact hO
      · exact z) al⟩⟩
  · rename_i ds e
    obtain ⟨v, h1, p, vs, rfl, hO, hn, hp, al⟩ := R.slot i _ e
    exact ⟨.ref p, h1, q _ σ O H R (Ex.refl _) ⟨p, vs, rfl, h0 p hn, hp, KvAll.mono (hid_sub fun b z => by
      rcases List.mem_cons.mp z with rfl | z
      · exact hO
      · exact z) al⟩⟩
  · rename_i ds e
    obtain ⟨v, h1, p, qs, rfl, hO, hn, hp, al⟩ := R.slot i _ e
    exact ⟨.ref p, h1, q _ σ O H R (Ex.refl _) ⟨p, qs, rfl, hn, hp, al.mono (hid_sub fun b z => by
      rcases List.mem_cons.mp z with rfl | z
      · exact hO
      · exact z)⟩⟩
  · rename_i d e
    obtain ⟨v, h1, h2⟩ := R.slot i _ e
    exact ⟨v, h1, q _ σ O H R (Ex.refl _) h2⟩
  · exact q.elim
theorem set_self {α : Type} {l : List α} {i : Nat} {x : α} (e : l[i]? = some x) : l.set i x = l := by
  refine List.ext_getElem? fun j => ?_
  by_cases hj : i = j
  · subst hj
    rw [List.getElem?_set_self (List.getElem?_eq_some_iff.mp e).1, e]
  · rw [List.getElem?_set_ne hj]
/-- the plain state is made weaker first -/
theorem s_frz {i : Nat} (hM : C.M = []) (h : PS X st (tS X.K C s)) : PS X st (tS X.K C (sFrz i s)) := ps_imp h fun D σ H ⟨O, ρ, R, q⟩ => by
  unfold sFrz frzE at q
  split at q
  · rename_i t e
    cases t with
    | ow ds =>
      obtain ⟨O', R', x⟩ := R.frz e hM
      exact ⟨O', _, R', Post.grow q x⟩
    | fz d => rw [show frzS (.fz d) = .fz d from rfl, set_self e] at q; exact ⟨O, ρ, R, q⟩
    | bw d => rw [show frzS (.bw d) = .bw d from rfl, set_self e] at q; exact ⟨O, ρ, R, q⟩
    | dow d => rw [show frzS (.dow d) = .dow d from rfl, set_self e] at q; exact ⟨O, ρ, R, q⟩
    | dbw d => rw [show frzS (.dbw d) = .dbw d from rfl, set_self e] at q; exact ⟨O, ρ, R, q⟩
    | er d => rw [show frzS (.er d) = .er d from rfl, set_self e] at q; exact ⟨O, ρ, R, q⟩
    | mw d => rw [show frzS (.mw d) = .mw d from rfl, set_self e] at q; exact ⟨O, ρ, R, q⟩
    | og d => rw [show frzS (.og d) = .og d from rfl, set_self e] at q; exact ⟨O, ρ, R, q⟩
    | oo d => rw [show frzS (.oo d) = .oo d from rfl, set_self e] at q; exact ⟨O, ρ, R, q⟩
  · exact ⟨O, ρ, R, q⟩
theorem s_wipe {ws : List Nat} (h : PS X st (tS X.K C s)) : PS X st (tS X.K C (sWipe ws s)) := ps_imp h fun D σ H ⟨O, ρ, R, q⟩ => ⟨O, _, R.wp, q⟩

/-! ### loops -/
variable {w : LE} {g : TG} {tg' : TGT} {ts ws : List Nat} {tgt iter : Expr} {body : List Stmt}
theorem s_for (hp : PassesOwn (model X.prog X.w) X.A X.env X.xe) (hc : X.calm = true) (hi : PI X tgt iter (tW X.K C w)) (hgt : TgOk true X.K C g tg' ts) (hg : PG X tgt g) (hb : PSs X body (tS X.K C s)) (hs : ∀ x, foldedSetIterable iter X.env x = pure x := by intro _; rfl) :
    PS X (.For tgt iter body [] pos) (tS X.K C (sFor w tg' ws s)) := ps_imp (ps_for hp hc hi hg hb hs) fun D σ H ⟨O, ρ, R, q⟩ => by
  refine ⟨O, ρ, R, Post.fin R q fun ds _ k J H1 x1 it => ?_⟩
  refine ⟨fun i m σ' H' => m = ds.length - i ∧ i ≤ ds.length ∧ ∃ O' ρ', Rep X.K C O' H' σ' ρ' ∧ Ex (hid O H1) (hid O' H') ∧ Post X.K C D O' H' (forGo tg' ws s (ds.drop i) ρ'),
    ⟨ds.length, rfl, Nat.zero_le _, O, ρ, R.grow x1, Ex.refl _, Post.grow k (hid_mono x1)⟩, ?_⟩
  rintro i m σ' H' ⟨rfl, hi, O', ρ', R', xg, k'⟩
  obtain ⟨it1, it2⟩ := it O' H' xg R'.ex R'.alive i
  by_cases hlt : i < ds.length
  · obtain ⟨hgo, hy⟩ := it1 hlt
    refine .inr ⟨hgo, fun σ2 H2 => ∃ O2 ρ2, Rep X.K C O2 H2 σ2 ρ2 ∧ Ex (hid O H1) (hid O2 H2) ∧ Post X.K C D O2 H2 (forGo tg' ws s (ds.drop (i + 1)) ρ2), fun σ2 H2 h => ⟨ds.length - (i + 1), by omega, rfl, hlt, h⟩, fun v H2 yl => ?_⟩
    obtain ⟨x2, d, hd1, hd2⟩ := hy v H2 yl
    have hdrop : ds.drop i = d :: ds.drop (i + 1) := by
      rw [List.drop_eq_getElem_cons hlt]
      congr 1
      rw [List.getElem?_eq_getElem hlt] at hd1
      exact Option.some.inj hd1
    rw [hdrop] at k'
    unfold forGo at k'
    cases ht : tg' d ρ' with
    | none => rw [ht] at k'; exact k'.elim
    | some ρ1 =>
      rw [ht] at k'
      refine hgt v d O' H2 σ' ρ' ρ1 _ (R'.grow x2) (.inl hd2) ht fun σ1 R1 _ => ⟨O', ρ1, R1, ?_⟩
      have k2 : Post X.K C D O' H2 (match s ρ1 with
        | .nx ρ2 => forGo tg' ws s (ds.drop (i + 1)) (wp ws ρ2)
        | .ct ρ2 => forGo tg' ws s (ds.drop (i + 1)) (wp ws ρ2)
        | .bk ρ2 => .nx (wp ws ρ2)
        | .rt x ρ2 => .rt x ρ2
        | .ex n ρ2 => .ex n ρ2
        | .stuck => .stuck) := Post.grow k' (hid_mono x2)
      have xg2 := xg.trans (hid_mono x2 (O := O'))
      cases hsr : s ρ1 with
      | nx ρ2 => rw [hsr] at k2; exact fun σ3 O3 H3 R3 x3 => ⟨O3, _, R3.wp, xg2.trans x3, Post.grow k2 x3⟩
      | ct ρ2 => rw [hsr] at k2; exact fun σ3 O3 H3 R3 x3 => ⟨O3, _, R3.wp, xg2.trans x3, Post.grow k2 x3⟩
      | bk ρ2 => rw [hsr] at k2; exact fun σ3 O3 H3 R3 x3 => k2 σ3 O3 H3 R3.wp x3
      | rt r ρ2 => rw [hsr] at k2; exact k2
      | ex n ρ2 => rw [hsr] at k2; exact k2
      | stuck => rw [hsr] at k2; exact k2
  · have e : i = ds.length := by omega
    subst e
    refine .inl ⟨it2 (Nat.le_refl _), ?_⟩
    rw [List.drop_length] at k'
    exact k' σ' O' H' R' (Ex.refl _)
theorem s_while {n : Nat} (hp : PassesOwn (model X.prog X.w) X.A X.env X.xe) (hc : PT X c (tT X.K C bt)) (hb : PSs X body (tS X.K C s)) : PS X (.While c body [] pos) (tS X.K C (sWhile n bt ws s)) := ps_imp (ps_while hp hc hb) fun D σ H ⟨O, ρ, R, q⟩ => by
  refine ⟨fun m σ' H' => ∃ O' ρ', Rep X.K C O' H' σ' ρ' ∧ Post X.K C D O' H' (whGo bt ws s m ρ'), ⟨n, O, ρ, R, q⟩, ?_⟩
  rintro m σ' H' ⟨O', ρ', R', k⟩
  cases m with
  | zero => exact k.elim
  | succ m =>
    unfold whGo at k
    refine ⟨O', ρ', R', Post.fin R' k fun b _ k2 H2 x2 => ?_⟩
    cases b with
    | false => exact iteF ((show ∀ σ3 O3 H3, Rep X.K C O3 H3 σ3 ρ' → Ex (hid O' H') (hid O3 H3) → D.nx σ3 H3 from k2) σ' O' H2 (R'.grow x2) (hid_mono x2))
    | true =>
      refine iteT ⟨fun σ3 H3 => ∃ O3 ρ3, Rep X.K C O3 H3 σ3 ρ3 ∧ Post X.K C D O3 H3 (whGo bt ws s m ρ3), fun σ3 H3 h => ⟨m, Nat.lt_succ_self m, h⟩, O', ρ', R'.grow x2, ?_⟩
      have k3 : Post X.K C D O' H2 (match s ρ' with
        | .nx ρ2 => whGo bt ws s m (wp ws ρ2)
        | .ct ρ2 => whGo bt ws s m (wp ws ρ2)
        | .bk ρ2 => .nx (wp ws ρ2)
        | .rt x ρ2 => .rt x ρ2
        | .ex n ρ2 => .ex n ρ2
        | .stuck => .stuck) := Post.grow k2 (hid_mono x2)
      cases hsr : s ρ' with
      | nx ρ2 => rw [hsr] at k3; exact fun σ3 O3 H3 R3 x3 => ⟨O3, _, R3.wp, Post.grow k3 x3⟩
      | ct ρ2 => rw [hsr] at k3; exact fun σ3 O3 H3 R3 x3 => ⟨O3, _, R3.wp, Post.grow k3 x3⟩
      | bk ρ2 => rw [hsr] at k3; exact fun σ3 O3 H3 R3 x3 => k3 σ3 O3 H3 R3.wp x3
      | rt r ρ2 => rw [hsr] at k3; exact k3
      | ex n ρ2 => rw [hsr] at k3; exact k3
      | stuck => rw [hsr] at k3; exact k3
end
/-! ### statements that may change what was seen -/
section
variable (K : PySem.W.Frag) (C : PC)
def PostW (D : Ends) : SO → Prop
  | .nx ρ' => ∀ σ' O' H', Rep K C O' H' σ' ρ' → D.nx σ' H'
  | .bk ρ' => ∀ σ' O' H', Rep K C O' H' σ' ρ' → D.bk σ' H'
  | .ct ρ' => ∀ σ' O' H', Rep K C O' H' σ' ρ' → D.ct σ' H'
  | .rt r ρ' => ∀ v σ' O' H', Rep K C O' H' σ' ρ' → RetV K C O' H' v r → D.rt v H'
  | .ex n ρ' => ∀ σ' O' H', Rep K C O' H' σ' ρ' → C.W (C.cv n) none σ' H'
  | .stuck => False
def tSW (g : SE) : TS := fun D σ H => ∃ O ρ, Rep K C O H σ ρ ∧ PostW K C D (g ρ)
end
section
variable {K : PySem.W.Frag} {C : PC} {O : List Addr} {H : Hp} {D : Ends}
theorem PostW.to {s : SO} (h : PostW K C D s) : Post K C D O H s := by
  cases s with
  | nx ρ' => exact fun σ' O2 H2 R _ => h σ' O2 H2 R
  | bk ρ' => exact fun σ' O2 H2 R _ => h σ' O2 H2 R
  | ct ρ' => exact fun σ' O2 H2 R _ => h σ' O2 H2 R
  | rt r ρ' => exact fun v σ' O2 H2 R _ q => h v σ' O2 H2 R q
  | ex n ρ' => exact fun σ' O2 H2 R _ => h σ' O2 H2 R
  | stuck => exact h
theorem PostW.then {s : SO} {f : SE} {D' : Ends} (h : PostW K C D (s.then f)) (hn : ∀ ρ' σ' O' H', Rep K C O' H' σ' ρ' → PostW K C D (f ρ') → D'.nx σ' H') (hb : D'.bk = D.bk) (hc : D'.ct = D.ct) (hr : D'.rt = D.rt) : PostW K C D' s := by
  cases s with
  | nx ρ' => exact fun σ' O2 H2 R => hn ρ' σ' O2 H2 R h
  | bk ρ' => rw [show PostW K C D' (.bk ρ') = _ from rfl]; intro σ' O2 H2 R; rw [hb]; exact h σ' O2 H2 R
  | ct ρ' => rw [show PostW K C D' (.ct ρ') = _ from rfl]; intro σ' O2 H2 R; rw [hc]; exact h σ' O2 H2 R
  | rt r ρ' => rw [show PostW K C D' (.rt r ρ') = _ from rfl]; intro v σ' O2 H2 R q; rw [hr]; exact h v σ' O2 H2 R q
  | ex n ρ' => exact h
  | stuck => exact h
variable {X : Cx} {st : Stmt} {sts : List Stmt} {s s1 s2 : SE}
theorem s_W (h : PS X st (tS X.K C s)) : PS X st (tSW X.K C s) := ps_imp h fun D σ H ⟨O, ρ, R, q⟩ => ⟨O, ρ, R, q.to⟩
theorem ss_W (h : PSs X sts (tS X.K C s)) : PSs X sts (tSW X.K C s) := pss_imp h fun D σ H ⟨O, ρ, R, q⟩ => ⟨O, ρ, R, q.to⟩
theorem ss_consW (h1 : PS X st (tSW X.K C s1)) (h2 : PSs X sts (tSW X.K C s2)) : PSs X (st :: sts) (tSW X.K C (sSeq s1 s2)) := pss_imp (pss_cons h1 h2) fun D σ H ⟨O, ρ, R, q⟩ =>
  ⟨O, ρ, R, PostW.then (f := s2) q (fun ρ' σ' O' H' R' p => ⟨O', ρ', R', p⟩) rfl rfl rfl⟩
theorem ss_oneW (h1 : PS X st (tSW X.K C s1)) : PSs X [st] (tSW X.K C s1) := pss_one h1
end
end PL

/-! PL7: own lists and dicts changed, raise, try, the rule for a def. -/
namespace PL
open PySem L2
section
variable {X : Cx} {C : PC} {a b c e k : Expr} {st : Stmt} {sts : List Stmt} {f g h : VE} {l m : LE} {x : XE} {bt : BE} {s s1 s2 : SE} {pos p1 p2 apos cpos : Pos} {fs : List VE} {es : List Expr}
/-! ### own lists -/
/-- x.append(e) -/
theorem s_app (i : Nat) {y : Str} {np : Pos} (ha : PE X a (tV X.K C f)) (hN : X.N[i]? = some y := by rfl) (hv : Vis X.env.scope y := by first | exact Or.inl rfl | exact Or.inr (Or.inl rfl) | exact Or.inr (Or.inr rfl)) (hd : (y == ("__debug__" : Str)) = false := by decide)
    (hcd : (y == ("__classdict__" : Str)) = false := by decide) (hs : starEach [a] X.env = (false, eval a X.env) :: starEach [] X.env := by rfl)
    (hbase : attributeBase (.Name y np) "append" X.env (eval (.Name y np) X.env) = eval (.Name y np) X.env := by rfl)
    (hfew : ((backTo cpos (starEach [a] X.env)).all (fun x => !x.1) && (backToKw cpos (keywordEach [] X.env)).all (fun x => x.1.isSome)
      && decide ([a].length + ([] : List Keyword).length + (if ([] : List Keyword).isEmpty then 0 else 1) < 30)) = true := by rfl)
    (hline : (apos.endLine == cpos.line) = true := by rfl) (hsw : swapsWith (.Call (.Attribute (.Name y np) "append" apos) [a] [] cpos) none pos.line X.env = pure false := by rfl) :
    PS X (.Expr (.Call (.Attribute (.Name y np) "append" apos) [a] [] cpos) pos) (tS X.K C (sApp i f)) :=
  ps_imp (ps_expr (pe_bm PySem.F.plainAttrs_list PySem.F.slot_list_append PySem.F.type_list_append mt_append (pe_var (i := i) hN hv hd hcd) (pa_cons ha pa_nil hs) hbase hfew hline hs (by rfl)) hsw) fun D σ H ⟨O, ρ, R, q⟩ => by
  unfold sApp at q
  split at q
  · rename_i ds hi
    obtain ⟨p, vs, h1, h2, h3, h4, h5⟩ := R.own hi
    refine ⟨.ref p, h1, .inl ⟨rfl, _, SqL.of h4⟩, O, ρ, R, Post.fin R q fun d _ k v H1 x1 p1 => ?_⟩
    by_cases hc : ds.length < 1000000
    · have k2 := k
      simp only [if_pos hc] at k2
      have h4' := x1.ex _ _ h4 rfl
      refine ⟨p, vs, v, rfl, rfl, h4', line_lt (by rw [h5.len]; exact hc), ?_⟩
      refine k2 σ O _ ((R.grow x1).put hi h1 ((DpAll.mono (hid_mono x1) h5).append (.cons p1 .nil))) ?_
      rw [hid_upd h2]
      exact hid_mono x1
    · have k2 := k
      simp only [if_neg hc] at k2
      exact k2.elim
  · exact q.elim
/-- x.insert(k, e) -/
theorem s_ins (i : Nat) {y : Str} {np : Pos} (hk : PE X k (tV X.K C g)) (ha : PE X a (tV X.K C f)) (hN : X.N[i]? = some y := by rfl) (hv : Vis X.env.scope y := by first | exact Or.inl rfl | exact Or.inr (Or.inl rfl) | exact Or.inr (Or.inr rfl)) (hd : (y == ("__debug__" : Str)) = false := by decide)
    (hcd : (y == ("__classdict__" : Str)) = false := by decide) (hs : starEach [k, a] X.env = (false, eval k X.env) :: starEach [a] X.env := by rfl) (hs2 : starEach [a] X.env = (false, eval a X.env) :: starEach [] X.env := by rfl)
    (hbase : attributeBase (.Name y np) "insert" X.env (eval (.Name y np) X.env) = eval (.Name y np) X.env := by rfl)
    (hfew : ((backTo cpos (starEach [k, a] X.env)).all (fun x => !x.1) && (backToKw cpos (keywordEach [] X.env)).all (fun x => x.1.isSome)
      && decide ([k, a].length + ([] : List Keyword).length + (if ([] : List Keyword).isEmpty then 0 else 1) < 30)) = true := by rfl)
    (hline : (apos.endLine == cpos.line) = true := by rfl) (hplain : (backTo cpos (starEach [a] X.env)).any (·.1) = false := by rfl) (hsw : swapsWith (.Call (.Attribute (.Name y np) "insert" apos) [k, a] [] cpos) none pos.line X.env = pure false := by rfl) :
    PS X (.Expr (.Call (.Attribute (.Name y np) "insert" apos) [k, a] [] cpos) pos) (tS X.K C (sIns i g f)) :=
  ps_imp (ps_expr (pe_bm PySem.F.plainAttrs_list PySem.F.slot_list_insert PySem.F.type_list_insert mt_insert (pe_var (i := i) hN hv hd hcd) (pa_cons hk (pa_cons ha pa_nil hs2) hs) hbase hfew hline hs hplain) hsw) fun D σ H ⟨O, ρ, R, q⟩ => by
  unfold sIns at q
  split at q
  · rename_i ds hi
    obtain ⟨p, vs, h1, h2, h3, h4, h5⟩ := R.own hi
    refine ⟨.ref p, h1, .inl ⟨rfl, _, SqL.of h4⟩, O, ρ, R, Post.fin R q fun n _ k0 v0 H0 x0 p0 => ?_⟩
    refine ⟨O, ρ, R.grow x0, Post.fin (R.grow x0) (Post.grow k0 (hid_mono x0)) fun d _ k v H1 x1 p1 => ?_⟩
    have x01 := x0.trans x1
    cases n with
    | int n =>
      by_cases hc : 0 ≤ n ∧ n ≤ ds.length ∧ ds.length < 1000000
      · have k2 := k
        simp only [if_pos hc] at k2
        have h4' := x01.ex _ _ h4 rfl
        refine ⟨p, vs, n, v, rfl, by rw [dp_int p0], h4', line_lt (by rw [h5.len]; exact hc.2.2), hc.1, by omega, ?_⟩
        have h5' := DpAll.mono (hid_mono x01) h5
        refine k2 σ O _ ((R.grow x01).put hi h1 ?_) ?_
        · rw [List.append_assoc]
          exact (h5'.take _).append (.cons p1 (h5'.drop _))
        · rw [hid_upd h2]
          exact hid_mono x1
      · have k2 := k
        simp only [if_neg hc] at k2
        exact k2.elim
    | _ => exact k.elim
  · exact q.elim
/-- x.clear(), x.reverse() -/
theorem s_clear (i : Nat) {y : Str} {np : Pos} (hN : X.N[i]? = some y := by rfl) (hv : Vis X.env.scope y := by first | exact Or.inl rfl | exact Or.inr (Or.inl rfl) | exact Or.inr (Or.inr rfl)) (hd : (y == ("__debug__" : Str)) = false := by decide)
    (hcd : (y == ("__classdict__" : Str)) = false := by decide)
    (hbase : attributeBase (.Name y np) "clear" X.env (eval (.Name y np) X.env) = eval (.Name y np) X.env := by rfl)
    (hline : (apos.endLine == cpos.line) = true := by rfl) (hsw : swapsWith (.Call (.Attribute (.Name y np) "clear" apos) [] [] cpos) none pos.line X.env = pure false := by rfl) :
    PS X (.Expr (.Call (.Attribute (.Name y np) "clear" apos) [] [] cpos) pos) (tS X.K C (sClear i)) :=
  ps_imp (ps_expr (pe_bm0 PySem.F.plainAttrs_list PySem.F.slot_list_clear PySem.F.type_list_clear mt_clear (pe_var (i := i) hN hv hd hcd) hbase hline) hsw) fun D σ H ⟨O, ρ, R, q⟩ => by
  unfold sClear at q
  split at q
  · rename_i ds hi
    obtain ⟨p, vs, h1, h2, h3, h4, h5⟩ := R.own hi
    refine ⟨.ref p, h1, .inl ⟨rfl, _, SqL.of h4⟩, p, vs, rfl, rfl, h4, q σ O _ (R.put hi h1 .nil) ?_⟩
    rw [hid_upd h2]
    exact Ex.refl _
  · exact q.elim
theorem s_rev (i : Nat) {y : Str} {np : Pos} (hN : X.N[i]? = some y := by rfl) (hv : Vis X.env.scope y := by first | exact Or.inl rfl | exact Or.inr (Or.inl rfl) | exact Or.inr (Or.inr rfl)) (hd : (y == ("__debug__" : Str)) = false := by decide)
    (hcd : (y == ("__classdict__" : Str)) = false := by decide)
    (hbase : attributeBase (.Name y np) "reverse" X.env (eval (.Name y np) X.env) = eval (.Name y np) X.env := by rfl)
    (hline : (apos.endLine == cpos.line) = true := by rfl) (hsw : swapsWith (.Call (.Attribute (.Name y np) "reverse" apos) [] [] cpos) none pos.line X.env = pure false := by rfl) :
    PS X (.Expr (.Call (.Attribute (.Name y np) "reverse" apos) [] [] cpos) pos) (tS X.K C (sRev i)) :=
  ps_imp (ps_expr (pe_bm0 PySem.F.plainAttrs_list PySem.F.slot_list_reverse PySem.F.type_list_reverse mt_reverse (pe_var (i := i) hN hv hd hcd) hbase hline) hsw) fun D σ H ⟨O, ρ, R, q⟩ => by
  unfold sRev at q
  split at q
  · rename_i ds hi
    obtain ⟨p, vs, h1, h2, h3, h4, h5⟩ := R.own hi
    refine ⟨.ref p, h1, .inl ⟨rfl, _, SqL.of h4⟩, p, vs, rfl, rfl, h4, q σ O _ (R.put hi h1 h5.reverse) ?_⟩
    rw [hid_upd h2]
    exact Ex.refl _
  · exact q.elim
/-- x.extend(e), e a list of the program's own -/
theorem s_ext (i : Nat) {y : Str} {np : Pos} (ha : PE X a (tO X.K C l)) (hN : X.N[i]? = some y := by rfl) (hv : Vis X.env.scope y := by first | exact Or.inl rfl | exact Or.inr (Or.inl rfl) | exact Or.inr (Or.inr rfl)) (hd : (y == ("__debug__" : Str)) = false := by decide)
    (hcd : (y == ("__classdict__" : Str)) = false := by decide) (hs : starEach [a] X.env = (false, eval a X.env) :: starEach [] X.env := by rfl)
    (hbase : attributeBase (.Name y np) "extend" X.env (eval (.Name y np) X.env) = eval (.Name y np) X.env := by rfl)
    (hfew : ((backTo cpos (starEach [a] X.env)).all (fun x => !x.1) && (backToKw cpos (keywordEach [] X.env)).all (fun x => x.1.isSome)
      && decide ([a].length + ([] : List Keyword).length + (if ([] : List Keyword).isEmpty then 0 else 1) < 30)) = true := by rfl)
    (hline : (apos.endLine == cpos.line) = true := by rfl) (hsw : swapsWith (.Call (.Attribute (.Name y np) "extend" apos) [a] [] cpos) none pos.line X.env = pure false := by rfl) :
    PS X (.Expr (.Call (.Attribute (.Name y np) "extend" apos) [a] [] cpos) pos) (tS X.K C (sExt i l)) :=
  ps_imp (ps_expr (pe_bm PySem.F.plainAttrs_list PySem.F.slot_list_extend PySem.F.type_list_extend mt_extend (pe_var (i := i) hN hv hd hcd) (pa_cons ha pa_nil hs) hbase hfew hline hs (by rfl)) hsw) fun D σ H ⟨O, ρ, R, q⟩ => by
  unfold sExt at q
  split at q
  · rename_i ds hi
    obtain ⟨p, vs, h1, h2, h3, h4, h5⟩ := R.own hi
    refine ⟨.ref p, h1, .inl ⟨rfl, _, SqL.of h4⟩, O, ρ, R, Post.fin R q fun es _ k b zs H1 x1 hb p1 => ?_⟩
    by_cases hc : ds.length + es.length < 1000000
    · have k2 := k
      simp only [if_pos hc] at k2
      have h4' := x1.ex _ _ h4 rfl
      refine ⟨p, b, vs, zs, rfl, rfl, h4', hb, line_le (by rw [h5.len, p1.len]; omega), ?_⟩
      refine k2 σ O _ ((R.grow x1).put hi h1 ((DpAll.mono (hid_mono x1) h5).append p1)) ?_
      rw [hid_upd h2]
      exact hid_mono x1
    · have k2 := k
      simp only [if_neg hc] at k2
      exact k2.elim
  · exact q.elim
/-- x[k] = e -/
theorem s_put (i : Nat) {y : Str} {np : Pos} (hk : PE X k (tV X.K C g)) (ha : PE X a (tV X.K C f)) (hN : X.N[i]? = some y := by rfl) (hv : Vis X.env.scope y := by first | exact Or.inl rfl | exact Or.inr (Or.inl rfl) | exact Or.inr (Or.inr rfl)) (hd : (y == ("__debug__" : Str)) = false := by decide)
    (hcd : (y == ("__classdict__" : Str)) = false := by decide)
    (hsub : ∀ v, assign (.Subscript (.Name y np) k p1) X.env v = (do
      let ov ← holding [v] (eval (.Name y np) X.env)
      let iv ← holding [v, ov] (eval k X.env)
      standAt p1
      holding [v, ov, iv] (setItem ov iv v)
      release [v, ov, iv] []) := by intro _; rfl)
    (hs : swapsWithSole [.Subscript (.Name y np) k p1] a pos.line X.env = pure false := by rfl) (hw : swappedStores [.Subscript (.Name y np) k p1] a X.env = pure none := by rfl)
    (h1 : (assignEach [.Subscript (.Name y np) k p1] X.env).map (·.2) = [assign (.Subscript (.Name y np) k p1) X.env] := by rfl) :
    PS X (.Assign [.Subscript (.Name y np) k p1] a pos) (tS X.K C (sPut i g f)) :=
  ps_imp (ps_asg ha (pg_sub (pe_var (i := i) hN hv hd hcd) hk set_list hsub) hs hw h1) fun D σ H ⟨O, ρ, R, q⟩ => by
  refine ⟨O, ρ, R, Post.fin R q fun d _ k v H1 x1 p1 => ?_⟩
  have k := Post.grow k (hid_mono x1)
  have R1 := R.grow x1
  split at k
  · rename_i ds hi
    obtain ⟨p, vs, a1, a2, a3, a4, a5⟩ := R1.own hi
    refine ⟨.ref p, a1, O, ρ, R1, Post.fin R1 k fun n _ k2 u H2 x2 p2 => ?_⟩
    cases n with
    | int n =>
      cases hj : ixN ds.length n with
      | none => simp only [hj] at k2; exact k2.elim
      | some j =>
        simp only [hj] at k2
        have a5' := DpAll.mono (hid_mono x2) a5
        refine ⟨p, vs, n, j, rfl, dp_int p2, x2.ex _ _ a4 rfl, by rw [a5.len]; exact hj, ?_⟩
        refine k2 σ O _ ((R1.grow x2).put hi a1 (a5'.set (Dp.mono (hid_mono x2) p1) j)) ?_
        rw [hid_upd a2]
        exact hid_mono x2
    | _ => exact k2.elim
  · exact k.elim
/-- x.append(y.pop(k)) -/
theorem s_appPop (i j : Nat) {y z : Str} {np zp ap2 cp2 : Pos} (hk : PE X k (tV X.K C g)) (hN : X.N[i]? = some y := by rfl) (hv : Vis X.env.scope y := by first | exact Or.inl rfl | exact Or.inr (Or.inl rfl) | exact Or.inr (Or.inr rfl)) (hd : (y == ("__debug__" : Str)) = false := by decide)
    (hcd : (y == ("__classdict__" : Str)) = false := by decide) (hNz : X.N[j]? = some z := by rfl) (hvz : Vis X.env.scope z := by first | exact Or.inl rfl | exact Or.inr (Or.inl rfl) | exact Or.inr (Or.inr rfl)) (hdz : (z == ("__debug__" : Str)) = false := by decide)
    (hcdz : (z == ("__classdict__" : Str)) = false := by decide)
    (hsk : starEach [k] X.env = (false, eval k X.env) :: starEach [] X.env := by rfl)
    (hbasez : attributeBase (.Name z zp) "pop" X.env (eval (.Name z zp) X.env) = eval (.Name z zp) X.env := by rfl)
    (hfewz : ((backTo cp2 (starEach [k] X.env)).all (fun x => !x.1) && (backToKw cp2 (keywordEach [] X.env)).all (fun x => x.1.isSome)
      && decide ([k].length + ([] : List Keyword).length + (if ([] : List Keyword).isEmpty then 0 else 1) < 30)) = true := by rfl)
    (hlinez : (ap2.endLine == cp2.line) = true := by rfl)
    (hs : starEach [.Call (.Attribute (.Name z zp) "pop" ap2) [k] [] cp2] X.env = (false, eval (.Call (.Attribute (.Name z zp) "pop" ap2) [k] [] cp2) X.env) :: starEach [] X.env := by rfl)
    (hbase : attributeBase (.Name y np) "append" X.env (eval (.Name y np) X.env) = eval (.Name y np) X.env := by rfl)
    (hfew : ((backTo cpos (starEach [.Call (.Attribute (.Name z zp) "pop" ap2) [k] [] cp2] X.env)).all (fun x => !x.1) && (backToKw cpos (keywordEach [] X.env)).all (fun x => x.1.isSome)
      && decide ([PySem.Expr.Call (.Attribute (.Name z zp) "pop" ap2) [k] [] cp2].length + ([] : List Keyword).length + (if ([] : List Keyword).isEmpty then 0 else 1) < 30)) = true := by rfl)
    (hline : (apos.endLine == cpos.line) = true := by rfl) (hsw : swapsWith (.Call (.Attribute (.Name y np) "append" apos) [.Call (.Attribute (.Name z zp) "pop" ap2) [k] [] cp2] [] cpos) none pos.line X.env = pure false := by rfl) :
    PS X (.Expr (.Call (.Attribute (.Name y np) "append" apos) [.Call (.Attribute (.Name z zp) "pop" ap2) [k] [] cp2] [] cpos) pos) (tS X.K C (sAppPop i j g)) :=
  ps_imp (ps_expr (pe_bm PySem.F.plainAttrs_list PySem.F.slot_list_append PySem.F.type_list_append mt_append (pe_var (i := i) hN hv hd hcd) (pa_cons (pe_bm PySem.F.plainAttrs_list PySem.F.slot_list_pop PySem.F.type_list_pop mt_popAt (pe_var (i := j) hNz hvz hdz hcdz) (pa_cons hk pa_nil hsk) hbasez hfewz hlinez hsk (by rfl)) pa_nil hs) hbase hfew hline hs (by rfl)) hsw) fun D σ H ⟨O, ρ, R, q⟩ => by
  unfold sAppPop at q
  split at q
  · rename_i ds es hi hj
    obtain ⟨p, vs, h1, h2, h3, h4, h5⟩ := R.own hi
    obtain ⟨r, ws, j1, j2, j3, j4, j5⟩ := R.own hj
    refine ⟨.ref p, h1, .inl ⟨rfl, _, SqL.of h4⟩, .ref r, j1, .inl ⟨rfl, _, SqL.of j4⟩, O, ρ, R, Post.fin R q fun n _ k0 v0 H1 x1 p0 => ?_⟩
    cases n with
    | int n =>
      by_cases hc : 0 ≤ n ∧ n < es.length ∧ es.length < 1000000 ∧ ds.length < 1000000 ∧ i ≠ j
      · have k2 := k0
        simp only [if_pos hc] at k2
        cases he : es[n.toNat]? with
        | none => simp only [he] at k2; exact k2.elim
        | some d =>
          simp only [he] at k2
          have R1 := R.grow x1
          have j5' := DpAll.mono (hid_mono x1) j5
          obtain ⟨v, e1, e2⟩ := j5'.get he
          have hne : p ≠ r := fun z => by subst z; exact R.apart i j _ _ _ hc.2.2.2.2 hi rfl h1 hj rfl j1
          have hsq : seqIndex? n ws.length = some n.toNat := by
            have := (ixN_seq (n := ws.length) (i := n) (j := n.toNat) (by unfold ixN; rw [if_pos hc.1, if_pos (by rw [j5.len]; exact hc.2.1)])).1
            exact this
          have hn63 : n < 2 ^ 63 := by
            have h1 := hc.2.1
            have h2 := hc.2.2.1
            omega
          refine ⟨r, ws, n, n.toNat, v, rfl, by rw [dp_int p0], x1.ex _ _ j4 rfl, by omega, hn63, hsq, e1, ?_⟩
          have hp' : (upd H1 r (.lst (ws.eraseIdx n.toNat))) p = some (.lst vs) := by rw [upd_ne hne]; exact x1.ex _ _ h4 rfl
          refine ⟨p, vs, v, rfl, rfl, hp', line_lt (by rw [h5.len]; exact hc.2.2.2.1), ?_⟩
          have R2 := R1.put (vs' := ws.eraseIdx n.toNat) hj j1 (j5'.erase n.toNat)
          have hi2 : (ρ.set j (some (.ow (es.eraseIdx n.toNat))))[i]? = some (some (.ow ds)) := by rw [List.getElem?_set_ne (Ne.symm hc.2.2.2.2)]; exact hi
          have hh : hid O (upd H1 r (.lst (ws.eraseIdx n.toNat))) = hid O H1 := hid_upd j2
          refine k2 σ O _ (R2.put hi2 h1 ?_) ?_
          · rw [hh]
            exact (DpAll.mono (hid_mono x1) h5).append (.cons e2 .nil)
          · rw [hid_upd h2, hh]
            exact hid_mono x1
      · have k2 := k0
        simp only [if_neg hc] at k2
        exact k2.elim
    | _ => exact k0.elim
  · exact q.elim

/-! ### dicts -/
theorem kv_any {K : PySem.W.Frag} {G : Hp} {vs : List (List Key × V)} {kvs : List (List Int × PyData)} (h : KvAll K G vs kvs) (k : List Int) : (vs.any fun p => decide (p.1 = k.map Sum.inl)) = (kvs.any fun p => decide (p.1 = k)) := by
  induction h with
  | nil => rfl
  | @cons k' v d r s hd _ ih =>
    rw [List.any_cons, List.any_cons, ih]
    congr 1
    by_cases e : k' = k
    · subst e
      rw [decide_eq_true rfl, decide_eq_true rfl]
    · rw [decide_eq_false e, decide_eq_false fun z => e ?_]
      have hinj : ∀ {a b : List Int}, a.map (Sum.inl (β := Str)) = b.map Sum.inl → a = b := fun {a b} h => by
        induction a generalizing b with
        | nil => cases b with
          | nil => rfl
          | cons _ _ => cases h
        | cons x xs ih => cases b with
          | nil => cases h
          | cons y ys =>
            rw [List.map_cons, List.map_cons] at h
            injection h with h1 h2
            injection h1 with h1
            rw [h1, ih h2]
      exact hinj z
theorem key_inj {a b : List Int} (h : a.map (Sum.inl (β := Str)) = b.map Sum.inl) : a = b := by
  induction a generalizing b with
  | nil => cases b with
    | nil => rfl
    | cons _ _ => cases h
  | cons x xs ih => cases b with
    | nil => cases h
    | cons y ys =>
      rw [List.map_cons, List.map_cons] at h
      injection h with h1 h2
      injection h1 with h1
      rw [h1, ih h2]
theorem kv_get {K : PySem.W.Frag} {G : Hp} {vs : List (List Key × V)} {kvs : List (List Int × PyData)} (h : KvAll K G vs kvs) (k : List Int) : (∀ d, dGet kvs k = some d → ∃ v, valV vs (k.map Sum.inl) = some v ∧ Dp K G v d) ∧ (valV vs (k.map Sum.inl)).isSome = (dGet kvs k).isSome := by
  induction h with
  | nil => exact ⟨fun d e => (nomatch e), rfl⟩
  | @cons k' v d r s hd _ ih =>
    unfold dGet at ih ⊢
    by_cases e : k' = k
    · subst e
      rw [valV_pos rfl, List.find?_cons, decide_eq_true rfl]
      exact ⟨fun d' e' => by cases e'; exact ⟨v, rfl, hd⟩, rfl⟩
    · rw [valV_neg fun z => e (key_inj z), List.find?_cons, decide_eq_false e]
      exact ih
theorem kv_put {K : PySem.W.Frag} {G : Hp} {vs : List (List Key × V)} {kvs : List (List Int × PyData)} (h : KvAll K G vs kvs) (k : List Int) {v : V} {d : PyData} (hd : Dp K G v d) : KvAll K G (putK vs (k.map Sum.inl) v) (dPut kvs k d) := by
  unfold putK dPut
  rw [kv_any h k]
  by_cases c : (kvs.any fun p => decide (p.1 = k)) = true
  · rw [if_pos c, if_pos c]
    clear c
    induction h with
    | nil => exact .nil
    | @cons k' v' d' r s hd' _ ih =>
      rw [List.map_cons, List.map_cons]
      by_cases e : k' = k
      · subst e
        rw [if_pos rfl, if_pos rfl]
        exact .cons hd ih
      · rw [if_neg e, if_neg fun z => e (key_inj z)]
        exact .cons hd' ih
  · rw [if_neg c, if_neg c]
    clear c
    induction h with
    | nil => exact .cons hd .nil
    | cons hd' _ ih => exact .cons hd' ih
theorem key_V {K : PySem.W.Frag} {G : Hp} {vs : List V} {ds : List PyData} {ks : List Int} (a : DpAll K G vs ds) (e : asInts ds = some ks) : vs = (ks.map (Sum.inl (β := Str))).map kV := by
  rw [a.ints e, List.map_map]
  rfl
/-- d[(..)] = e -/
theorem s_dput (i : Nat) {y : Str} {np : Pos} {kk : Nat} (hu : X.A.units + 1 < cLine) (hk : PA X es (tA X.K C (aAll fs))) (ha : PE X a (tV X.K C f)) (hl : fs.length ≤ 1000 := by exact Nat.le_of_ble_eq_true rfl) (hN : X.N[i]? = some y := by rfl) (hv : Vis X.env.scope y := by first | exact Or.inl rfl | exact Or.inr (Or.inl rfl) | exact Or.inr (Or.inr rfl)) (hd : (y == ("__debug__" : Str)) = false := by decide)
    (hcd : (y == ("__classdict__" : Str)) = false := by decide) (hs : swapsWith a (some (.Subscript (.Name y np) (.Tuple es kk p1) p2)) pos.line X.env = pure false := by rfl) :
    PS X (.Assign [.Subscript (.Name y np) (.Tuple es kk p1) p2] a pos) (tS X.K C (sDPutE i fs f)) :=
  ps_imp (ps_dput hu (pe_var (i := i) hN hv hd hcd) (pe_tup hk) ha hs) fun D σ H ⟨O, ρ, R, q⟩ => by
  refine ⟨O, ρ, R, Post.fin R q fun d _ k v H1 x1 p1 => ?_⟩
  have k := Post.grow k (hid_mono x1)
  have R1 := R.grow x1
  split at k
  · rename_i kvs hi
    obtain ⟨u, a1, p, vs, rfl, a2, a3, a4, a5⟩ := R1.slot i _ hi
    refine ⟨.ref p, a1, O, ρ, R1, Post.fin R1 k fun ds ed k2 us H2 x2 p2 => ⟨line_le (by rw [p2.len, aAll_len _ _ _ ed]; omega), fun t nt => ?_⟩⟩
    cases hks : asInts ds with
    | none => simp only [hks] at k2; exact k2.elim
    | some ks =>
      simp only [hks] at k2
      by_cases hc : kvs.length < 1000000
      · simp only [if_pos hc] at k2
        have x3 := x2.trans (Gx.new nt (o := .tup us))
        have hp : (upd H2 t (.tup us)) p = some (.dT vs) := x3.ex _ _ a4 rfl
        refine ⟨p, upd (upd H2 t (.tup us)) p (.dT (putK vs (ks.map Sum.inl) v)), rfl, DPut.t hp (by rw [upd_same, key_V p2 hks]) (line_lt (by rw [a5.len]; exact hc)), ?_⟩
        refine k2 σ O _ ((R1.grow x3).putD hi a1 (kv_put (KvAll.mono (hid_mono x3) a5) ks (Dp.mono (hid_mono x3) p1))) ?_
        rw [hid_upd a2]
        exact hid_mono x3
      · simp only [if_neg hc] at k2
        exact k2.elim
  · exact k.elim
theorem v_dget (i : Nat) {kk : Nat} {e : Expr} (hu : X.A.units + 1 < cLine) (hd : PE X e (tD X.K C i)) (hk : PA X es (tA X.K C (aAll fs))) (hl : fs.length ≤ 1000 := by exact Nat.le_of_ble_eq_true rfl) (hs : NoSl (.Tuple es kk p1) := by intro _ _; rfl) : PE X (.Subscript e (.Tuple es kk p1) pos) (tV X.K C (eDGet i fs)) :=
  pe_imp (pe_dget hu hd (pe_tup hk) hs) fun σ H Q ⟨O, ρ, R, q⟩ => by
  refine ⟨O, ρ, R, (Fin.bind q).imp fun kvs _ q1 p vs H1 x1 s1 al => ?_⟩
  refine ⟨O, ρ, R.grow x1, ((Fin.bind q1).grow x1).imp fun ds ed q2 us H2 x2 p2 => ⟨line_le (by rw [p2.len, aAll_len _ _ _ ed]; omega), fun t nt => ?_⟩⟩
  cases hks : asInts ds with
  | none => rw [hks] at q2; exact q2.elim
  | some ks =>
    rw [hks] at q2
    cases hg : dGet kvs ks with
    | none => simp only [hg] at q2; exact q2.elim
    | some d =>
      simp only [hg] at q2
      obtain ⟨v, h1, h2⟩ := (kv_get al ks).1 d hg
      have x3 := x2.trans (Gx.new nt (o := .tup us))
      have q3 : ∀ v H', Gx C.T H H' → Dp X.K (hid O H') v d → Q v H' := q2
      exact ⟨p, v, rfl, by rw [← h1]; exact DGet.t (x3.ex _ _ s1 rfl) (by rw [upd_same, key_V p2 hks]), q3 v _ (x1.trans x3) (Dp.mono (hid_mono x3) h2)⟩
theorem b_din (i : Nat) {kk : Nat} {e : Expr} (hu : X.A.units + 1 < cLine) (hk : PA X es (tA X.K C (aAll fs))) (hd : PE X e (tD X.K C i)) (hl : fs.length ≤ 1000 := by exact Nat.le_of_ble_eq_true rfl) (hm : behindInMarks .In e = false := by rfl) : PT X (.Compare (.Tuple es kk p1) [.In] [e] pos) (tT X.K C (bOf (eDIn false fs i))) :=
  pt_imp (pt_cmp (pc_din hu (pe_tup hk) hd) hm) fun σ H Q q => by
  obtain ⟨O, ρ, R, q⟩ := tT_tV q
  refine ⟨O, ρ, R, (Fin.bind q).imp fun ds ed q1 us H1 x1 p2 => ⟨line_le (by rw [p2.len, aAll_len _ _ _ ed]; omega), fun t nt => ?_⟩⟩
  have x2 := x1.trans (Gx.new nt (o := .tup us))
  refine ⟨O, ρ, R.grow x2, ((Fin.bind q1).grow x2).imp fun kvs _ q2 p vs H3 x3 s1 al => ?_⟩
  cases hks : asInts ds with
  | none => simp only [hks] at q2; exact q2.elim
  | some ks =>
    simp only [hks] at q2
    have x4 := x2.trans x3
    have ht : H3 t = some (.tup ((ks.map Sum.inl).map kV)) := by rw [x3.ex _ _ upd_same rfl, key_V p2 hks]
    have h2 := (kv_get al ks).2
    refine ⟨p, _, rfl, DGet.t s1 ht, ?_⟩
    rw [h2]
    exact (show ∀ v H', Gx C.T H H' → Dp X.K (hid O H') v (.bool (dGet kvs ks).isSome) → ∃ k, v = .bl k ∧ Q k H' from q2) _ H3 x4 (.bl _)
theorem b_dnotin (i : Nat) {kk : Nat} {e : Expr} (hu : X.A.units + 1 < cLine) (hk : PA X es (tA X.K C (aAll fs))) (hd : PE X e (tD X.K C i)) (hl : fs.length ≤ 1000 := by exact Nat.le_of_ble_eq_true rfl) (hm : behindInMarks .NotIn e = false := by rfl) : PT X (.Compare (.Tuple es kk p1) [.NotIn] [e] pos) (tT X.K C (bOf (eDIn true fs i))) :=
  pt_imp (pt_cmp (pc_dnotin hu (pe_tup hk) hd) hm) fun σ H Q q => by
  obtain ⟨O, ρ, R, q⟩ := tT_tV q
  refine ⟨O, ρ, R, (Fin.bind q).imp fun ds ed q1 us H1 x1 p2 => ⟨line_le (by rw [p2.len, aAll_len _ _ _ ed]; omega), fun t nt => ?_⟩⟩
  have x2 := x1.trans (Gx.new nt (o := .tup us))
  refine ⟨O, ρ, R.grow x2, ((Fin.bind q1).grow x2).imp fun kvs _ q2 p vs H3 x3 s1 al => ?_⟩
  cases hks : asInts ds with
  | none => simp only [hks] at q2; exact q2.elim
  | some ks =>
    simp only [hks] at q2
    have x4 := x2.trans x3
    have ht : H3 t = some (.tup ((ks.map Sum.inl).map kV)) := by rw [x3.ex _ _ upd_same rfl, key_V p2 hks]
    have h2 := (kv_get al ks).2
    refine ⟨p, _, rfl, DGet.t s1 ht, ?_⟩
    rw [h2]
    exact (show ∀ v H', Gx C.T H H' → Dp X.K (hid O H') v (.bool (!(dGet kvs ks).isSome)) → ∃ k, v = .bl k ∧ Q k H' from q2) _ H3 x4 (.bl _)
theorem v_dlen (i : Nat) {e : Expr} (hg : Gl X "len") (hm : X.mg "len" = none) (hd : PE X e (tD X.K C i)) (he : starEach [e] X.env = (false, eval e X.env) :: starEach [] X.env := by rfl) :
    PE X (.Call (.Name "len" p1) [e] [] pos) (tV X.K C (eDLen i)) := pe_imp (pe_callB call_len_dT hg hm PySem.boot_len (pa_cons hd pa_nil he) (by decide) (by decide) he) fun σ H Q ⟨O, ρ, R, q⟩ => by
  refine ⟨O, ρ, R, (Fin.bind q).imp fun kvs _ q1 p vs H1 x1 s1 al => ⟨p, vs, rfl, s1, ?_⟩⟩
  rw [al.len]
  exact (show ∀ v H', Gx C.T H H' → Dp X.K (hid O H') v (.int kvs.length) → Q v H' from q1) _ H1 x1 (.int _)
theorem v_dis (i : Nat) {e : Expr} (hg : Gl X "isinstance") (hm : X.mg "isinstance" = none) (hgT : Gl X "dict") (hmT : X.mg "dict" = none) (hd : PE X e (tD X.K C i)) (he : starEach (e :: [.Name "dict" p1]) X.env = (false, eval e X.env) :: starEach [.Name "dict" p1] X.env := by rfl) :
    PE X (.Call (.Name "isinstance" p2) [e, .Name "dict" p1] [] pos) (tV X.K C (eDIs i)) :=
  pe_imp (pe_callB call_isi hg hm (by decide +kernel) (pa_cons hd (pa_cons (pe_bltn (v := .ty "dict") hgT hmT (by decide +kernel) rfl (by decide) (by decide)) pa_nil) he) (by decide) (by decide) he) fun σ H Q ⟨O, ρ, R, q⟩ => by
  refine ⟨O, ρ, R, (Fin.bind q).imp fun kvs _ q1 p vs H1 x1 s1 al => ?_⟩
  exact ⟨.ref p, .ty "dict", .type "dict", .type "dict", true, rfl, .ty _, .base (.dT s1), kit_ty (by decide +kernel), (show ∀ v H', Gx C.T H H' → Dp X.K (hid O H') v (.bool true) → Q v H' from q1) _ H1 x1 (.bl _)⟩

/-! ### raise -/
theorem s_raise {n : String} {x m : Str} {C' : Addr} {bmB : List Value} {B newId initId : String} {j : Nat} (hc : X.calm = true) (tk : Takes X C.W) (F : ExcBaseFacts B newId initId bmB) (q : PySem.W.excIn X.K C' bmB newId = true) (gC : X.mg x = some (.ref C')) (kC : PySem.W.keepIn X.K (.ref C') = true) (r : Raises X (.ref C')) (hg : Gl X x) (hcv : C.cv n = .ref C')
    (hdb : (x == ("__debug__" : Str)) = false := by decide) : PS X (.Raise (some (.Call (.Name x p1) [.Constant (.str m) j p2] [] apos)) none pos) (tS X.K C (sRaise n)) := ps_imp (ps_raise hc tk (pmk_own F q gC kC r hg hdb)) fun D σ H ⟨O, ρ, R, q⟩ => by
  have := q σ O H R (Ex.refl _)
  rw [hcv] at this
  exact this
end

/-! ### a def by its body -/
section
variable {P : Program} {w : World} {K : PySem.W.Frag} {mg : Str → Option Value} {base : Heap} {tb : List (Addr × Str)} {cv : String → Value}
def PC.of (tb : List (Addr × Str)) (cv : String → Value) (H : Hp) (O : List Addr) (E : XK) : PC := ⟨[], H, O, fun cls d _ H' => E cls d H', cv, fun _ _ => False, tb⟩
theorem args_rep {O : List Addr} {H : Hp} {E : XK} {vs : List V} {args : List SL} {n : Nat} (hT : LamX.Tabs tb H) (al : ∀ b ∈ O, H b ≠ none) (h : ArgsOk K O H vs args) : Rep K (PC.of tb cv H O E) O H (vs.map some ++ List.replicate n none) (args.map some ++ List.replicate n none) := by
  have hl := h.len
  have key : ∀ (i : Nat) (s : SL), (args.map some ++ List.replicate n none)[i]? = some (some s) → ownS s = false ∧ ∃ v, (vs.map some ++ List.replicate n none)[i]? = some (some v) ∧ SlotOk K (PC.of tb cv H O E) O H v s := by
    clear al hl
    induction h with
    | nil =>
      intro i s e
      rw [List.map_nil, List.nil_append, List.getElem?_replicate] at e
      split at e <;> cases e
    | @cons v vs s ss h _ ih =>
      intro i t e
      cases i with
      | zero =>
        cases e
        cases s with
        | fz d => exact ⟨rfl, v, rfl, h⟩
        | bw ds => obtain ⟨p, us, a, b, c⟩ := h; exact ⟨rfl, v, rfl, p, us, a, (nomatch ·), b, c⟩
        | dbw ds => obtain ⟨p, us, a, b, c⟩ := h; exact ⟨rfl, v, rfl, p, us, a, (nomatch ·), b, c⟩
        | ow ds => exact h.elim
        | dow ds => exact h.elim
        | er n => exact h.elim
        | mw n => exact h.elim
        | og n => exact h.elim
        | oo n => exact h.elim
      | succ i => exact ih i t e
  refine ⟨ExM.refl _ _, ⟨fun b hb => al b hb, hT⟩, fun b hb => hb, al, ?_, fun i s e => (key i s e).2, fun i j s t p _ e1 o1 _ _ _ _ => ?_⟩
  · rw [List.length_append, List.length_append, List.length_map, List.length_map, List.length_replicate, List.length_replicate, hl]
  · rw [(key i s e1).1] at o1
    cases o1
theorem body_ok {x qual : Str} {st : Stmt} {f : Addr} {N ps : List Str} {g : SE} {cdv : Value} {A : Around} {outer : List PySem.Env} {s : Shared} {H : Hp} {vs : List V} {Q : VK} {E : XK}
    (body : ∀ (O : List Addr), Wk (cxOf (L2.CX P w) P w K mg base N qual (defScope st) f cdv A outer s H E) (PC.of tb cv H O E) →
      Takes (cxOf (L2.CX P w) P w K mg base N qual (defScope st) f cdv A outer s H E) (PC.of tb cv H O E).W → PassesOwn (model P w) (A.deeper (PyProof.Rows.envOfC qual (defScope st) s.heap.objs.size f cdv)) (PyProof.Rows.envOfC qual (defScope st) s.heap.objs.size f cdv) (cxOf (L2.CX P w) P w K mg base N qual (defScope st) f cdv A outer s H E).xe →
      PSs (cxOf (L2.CX P w) P w K mg base N qual (defScope st) f cdv A outer s H E) (defBody st) (tSW K (PC.of tb cv H O E) g)) (h : spP K tb cv ps.length (runF ps.length N.length g) vs H Q E) :
    ∃ t, PSs (cxOf (L2.CX P w) P w K mg base N qual (defScope st) f cdv A outer s H E) (defBody st) t ∧ t { nx := fun _ H' => Q .non H', rt := Q } (start N vs) H := by
  obtain ⟨O, args, hl, hT, al, ha, q⟩ := h
  have tk : Takes (cxOf (L2.CX P w) P w K mg base N qual (defScope st) f cdv A outer s H E) (PC.of tb cv H O E).W := takes_of rfl rfl rfl rfl
  refine ⟨_, body O (fun σ => passAt tk σ) tk (passes_of rfl), O, args.map some ++ List.replicate (N.length - ps.length) none, ?_, ?_⟩
  · have hv : vs.length = ps.length := by rw [ha.len, hl]
    unfold L2.start
    rw [hv]
    exact args_rep hT al ha
  · unfold runF at q
    rw [if_pos hl] at q
    have ret : ∀ (O' : List Addr) (H' : Hp) (σ' : L2.St) (ρ' : Env) (v : V) (r : RV), Rep K (PC.of tb cv H O E) O' H' σ' ρ' → RetV K (PC.of tb cv H O E) O' H' v r → Gx tb H H' ∧ RetC K O H H' v r := fun O' H' σ' ρ' v r R rv => by
      have ex : Gx tb H H' := (show ExM _ [] H H' from R.ex).gx
      refine ⟨ex, ?_⟩
      have hsub : ∀ b ∈ O, b ∈ O' := R.sub
      cases r with
      | val d => exact Dp.mono (hid_sub hsub) rv
      | fresh ds => obtain ⟨p, us, a, b, c, d⟩ := rv; exact ⟨p, us, a, b, c, DpAll.mono (hid_sub fun b z => by
          rcases List.mem_cons.mp z with rfl | z
          · exact List.mem_cons_self
          · exact List.mem_cons_of_mem _ (hsub b z)) d⟩
      | dfresh ds => obtain ⟨p, us, a, b, c, d⟩ := rv; exact ⟨p, us, a, b, c, KvAll.mono (hid_sub fun b z => by
          rcases List.mem_cons.mp z with rfl | z
          · exact List.mem_cons_self
          · exact List.mem_cons_of_mem _ (hsub b z)) d⟩
      | gfresh ds => obtain ⟨p, us, a, b, c, d⟩ := rv; exact ⟨p, us, a, b, c, d.mono (hid_sub fun b z => by
          rcases List.mem_cons.mp z with rfl | z
          · exact List.mem_cons_self
          · exact List.mem_cons_of_mem _ (hsub b z))⟩
    cases hg : g (args.map some ++ List.replicate (N.length - ps.length) none) with
    | nx ρ' =>
      rw [hg] at q
      intro σ' O' H' R
      obtain ⟨ex, _⟩ := ret O' H' σ' ρ' .non (.val .none) R .non
      exact q .non H' ex .non
    | rt r ρ' =>
      rw [hg] at q
      intro v σ' O' H' R rv
      obtain ⟨ex, rc⟩ := ret O' H' σ' ρ' v r R rv
      exact q v H' ex rc
    | ex n ρ' =>
      rw [hg] at q
      intro σ' O' H' R
      exact q H' (show ExM _ [] H H' from R.ex).gx
    | bk ρ' => rw [hg] at q; exact q.elim
    | ct ρ' => rw [hg] at q; exact q.elim
    | stuck => rw [hg] at q; exact q.elim
/-- THE RULE for a def -/
theorem mk_fnW {x qual : Str} {st : Stmt} {f : Addr} {fd : FuncData} {N ps : List Str} {k : Nat} {g : SE} (F : Fun K x qual st f fd) (S : FnScope N ps (defScope st))
    (body : ∀ (cdv : Value) (A : Around) (outer : List PySem.Env) (s : Shared) (H : Hp) (O : List Addr) (E : XK), Room k (A.deeper (PyProof.Rows.envOfC qual (defScope st) s.heap.objs.size f cdv)) → Wk (cxOf (L2.CX P w) P w K mg base N qual (defScope st) f cdv A outer s H E) (PC.of tb cv H O E) →
      Takes (cxOf (L2.CX P w) P w K mg base N qual (defScope st) f cdv A outer s H E) (PC.of tb cv H O E).W → PassesOwn (model P w) (A.deeper (PyProof.Rows.envOfC qual (defScope st) s.heap.objs.size f cdv)) (PyProof.Rows.envOfC qual (defScope st) s.heap.objs.size f cdv) (cxOf (L2.CX P w) P w K mg base N qual (defScope st) f cdv A outer s H E).xe →
      PSs (cxOf (L2.CX P w) P w K mg base N qual (defScope st) f cdv A outer s H E) (defBody st) (tSW K (PC.of tb cv H O E) g)) :
    FnOk P w K mg base (L2.CX P w) (k + 1) f fd ps (spP K tb cv ps.length (runF ps.length N.length g)) := by
  refine F.okX S (fun vs H Q E ⟨O, args, hl, hT, al, ha, q⟩ => by rw [ha.len, hl]) (fun cdv A outer s H vs Q E hr h => body_ok (x := x) (fun O => body cdv A outer s H O E hr) h)
/-- THE RULE for a def -/
theorem mk_fn {x qual : Str} {st : Stmt} {f : Addr} {fd : FuncData} {N ps : List Str} {k : Nat} {g : SE} (F : Fun K x qual st f fd) (S : FnScope N ps (defScope st))
    (body : ∀ (cdv : Value) (A : Around) (outer : List PySem.Env) (s : Shared) (H : Hp) (O : List Addr) (E : XK), Room k (A.deeper (PyProof.Rows.envOfC qual (defScope st) s.heap.objs.size f cdv)) → Wk (cxOf (L2.CX P w) P w K mg base N qual (defScope st) f cdv A outer s H E) (PC.of tb cv H O E) →
      Takes (cxOf (L2.CX P w) P w K mg base N qual (defScope st) f cdv A outer s H E) (PC.of tb cv H O E).W → PassesOwn (model P w) (A.deeper (PyProof.Rows.envOfC qual (defScope st) s.heap.objs.size f cdv)) (PyProof.Rows.envOfC qual (defScope st) s.heap.objs.size f cdv) (cxOf (L2.CX P w) P w K mg base N qual (defScope st) f cdv A outer s H E).xe →
      PSs (cxOf (L2.CX P w) P w K mg base N qual (defScope st) f cdv A outer s H E) (defBody st) (tS K (PC.of tb cv H O E) g)) :
    FnOk P w K mg base (L2.CX P w) (k + 1) f fd ps (spP K tb cv ps.length (runF ps.length N.length g)) := by
  refine F.okX S (fun vs H Q E ⟨O, args, hl, hT, al, ha, q⟩ => by rw [ha.len, hl]) (fun cdv A outer s H vs Q E hr h => body_ok (x := x) (fun O hx tk hp => ss_W (body cdv A outer s H O E hr hx tk hp)) h)
theorem mk_def {x qual : Str} {st : Stmt} {f : Addr} {fd : FuncData} {N ps : List Str} {k : Nat} {g : SE} (F : Fun K x qual st f fd) (S : FnScope N ps (defScope st)) (hmg : mg x = some (.ref f)) (hb : Binds K fd ps [])
    (body : ∀ (cdv : Value) (A : Around) (outer : List PySem.Env) (s : Shared) (H : Hp) (O : List Addr) (E : XK), Room k (A.deeper (PyProof.Rows.envOfC qual (defScope st) s.heap.objs.size f cdv)) → Wk (cxOf (L2.CX P w) P w K mg base N qual (defScope st) f cdv A outer s H E) (PC.of tb cv H O E) →
      Takes (cxOf (L2.CX P w) P w K mg base N qual (defScope st) f cdv A outer s H E) (PC.of tb cv H O E).W → PassesOwn (model P w) (A.deeper (PyProof.Rows.envOfC qual (defScope st) s.heap.objs.size f cdv)) (PyProof.Rows.envOfC qual (defScope st) s.heap.objs.size f cdv) (cxOf (L2.CX P w) P w K mg base N qual (defScope st) f cdv A outer s H E).xe →
      PSs (cxOf (L2.CX P w) P w K mg base N qual (defScope st) f cdv A outer s H E) (defBody st) (tS K (PC.of tb cv H O E) g)) :
    Dfn P w K mg base tb cv (k + 1) x ps.length (runF ps.length N.length g) := ⟨f, fd, ps, mk_fn F S body, hmg, F.kp, hb⟩
end
end PL

/-! PL8: further rules; the top's facts. -/
namespace PL
open PySem L2
section
variable {X : Cx} {C : PC} {a b c e k : Expr} {f g h : VE} {l m : LE} {pos p1 p2 apos cpos : Pos} {fs : List VE} {es : List Expr} {ra : AE} {n : Nat}
theorem v_neg (ha : PE X a (tV X.K C f)) : PE X (.UnaryOp .USub a pos) (tV X.K C (eNeg f)) := pe_imp (pe_un un_neg ha) fun σ H Q ⟨O, ρ, R, q⟩ => by
  refine ⟨O, ρ, R, (Fin.bind q).imp fun d _ k v H1 x1 p1 => ?_⟩
  cases d with
  | int i => exact ⟨i, dp_int p1, (show ∀ v H', Gx C.T H H' → Dp X.K (hid O H') v (.int (-i)) → Q v H' from k) _ H1 x1 (.int _)⟩
  | _ => exact k.elim
/-! ### how many arguments -/
def ArLen (ra : AE) (n : Nat) : Prop := ∀ ρ ss, ra ρ = .ok ss → ss.length = n
theorem rNil_len : ArLen rNil 0 := fun _ _ h => by cases h; rfl
theorem rV_len (h : ArLen ra n) : ArLen (rV f ra) (n + 1) := fun ρ ss e => by
  unfold rV at e
  cases e1 : f ρ with
  | ok d =>
    rw [e1] at e
    cases e2 : ra ρ with
    | ok r => rw [e2] at e; cases e; rw [List.length_cons, h ρ r e2]
    | exc _ => rw [e2] at e; cases e
    | stuck => rw [e2] at e; cases e
  | exc _ => rw [e1] at e; cases e
  | stuck => rw [e1] at e; cases e
theorem rL_len (h : ArLen ra n) : ArLen (rL l ra) (n + 1) := fun ρ ss e => by
  unfold rL at e
  cases e1 : l ρ with
  | ok d =>
    rw [e1] at e
    cases e2 : ra ρ with
    | ok r => rw [e2] at e; cases e; rw [List.length_cons, h ρ r e2]
    | exc _ => rw [e2] at e; cases e
    | stuck => rw [e2] at e; cases e
  | exc _ => rw [e1] at e; cases e
  | stuck => rw [e1] at e; cases e
theorem rD_len {i : Nat} (h : ArLen ra n) : ArLen (rD i ra) (n + 1) := fun ρ ss e => by
  unfold rD at e
  cases e1 : dVar i ρ with
  | ok d =>
    rw [e1] at e
    cases e2 : ra ρ with
    | ok r => rw [e2] at e; cases e; rw [List.length_cons, h ρ r e2]
    | exc _ => rw [e2] at e; cases e
    | stuck => rw [e2] at e; cases e
  | exc _ => rw [e1] at e; cases e
  | stuck => rw [e1] at e; cases e
/-! ### texts -/
theorem v_startswith (ha : PE X a (tV X.K C f)) (hb : PE X b (tV X.K C g)) (hs : starEach [b] X.env = [(false, eval b X.env)] := by rfl) (hbase : attributeBase a "startswith" X.env (eval a X.env) = eval a X.env := by rfl) (hline : (apos.endLine == pos.line) = true := by rfl) :
    PE X (.Call (.Attribute a "startswith" apos) [b] [] pos) (tV X.K C (eStarts f g)) := pe_imp (pe_m1 PySem.F.slot_str_startswith PySem.F.type_str_startswith mt_startswith ha hb hs hbase hline) fun σ H Q ⟨O, ρ, R, q⟩ => by
  refine ⟨O, ρ, R, (Fin.bind q).imp fun d _ q1 v H1 x1 p1 => ?_⟩
  cases d with
  | str z =>
    refine ⟨⟨z, dp_str p1⟩, O, ρ, R.grow x1, ((Fin.bind (show Fin C σ H ((g ρ).bind (stOf z)) _ from q1)).grow x1).imp fun e _ q2 u H2 x2 p2 => ?_⟩
    cases e with
    | str y => exact ⟨z, y, dp_str p1, by rw [dp_str p2], (show ∀ v H', Gx C.T H H' → Dp X.K (hid O H') v (.bool (Txt.startswith z y)) → Q v H' from q2) _ H2 (x1.trans x2) (.bl _)⟩
    | _ => exact q2.elim
  | _ => exact q1.elim
end
/-- an exception's class stands for its name -/
def cvOf (mg : Str → Option Value) (n : String) : Value := (mg (Str.ofString n)).getD .none
theorem cv_of {mg : Str → Option Value} {n : String} {v : Value} (h : mg (Str.ofString n) = some v) : cvOf mg n = v := by
  unfold cvOf
  rw [h]
  rfl
/-- an own exception class -/
structure XCls (K : PySem.W.Frag) (mg : Str → Option Value) (n : String) (C : Addr) : Prop where
  g : mg (Str.ofString n) = some (.ref C)
  x : PySem.W.excIn K C [.type "ValueError", .type "Exception", .type "BaseException", .type "object"] "ValueError.__new__" = true
  k : PySem.W.keepIn K (.ref C) = true
  b : PySem.W.subIn K (.ref C) (.type "BaseException") = some true
  t : PySem.W.typeIn K (.ref C) = some (.type "type")
section
variable {X : Cx} {C : PC} {pos p1 p2 apos : Pos}
theorem s_raiseC {n : String} {x m : Str} {A : Addr} {j : Nat} (c : XCls X.K X.mg n A) (hx : x = Str.ofString n) (hcv : C.cv = cvOf X.mg) (hc : X.calm = true) (tk : Takes X C.W) (hg : Gl X x)
    (hdb : (x == ("__debug__" : Str)) = false := by decide) : PS X (.Raise (some (.Call (.Name x p1) [.Constant (.str m) j p2] [] apos)) none pos) (tS X.K C (sRaise n)) := by
  subst hx
  exact s_raise hc tk PySem.F.excBase_ValueError c.x c.g c.k (raises_own c.b c.t) hg (by rw [hcv]; exact cv_of c.g) hdb
end
end PL

/-! PLB: further rules: several targets, pop, recursion. -/
namespace PL
open PySem L2
section
variable {X : Cx} {C : PC} {a b c e k : Expr} {f g h : VE} {l m : LE} {pos p1 p2 apos cpos : Pos} {fs : List VE} {es : List Expr} {ra : AE} {n : Nat}
theorem tg_trip {K : PySem.W.Frag} {sg : Bool} (i j k : Nat) : TgOk sg K C (gTup K 3 (gCons (gName i) (gCons (gName j) (gCons (gName k) gNil)))) (tgT i j k) [i, j, k] := fun v d O H σ ρ ρ' Q R p e kk => by
  unfold tgT at e
  split at e
  · rename_i x y z
    cases e
    obtain ⟨a, vs, rfl, s, al⟩ := DpB.tup p
    cases al with
    | cons h1 t =>
      cases t with
      | cons h2 t =>
        cases t with
        | cons h3 t =>
          cases t
          exact ⟨a, _, rfl, s, rfl, _, _, rfl, _, _, rfl, _, _, rfl, rfl, kk _ (((R.set h1).set h2).set h3) fun ws hw => by
            rw [wipe_set (hw k (List.mem_cons_of_mem _ (List.mem_cons_of_mem _ List.mem_cons_self))), wipe_set (hw j (List.mem_cons_of_mem _ List.mem_cons_self)), wipe_set (hw i List.mem_cons_self)]⟩
  · cases e
/-- (a, b, ..) = x.pop() -/
theorem s_popT (i : Nat) {y : Str} {np : Pos} {tg : Expr} {gt : TG} {tgt : TGT} {ts : List Nat} (ht : TgOk true X.K C gt tgt ts) (hg : PG X tg gt) (hN : X.N[i]? = some y := by rfl) (hv : Vis X.env.scope y := by first | exact Or.inl rfl | exact Or.inr (Or.inl rfl) | exact Or.inr (Or.inr rfl)) (hd : (y == ("__debug__" : Str)) = false := by decide)
    (hcd : (y == ("__classdict__" : Str)) = false := by decide)
    (hbase : attributeBase (.Name y np) "pop" X.env (eval (.Name y np) X.env) = eval (.Name y np) X.env := by rfl)
    (hline : (apos.endLine == cpos.line) = true := by rfl)
    (hs : swapsWithSole [tg] (.Call (.Attribute (.Name y np) "pop" apos) [] [] cpos) pos.line X.env = pure false := by rfl) (hw : swappedStores [tg] (.Call (.Attribute (.Name y np) "pop" apos) [] [] cpos) X.env = pure none := by rfl)
    (h1 : (assignEach [tg] X.env).map (·.2) = [assign tg X.env] := by rfl) :
    PS X (.Assign [tg] (.Call (.Attribute (.Name y np) "pop" apos) [] [] cpos) pos) (tS X.K C (sPopT i tgt)) :=
  ps_imp (ps_asg (pe_bm0 PySem.F.plainAttrs_list PySem.F.slot_list_pop PySem.F.type_list_pop mt_pop (pe_var (i := i) hN hv hd hcd) hbase hline) hg hs hw h1) fun D σ H ⟨O, ρ, R, q⟩ => by
  unfold sPopT at q
  split at q
  · rename_i ds hi
    obtain ⟨p, vs, h1, h2, h3, h4, h5⟩ := R.own hi
    cases he : ds[ds.length - 1]? with
    | none => rw [he] at q; exact q.elim
    | some d =>
      rw [he] at q
      obtain ⟨v, e1, e2⟩ := h5.get he
      have hl := h5.len
      have h6 : DpAll X.K (hid O H) vs.dropLast ds.dropLast := by
        rw [List.dropLast_eq_take, List.dropLast_eq_take, hl]
        exact h5.take _
      have R2 := R.put (vs' := vs.dropLast) hi h1 h6
      have hh : hid O (upd H p (.lst vs.dropLast)) = hid O H := hid_upd h2
      dsimp only at q
      cases ht2 : tgt d (ρ.set i (some (.ow ds.dropLast))) with
      | none => rw [ht2] at q; exact q.elim
      | some ρ' =>
        rw [ht2] at q
        refine ⟨.ref p, h1, .inl ⟨rfl, _, SqL.of h4⟩, p, vs, v, rfl, rfl, h4, by rw [hl]; exact e1, ?_⟩
        refine ht v d O _ σ _ ρ' _ R2 (.inl (by rw [hh]; exact e2)) ht2 fun σ' R' _ => q σ' O _ R' ?_
        rw [hh]
        exact Ex.refl _
  · exact q.elim
/-- a, b = x, y -/
theorem s_par {i j : Nat} {x y : Str} {px py pt : Pos} {kt k2 : Nat} {pt2 : Pos} (hc : X.calm = true) (hN : X.N.Nodup) (hi : X.N[i]? = some x) (hj : X.N[j]? = some y) (hij : i ≠ j)
    (hx : X.env.scope.names.lookup x = some .local) (hy : X.env.scope.names.lookup y = some .local) (ha : PE X a (tV X.K C f)) (hb : PE X b (tV X.K C g))
    (hw : swappedStores [.Tuple [.Name x px, .Name y py] kt pt] (.Tuple [a, b] k2 pt2) X.env = pure (some [x, y]))
    (hs : swapsWithSole [.Tuple [.Name x px, .Name y py] kt pt] (.Tuple [a, b] k2 pt2) pos.line X.env = pure false := by rfl)
    (hs1 : starEach [a, b] X.env = (false, eval a X.env) :: starEach [b] X.env := by rfl) (hs2 : starEach [b] X.env = (false, eval b X.env) :: starEach [] X.env := by rfl) :
    PS X (.Assign [.Tuple [.Name x px, .Name y py] kt pt] (.Tuple [a, b] k2 pt2) pos) (tS X.K C (sPar i j f g)) :=
  ps_imp (ps_par hc hN hi hj hij hx hy (pa_cons ha (pa_cons hb pa_nil hs2) hs1) hw hs) fun D σ H ⟨O, ρ, R, q⟩ => by
  refine ⟨O, ρ, R, Post.fin R q fun d _ k v H1 x1 p1 => ?_⟩
  refine ⟨O, ρ, R.grow x1, Post.fin (R.grow x1) (Post.grow k (hid_mono x1)) fun e _ k2 w H2 x2 p2 => ?_⟩
  exact ⟨v, w, rfl, k2 _ O H2 (((R.grow x1).grow x2).set (Dp.mono (hid_mono x2) p1) |>.set p2) (hid_mono x2)⟩
end
section
variable {P : Program} {w : World} {K : PySem.W.Frag} {mg : Str → Option Value} {base : Heap} {tb : List (Addr × Str)} {cv : String → Value}
/-- a def of which nothing is promised -/
theorem Dfn.void {x qual : Str} {st : Stmt} {f : Addr} {fd : FuncData} {ps : List Str} (F : Fun K x qual st f fd) (hmg : mg x = some (.ref f)) (hb : Binds K fd ps []) (k n : Nat) : Dfn P w K mg base tb cv k x n (fun _ => .stuck) :=
  ⟨f, fd, ps, ⟨fun _ _ _ _ ⟨_, _, _, _, _, _, q⟩ => q.elim, fun _ _ _ _ _ _ _ _ _ _ _ _ _ ⟨_, _, _, _, _, _, q⟩ => q.elim⟩, hmg, F.kp, hb⟩
end
end PL

/-! PLC: sorted by a key. -/
namespace PL
open PySem L2 PySem.Calls PyProof.Rows
/-- f(p) where f's body is: return p[0] -/
theorem item0_pure {P : Program} {w : World} {K : PySem.W.Frag} {A : Around} {s : Shared} {E : Value → Shared → Prop} {x y : Str} {st : Stmt} {f t : Addr} {fd : FuncData} {p1 p2 p3 p4 : Pos} {j : Nat} {its : Array Value} {i : Int} {u : Tok}
    (F : Fun K x x st f fd) (hb : defBody st = [.Return (some (.Subscript (.Name y p1) (.Constant (.int 0) j p2) p3)) p4])
    (hbd : ∀ (kV doc pm : Value) (an : Option Addr) (cdv ct v : Value), bindArgs (PySem.W.fnOf x x (defArgs st) (defBody st) (defScope st) .none kV doc pm an cdv ct) ⟨[v], []⟩ = pure [(y, v)])
    (hk : (defScope st).names.lookup y = some .local) (hco : (defScope st).isCoroutine = false) (hgen : (defScope st).isGenerator = false) (hsk : (defScope st).kind = .function)
    (hdep : A.depth < recursionLimit) (KX : K.In s.heap) (lim : s.heap.NoLimit) (ht : IsTup s.heap t its) (hi : its[0]? = some (.int i u)) (hd : (y == ("__debug__" : Str)) = false) :
    wpAny (model P w) A (call (.ref f) [.ref t]) (PySem.W.KeyPure (.int i) s) E s := by
  refine wpAny_call ?_
  obtain ⟨oc, od, kV, doc, pm, an, cdv, ct, osl, rfl, lk, hcd⟩ := F.ex
  refine codeAny_call_cells (binds := [(y, .ref t)]) (body := defBody st) hdep (KX _ _ lk) rfl lim (PySem.W.codeRec_of KX hcd) rfl (hbd ..) rfl (fun z hz => ?_) (fun s1 X => ?_) hco hgen hsk
  · cases List.mem_singleton.mp hz
    exact .inl hk
  · obtain ⟨h', tk, rfl, keep⟩ := X.done
    rw [hb]
    refine wpAny_execs_cons (wpAny_Return_some ?_)
    refine Subscript_ ?_
    have hm : bindL (callEnvC (PySem.W.fnOf x x (defArgs st) [.Return (some (.Subscript (.Name y p1) (.Constant (.int 0) j p2) p3)) p4] (defScope st) .none kV doc pm an cdv ct) s.heap.objs.size f).kindOf [(y, Value.ref t)] (fun _ => none) y = some (.ref t) :=
      bindL_get (P := [y]) (vs := [.ref t]) (i := 0) (List.nodup_cons.mpr ⟨List.not_mem_nil, List.nodup_nil⟩) rfl rfl hk
    rw [hb] at X
    refine wpAny_Name (wpAny_loadName_local hsk hk X.toInCall.ns hm ?_) hd
    refine wpAny_Constant_int ?_
    have ht' : IsTup h' t its := by
      obtain ⟨o, e, c⟩ := ht
      exact ⟨o, keep _ _ e, c⟩
    have hsz : 0 < its.size := by
      by_cases z : 0 < its.size
      · exact z
      · rw [Array.getElem?_eq_none (by omega)] at hi
        cases hi
    refine subscriptTail_builtinR (x := .int i u) ht'.typeIs slot_tuple_getitem.lookup (getItem_tuple (j := 0) (Q := fun r s' => r = .int i u ∧ _) ht' (by omega) (by omega) ?_ hi ⟨rfl, ?_⟩) rfl
    · have hz : (0 : Int) < (its.size : Int) := by exact_mod_cast hsz
      simp [seqIndex?, hsz]
    · exact ⟨h', _, rfl, keep, .int i u⟩
/-- a def that serves as a key: it gives a tuple's first whole number -/
structure KeyF (P : Program) (w : World) (K : PySem.W.Frag) (mg : Str → Option Value) (x : Str) : Prop where
  ex : ∃ f : Addr, mg x = some (.ref f) ∧ ∀ (A : Around) (s : Shared) (E : Value → Shared → Prop) (t : Addr) (its : Array Value) (i : Int) (u : Tok), A.depth < recursionLimit → K.In s.heap → s.heap.NoLimit → IsTup s.heap t its → its[0]? = some (.int i u) →
    wpAny (model P w) A (call (.ref f) [.ref t]) (PySem.W.KeyPure (.int i) s) E s
def rSortBy (K : PySem.W.Frag) (f : Addr) : List V → List V → Hp → VK → Prop := fun vs zs H Q => ∃ (a : Addr) (bs : List (V × Int)), vs = [.ref a] ∧ zs = [.ref f] ∧ SqL K H a (bs.map (·.1)) ∧
  (∀ b ∈ bs, ∃ t ys, b.1 = .ref t ∧ SqT K H t ys ∧ ys[0]? = some (.int b.2)) ∧ ∀ p, H p = none → Q (.ref p) (upd H p (.lst ((bs.mergeSort fun x y => decide (x.2 ≤ y.2)).map (·.1))))
theorem each_vals {R : Value → V × Int → Prop} (hR : ∀ v b, R v b ↔ RelV b.1 v) : ∀ {us : List Value} {bs : List (V × Int)}, Vals (bs.map (·.1)) us → PySem.W.EachIs R us bs
  | [], [], _ => .nil
  | u :: us, [], h => by cases h
  | [], b :: bs, h => by cases h
  | u :: us, b :: bs, h => by
    cases h with
    | cons h t => exact .cons ((hR _ _).mpr h) (each_vals hR t)
theorem vals_each {R : Value → V × Int → Prop} (hR : ∀ v b, R v b ↔ RelV b.1 v) : ∀ {us : List Value} {bs : List (V × Int)}, PySem.W.EachIs R us bs → Vals (bs.map (·.1)) us
  | _, _, .nil => .nil
  | _, _, .cons h t => .cons ((hR _ _).mp h) (vals_each hR t)
theorem cr_sortBy {X : Cx} {f : Addr} (hu : X.A.units + 64 < cLine) (hdp : X.A.depth + 5 < recursionLimit)
    (hf : ∀ (A : Around) (s : Shared) (E : Value → Shared → Prop) (t : Addr) (its : Array Value) (i : Int) (u : Tok), A.depth < recursionLimit → X.K.In s.heap → s.heap.NoLimit → IsTup s.heap t its → its[0]? = some (.int i u) →
      wpAny (model X.prog X.w) A (call (.ref f) [.ref t]) (PySem.W.KeyPure (.int i) s) E s) : CallRK X (.builtin "sorted") [Str.ofString "key"] (rSortBy X.K f) := by
  intro pins s σ H vs zs us ws Q I r rz h
  obtain ⟨a, bs, rfl, rfl, hs, hb, q⟩ := h
  obtain rfl := Vals.ref1 r
  obtain ⟨w1, rfl, e1⟩ := vals1 rz
  obtain rfl : w1 = Value.ref f := e1
  obtain ⟨its, rv, hl, hz⟩ := I.list hs
  have hzl : bs.length ≤ sizeLine := by rw [List.length_map] at hz; exact hz
  have hk : PySem.W.dataLe false (fun b : V × Int => PyData.int b.2) = fun x y => decide (x.2 ≤ y.2) := PySem.W.dataLe_int (fun b : V × Int => b.2)
  refine PySem.W.sorted_key_data (R := fun v (b : V × Int) => RelV b.1 v) (b := false) (fun b : V × Int => PyData.int b.2) hl.isList (each_vals (fun _ _ => Iff.rfl) rv) ?_ ?_ hzl (fun x _ => ?_) (ksk_s1 _ _) (fun _ => ksk_l1 _ _) (fun x => ksk_t1 f x) (fun v x hv hx h1 tk keep => ?_) (fun out c h' tk keep hn he hlen ho => ?_)
  · intro d hd d' hd'
    obtain ⟨x, _, rfl⟩ := List.mem_map.mp hd
    obtain ⟨y, _, rfl⟩ := List.mem_map.mp hd'
    rfl
  · refine .inr fun d hd => ?_
    obtain ⟨x, _, rfl⟩ := List.mem_map.mp hd
    exact ⟨nofun, nofun⟩
  · show X.A.units + 2 + 0 < cLine
    omega
  · obtain ⟨t, ys, e1, h2, h3⟩ := hb x hx
    rw [e1] at hv
    cases hv
    obtain ⟨its2, rv2, ht, _⟩ := I.tuple h2
    obtain ⟨u, hu1, hu2⟩ := rv2.get h3
    obtain ⟨tk2, rfl⟩ := hu2
    have ht' : IsTup h1 t its2.toArray := by
      obtain ⟨o, e, c⟩ := ht
      exact ⟨o, keep _ _ e, c⟩
    exact hf X.A.in1.in1 { s with heap := h1, toks := tk } _ t its2.toArray x.2 tk2 (by show X.A.depth < _; omega) (I.kIn.keeps keep) (I.nolimit.keeps keep) ht' (by simpa using hu1)
  · rw [hk] at ho
    have hlen2 : ((bs.mergeSort fun x y => decide (x.2 ≤ y.2)).map (·.1)).length ≤ sizeLine := by rw [List.length_map, List.length_mergeSort]; exact hzl
    exact ⟨.ref _, upd H (s.heap.objs.size + 1) (.lst ((bs.mergeSort fun x y => decide (x.2 ≤ y.2)).map (·.1))), I.laid (t' := tk) keep (Nat.le_succ _) ⟨hlen2, _, c, vals_each (fun _ _ => Iff.rfl) ho, he⟩, rfl, q _ (I.hok.fresh (Nat.le_succ _))⟩
theorem dpAll_pairs {K : PySem.W.Frag} {G : Hp} : ∀ {vs : List V} {ds : List PyData}, DpAll K G vs ds → ∀ p ∈ vs.zip ds, Dp K G p.1 p.2
  | _, _, .nil, p, h => by cases h
  | _, _, .cons h t, p, hp => by
    rw [List.zip_cons_cons] at hp
    rcases List.mem_cons.mp hp with rfl | hp
    · exact h
    · exact dpAll_pairs t p hp
theorem dpAll_of_pairs {K : PySem.W.Frag} {G : Hp} : ∀ (bs : List (V × PyData)), (∀ p ∈ bs, Dp K G p.1 p.2) → DpAll K G (bs.map (·.1)) (bs.map (·.2))
  | [], _ => .nil
  | b :: bs, h => .cons (h b List.mem_cons_self) (dpAll_of_pairs bs fun p hp => h p (List.mem_cons_of_mem _ hp))
theorem zip_fst {α β : Type} : ∀ {as : List α} {bs : List β}, as.length = bs.length → (as.zip bs).map (·.1) = as
  | [], [], _ => rfl
  | a :: as, b :: bs, h => by rw [List.zip_cons_cons, List.map_cons, zip_fst (by simpa using h)]
  | [], _ :: _, h => by simp at h
  | _ :: _, [], h => by simp at h
theorem zip_snd {α β : Type} : ∀ {as : List α} {bs : List β}, as.length = bs.length → (as.zip bs).map (·.2) = bs
  | [], [], _ => rfl
  | a :: as, b :: bs, h => by rw [List.zip_cons_cons, List.map_cons, zip_snd (by simpa using h)]
  | [], _ :: _, h => by simp at h
  | _ :: _, [], h => by simp at h
section
variable {X : Cx} {C : PC} {a : Expr} {l : LE} {pos p1 p2 kp : Pos}
theorem f_sortK {x nm : Str} (D : KeyF X.prog X.w X.K X.mg x) (hr : Room 1 X.A) (hg : Gl X "sorted") (hm : X.mg "sorted" = none) (hgx : Gl X x) (ha : PE X a (tL X.K C l)) (hdx : (x == ("__debug__" : Str)) = false := by decide)
    (he : backTo pos (starEach [a] X.env) = (false, eval a X.env) :: backTo pos (starEach [] X.env) := by rfl) (hpl : (backTo pos (starEach [a] X.env)).any (·.1) = false := by rfl)
    (hsa : starEach [a] X.env = (false, eval a X.env) :: starEach [] X.env := by rfl)
    (hall : (backToKw pos (keywordEach [⟨nm, .Name x p2, kp⟩] X.env)).all (·.1.isSome) = true := by rfl) (hnone : (backToKw pos (keywordEach [⟨nm, .Name x p2, kp⟩] X.env)).any (·.1.isNone) = false := by rfl) (hks : (backToKw pos (keywordEach [⟨nm, .Name x p2, kp⟩] X.env)).filterMap (·.1) = [Str.ofString "key"] := by rfl) :
    PE X (.Call (.Name "sorted" p1) [a] [⟨nm, .Name x p2, kp⟩] pos) (tF X.K C (lSortK l)) := by
  obtain ⟨f, hmx, hf⟩ := D.ex
  refine pe_imp (pe_callBK (cr_sortBy (f := f) hr.units (by have := hr.dp; omega) hf) hg hm (by rfl) (pa_cons ha pa_nil hsa) (pk_cons (pe_glob (v := .ref f) hgx hmx rfl hdx) pk_nil) (by decide) (by decide) he hpl hall hnone hks) fun σ H Q ⟨O, ρ, R, q⟩ => ?_
  refine ⟨O, ρ, R, (Fin.bind q).imp fun ds _ q1 p vs H1 x1 s1 a1 => ?_⟩
  by_cases hc : ds.all (fun d => (headI d).isSome) = true
  · rw [if_pos hc] at q1
    have hl := a1.len
    have hall := List.all_eq_true.mp hc
    have hz1 := zip_fst hl
    have hz2 := zip_snd hl
    have hpr := dpAll_pairs a1
    have hbs : ((vs.zip ds).map fun q => (q.1, (headI q.2).getD 0)).map (·.1) = vs := by
      rw [List.map_map]
      exact hz1
    have e1 : ((vs.zip ds).map fun q => (q.1, (headI q.2).getD 0)).mergeSort (fun x y => decide (x.2 ≤ y.2)) = ((vs.zip ds).mergeSort fun x y => leK x.2 y.2).map fun q => (q.1, (headI q.2).getD 0) :=
      (List.map_mergeSort (f := fun q : V × PyData => (q.1, (headI q.2).getD 0)) (r := fun x y => leK x.2 y.2) (s := fun x y : V × Int => decide (x.2 ≤ y.2)) (fun _ _ _ _ => rfl)).symm
    have e2 : ds.mergeSort leK = ((vs.zip ds).mergeSort fun x y => leK x.2 y.2).map (·.2) := by
      conv => lhs; rw [← hz2]
      exact (List.map_mergeSort (f := fun q : V × PyData => q.2) (r := fun x y => leK x.2 y.2) (s := leK) (fun _ _ _ _ => rfl)).symm
    refine ⟨p, (vs.zip ds).map fun q => (q.1, (headI q.2).getD 0), rfl, rfl, by rw [hbs]; exact s1, fun b hb => ?_, fun r nr => ?_⟩
    · obtain ⟨q, hq, rfl⟩ := List.mem_map.mp hb
      have h1 := hpr q hq
      have h2 := hall q.2 (List.of_mem_zip hq).2
      obtain ⟨v, d⟩ := q
      dsimp only at h1 h2 ⊢
      unfold headI at h2 ⊢
      split at h2
      · obtain ⟨t, ys, rfl, hs, al⟩ := dp_tup h1
        cases al with
        | cons hh ht =>
          have hv := dp_int hh
          subst hv
          exact ⟨t, _, rfl, ex_t hid_ex hs, rfl⟩
      · cases h2
    · rw [e1, List.map_map]
      have hk : DpAll X.K (hid O H1) (((vs.zip ds).mergeSort fun x y => leK x.2 y.2).map (·.1)) (ds.mergeSort leK) := by
        rw [e2]
        exact dpAll_of_pairs _ fun q hq => hpr q ((List.mergeSort_perm _ _).mem_iff.mp hq)
      exact (show ∀ p vs H', Gx C.T H H' → H p = none → H' p = some (.lst vs) → DpAll X.K (hid (p :: O) H') vs (ds.mergeSort leK) → Q (.ref p) H' from q1) r _ _ (x1.trans (Gx.new nr)) (fresh_back x1 nr) upd_same (DpAll.mono (hid_new nr) hk)
  · rw [if_neg hc] at q1
    exact q1.elim
end
/-- sorted(t), t a tuple of whole numbers -/
theorem sorted_tup {prog : Program} {w : World} {A : Around} {E : Value → Shared → Prop} {s : Shared} {t : Addr} {vs : List Value} {ns : List Int} {Q : Value → Shared → Prop} (ht : IsTup s.heap t vs.toArray) (hz : vs.length ≤ sizeLine) (hI : IntsAre vs ns)
    (h : ∀ (h1 h' : Heap) (out : List Value) (ns' : List Int) (ep : Nat), (∀ b o, s.heap.get? b = some o → h1.get? b = some o) → (∀ b o, h1.get? b = some o → h'.get? b = some o) → h'.get? h1.objs.size = some (seqObj "list" out.toArray ep) → IntsAre out ns' → ns'.Perm ns → ns'.Pairwise (· ≤ ·) → Q (.ref h1.objs.size) { s with heap := h' }) :
    wpAny (model prog w) A (call (.builtin "sorted") [.ref t]) Q E s := by
  obtain ⟨o, ho, hc, n, hd⟩ := ht
  refine call_function_entry_kw (kw := []) kind_sorted plain_sorted entry_sorted (args_sorted1 _) ?_
  unfold Builtin.«sorted»
  refine wpAny_bind (m := checkCount "sorted" 1 1 _) (wpAny_pure ?_)
  refine wpAny_bind (wpAny_collect_seq t (.inr rfl) ho hc hd (fun h1 keep => ?_) (by rw [List.size_toArray]; exact hz))
  refine wpAny_bind (wpAny_newList ?_ hz)
  have hoL : (h1.push (seqObj "list" vs.toArray 0)).get? h1.objs.size = some (seqObj "list" vs.toArray 0) := Heap.get?_push_size _ rfl
  refine wpAny_bind (wpAny_holding (wpAny_call_entry_kw slot_list_sort ⟨_, hoL, rfl⟩ entry_list_sort ?_ (args_list_sort _)))
  rw [PySem.W.plain_is_rev]
  refine SrtR.list_sort_ordR SrtO.swo_int (s := { s with heap := h1.push (seqObj "list" vs.toArray 0) }) hoL hz (fun h2 => SrtO.ints_sortable hI h2) fun out k1 k2 => ⟨_, rfl, ?_⟩
  obtain ⟨ns', i1, i2, i3⟩ := SrtR.ints_outR hI k1 k2
  obtain ⟨ep, he⟩ := sortedHeap_at (vs := vs) (out := (if false = true then out.toArray.reverse else out.toArray)) hoL
  have he' : (sortedHeap (h1.push (seqObj "list" vs.toArray 0)) h1.objs.size vs (if false = true then out.toArray.reverse else out.toArray)).get? h1.objs.size = some (seqObj "list" out.toArray ep) := he
  refine wpAny_pure ⟨_, rfl, h h1 _ out ns' ep keep (fun b o' q => ?_) he' (by simpa using i1) i2 i3⟩
  have hb : b < h1.objs.size := Heap.lt_size q
  show (sortedHeap (h1.push (seqObj "list" vs.toArray 0)) h1.objs.size vs _).get? b = some o'
  rw [sortedHeap_old (Nat.ne_of_lt hb) (by rw [size_push']; exact Nat.lt_succ_of_lt hb)]
  exact Heap.get?_push_of_some _ q
def rSortT (K : PySem.W.Frag) : List V → Hp → VK → Prop := fun vs H Q => ∃ (t : Addr) (ns : List Int), vs = [.ref t] ∧ SqT K H t (ns.map V.int) ∧ ∀ p, H p = none → Q (.ref p) (upd H p (.lst ((ns.mergeSort leI).map V.int)))
theorem leI_sort {ns ns' : List Int} (hp : ns'.Perm ns) (hs : ns'.Pairwise (· ≤ ·)) : ns' = ns.mergeSort leI := by
  have h1 : (ns.mergeSort leI).Pairwise (fun a b => leI a b = true) := List.pairwise_mergeSort (fun a b c h1 h2 => by
    unfold leI at *
    rw [decide_eq_true_iff] at *
    omega) (fun a b => by
    unfold leI
    rw [Bool.or_eq_true, decide_eq_true_iff, decide_eq_true_iff]
    omega) ns
  refine List.Perm.eq_of_pairwise (le := fun a b : Int => a ≤ b) (fun a b _ _ h1 h2 => by omega) hs (h1.imp fun h => of_decide_eq_true h) (hp.trans (List.mergeSort_perm ns leI).symm)
theorem cr_sortT {X : Cx} : CallR X (.builtin "sorted") (rSortT X.K) := by
  intro pins s σ H vs us Q I r h
  obtain ⟨t, ns, rfl, hs, q⟩ := h
  obtain rfl := Vals.ref1 r
  obtain ⟨its, rv, ht, hz⟩ := I.tuple hs
  have hi := rv.ints
  refine sorted_tup (vs := its) ht (by rw [← rv.length]; exact hz) hi fun h1 h' out ns' ep k1 k2 he i1 i2 i3 => ?_
  have e := leI_sort i2 i3
  subst e
  have I1 : Inv X pins σ H { s with heap := h1 } := I.kept (t' := s.toks) k1
  have hlen : ((ns.mergeSort leI).map V.int).length ≤ sizeLine := by
    rw [List.length_map, List.length_mergeSort]
    rw [List.length_map] at hz
    exact hz
  exact ⟨.ref _, upd H h1.objs.size (.lst ((ns.mergeSort leI).map V.int)), I1.laid (t' := s.toks) k2 (Nat.le_refl _) ⟨hlen, out, ep, vals_of_ints i1, he⟩, rfl, q _ (I1.hok.fresh (Nat.le_refl _))⟩
theorem dpAll_intsT {K : PySem.W.Frag} {G : Hp} : ∀ {vs : List V} {ds : List PyData} {ns : List Int}, DpAll K G vs ds → asIntsT ds = some ns → vs = ns.map V.int
  | _, [], ns, h, e => by
    have : ns = [] := by simpa [asIntsT] using e.symm
    subst this
    cases h
    rfl
  | v :: vs, d :: ds, ns, h, e => by
    cases h with
    | cons h t =>
      unfold asIntsT at e
      rw [List.mapM_cons] at e
      cases d with
      | int i =>
        cases q : asIntsT ds with
        | none =>
          unfold asIntsT at q
          rw [q] at e
          simp at e
        | some ms =>
          have ih := dpAll_intsT t q
          unfold asIntsT at q
          rw [q] at e
          have e' : i :: ms = ns := by simpa using e
          subst e'
          rw [ih, dp_int h, List.map_cons]
      | _ => simp at e
section
variable {X : Cx} {C : PC} {a : Expr} {f : VE} {pos p1 : Pos}
theorem dpAll_mkInts {K : PySem.W.Frag} {G : Hp} : ∀ ns : List Int, DpAll K G (ns.map V.int) (ns.map PyData.int)
  | [] => .nil
  | n :: r => .cons (.int n) (dpAll_mkInts r)
theorem f_sortT (hg : Gl X "sorted") (hm : X.mg "sorted" = none) (ha : PE X a (tR X.K C f)) (hsa : starEach [a] X.env = (false, eval a X.env) :: starEach [] X.env := by rfl) :
    PE X (.Call (.Name "sorted" p1) [a] [] pos) (tF X.K C (lSortT f)) := pe_imp (pe_callB cr_sortT hg hm (by decide +kernel) (pa_cons ha pa_nil hsa) (by decide) (by decide) hsa (by rfl)) fun σ H Q ⟨O, ρ, R, q⟩ => by
  refine ⟨O, ρ, R, (Fin.bind q).imp fun d _ q1 v H1 x1 p1 => ?_⟩
  cases d with
  | tuple ds =>
    cases e : asIntsT ds with
    | none => simp only [e] at q1; exact q1.elim
    | some ns =>
      simp only [e] at q1
      obtain ⟨t, vs, rfl, s, al⟩ := dp_tup p1
      have hv := dpAll_intsT al e
      subst hv
      exact ⟨t, ns, rfl, s, fun r nr => (show ∀ p vs H', Gx C.T H H' → H p = none → H' p = some (.lst vs) → DpAll X.K (hid (p :: O) H') vs ((ns.mergeSort leI).map PyData.int) → Q (.ref p) H' from q1) r _ _ (x1.trans (Gx.new nr)) (fresh_back x1 nr) upd_same (dpAll_mkInts _)⟩
  | _ => exact q1.elim
end
section
variable {X : Cx} {C : PC} {e tg : Expr} {f : VE}
theorem itt_ok {K : PySem.W.Frag} {O : List Addr} {H : Hp} {p : Addr} {vs : List V} {ds : List PyData} (hs : ∀ O' H', Ex (hid O H) (hid O' H') → SqT K H' p vs) (al : DpAll K (hid O H) vs ds) : ItOk K C O H (Itt K p) ds := fun O' H' x _ _ i => by
  have s := hs O' H' x
  refine ⟨fun hi => ?_, fun hi => ⟨vs, s, by rw [al.len]; exact hi⟩⟩
  obtain ⟨v, h1, h2⟩ := al.get (List.getElem?_eq_getElem hi)
  refine ⟨⟨vs, v, s, h1⟩, fun y H3 hy => ?_⟩
  obtain ⟨rfl, hy⟩ := hy
  have e : y = v := Option.some.inj ((hy vs s).symm.trans h1)
  subst e
  exact ⟨Gx.refl _, _, List.getElem?_eq_getElem hi, Dp.mono x h2⟩
/-- a tuple is walked -/
theorem w_T (ha : PE X e (tV X.K C f)) : PI X tg e (tW X.K C (tOfV f)) := pi_imp (pi_tup ha) fun σ H R ⟨O, ρ, Rp, q⟩ => by
  refine ⟨O, ρ, Rp, (Fin.bind q).imp fun d _ q1 v H1 x1 p1 => ?_⟩
  cases d with
  | tuple ds =>
    obtain ⟨p, vs, rfl, s, al⟩ := dp_tup p1
    exact ⟨p, rfl, ⟨vs, ex_t hid_ex s⟩, (show ∀ J H', Gx C.T H H' → ItOk X.K C O H' J ds → R J H' from q1) _ H1 x1 (itt_ok (fun O' H' x => ex_t (x.trans hid_ex) s) al)⟩
  | _ => exact q1.elim
end
theorem foldl_max_mem : ∀ (r : List Int) (x : Int), r.foldl max x ∈ x :: r ∧ ∀ y ∈ x :: r, y ≤ r.foldl max x
  | [], x => ⟨List.mem_cons_self, fun y hy => by
    have : y = x := by simpa using hy
    subst this
    exact Int.le_refl _⟩
  | y :: r, x => by
    obtain ⟨h1, h2⟩ := foldl_max_mem r (max x y)
    rw [List.foldl_cons]
    refine ⟨?_, fun z hz => ?_⟩
    · rcases List.mem_cons.mp h1 with e | e
      · rw [e]
        rcases Int.le_total x y with h | h
        · rw [Int.max_eq_right h]; exact List.mem_cons_of_mem _ List.mem_cons_self
        · rw [Int.max_eq_left h]; exact List.mem_cons_self
      · exact List.mem_cons_of_mem _ (List.mem_cons_of_mem _ e)
    · have h0 := h2 (max x y) List.mem_cons_self
      rcases List.mem_cons.mp hz with rfl | hz
      · omega
      · rcases List.mem_cons.mp hz with rfl | hz
        · omega
        · exact h2 z (List.mem_cons_of_mem _ hz)
theorem most_is {ns : List Int} {m m' : Int} (h : mostOf ns = some m) (h1 : m' ∈ ns) (h2 : ∀ y ∈ ns, y ≤ m') : m' = m := by
  cases ns with
  | nil => cases h
  | cons x r =>
    cases h
    obtain ⟨a1, a2⟩ := foldl_max_mem r x
    have := h2 _ a1
    have := a2 _ h1
    omega
section
variable {X : Cx} {C : PC} {a : Expr} {l : LE} {pos p1 : Pos}
theorem v_maxL (hc : X.calm = true) (hg : Gl X "max") (hm : X.mg "max" = none) (ha : PE X a (tL X.K C l)) (he : starEach [a] X.env = (false, eval a X.env) :: starEach [] X.env := by rfl) :
    PE X (.Call (.Name "max" p1) [a] [] pos) (tV X.K C (eMaxL l)) := pe_imp (pe_callB (cr_max hc) hg hm (by decide +kernel) (pa_cons ha pa_nil he) (by decide) (by decide) he) fun σ H Q ⟨O, ρ, R, q⟩ => by
  refine ⟨O, ρ, R, (Fin.bind q).imp fun ds _ q1 p vs H1 x1 s1 a1 => ?_⟩
  cases z : asInts ds with
  | none => exact (show False from by simpa [Fin, z] using q1).elim
  | some ns =>
    cases z2 : mostOf ns with
    | none => exact (show False from by simpa [Fin, z, z2] using q1).elim
    | some m =>
      have q2 : ∀ v H', Gx C.T H H' → Dp X.K (hid O H') v (.int m) → Q v H' := by simpa [Fin, z, z2] using q1
      refine ⟨p, ns, rfl, ?_, ?_, fun m' hm1 hm2 => ?_⟩
      · rw [← a1.ints z]
        exact s1
      · cases ns with
        | nil => cases z2
        | cons x r => exact Nat.succ_pos _
      · rw [most_is z2 hm1 hm2]
        exact q2 _ H1 x1 (.int m)
end
section
variable {X : Cx} {C : PC} {a : Expr} {f : VE} {pos p1 p2 p3 : Pos}
theorem dp_rng {K : PySem.W.Frag} {G : Hp} (n : Nat) : DpAll K G (rgV 0 (n : Int)) (rngD 0 n 1) := by
  have : ∀ l : List Nat, DpAll K G (l.map fun (i : Nat) => V.int ((0 : Int) + (i : Nat))) (l.map fun (k : Nat) => PyData.int ((0 : Int) + (k : Nat) * 1)) := fun l => by
    induction l with
    | nil => exact .nil
    | cons x l ih =>
      refine .cons ?_ ih
      dsimp only
      rw [Int.mul_one]
      exact .int _
  unfold rgV rngD
  rw [show ((n : Int) - 0).toNat = n by omega]
  exact this _
theorem f_listRg (hc : X.calm = true) (hg : Gl X "list") (hm : X.mg "list" = none) (hg2 : Gl X "range") (hm2 : X.mg "range" = none) (ha : PE X a (tV X.K C f)) (na : starEach [a] X.env = (false, eval a X.env) :: starEach [] X.env := by rfl)
    (na2 : starEach [.Call (.Name "range" p2) [a] [] p3] X.env = (false, eval (.Call (.Name "range" p2) [a] [] p3) X.env) :: starEach [] X.env := by rfl) :
    PE X (.Call (.Name "list" p1) [.Call (.Name "range" p2) [a] [] p3] [] pos) (tF X.K C (lListRg f)) := pe_imp (pe_listRg hc hg hm (prg_1 hg2 hm2 ha na) na2) fun σ H Q ⟨O, ρ, R, q⟩ => by
  refine ⟨O, ρ, R, (Fin.bind q).imp fun d _ q1 v H1 x1 p1 => ?_⟩
  cases d with
  | int n =>
    by_cases hn : 0 ≤ n ∧ n ≤ 1000000
    · have q2 := q1
      simp only [if_pos hn] at q2
      refine ⟨n, dp_int p1, RgOk.of_le (by omega) (by omega) (by omega) (by omega), fun r nr => ?_⟩
      have hd : DpAll X.K (hid O H1) (rgV 0 n) (rngD 0 n.toNat 1) := by
        have := dp_rng (K := X.K) (G := hid O H1) n.toNat
        rw [show ((n.toNat : Nat) : Int) = n by omega] at this
        exact this
      exact (show ∀ p vs H', Gx C.T H H' → H p = none → H' p = some (.lst vs) → DpAll X.K (hid (p :: O) H') vs (rngD 0 n.toNat 1) → Q (.ref p) H' from q2) r _ _ (x1.trans (Gx.new nr)) (fresh_back x1 nr) upd_same (DpAll.mono (hid_new nr) hd)
    · have q2 := q1
      simp only [if_neg hn] at q2
      exact q2.elim
  | _ => exact q1.elim
end
end PL

/-! PLX: try .. except with a caught error; isinstance of it; a def that takes it. -/
namespace PL
open PySem PySem.Spec L2
/-! ### a pinned error -/
section
variable {X : Cx} {C : PC}
/-- a is a pinned error of the class n -/
def ExP (X : Cx) (a : Addr) (n : String) : Prop := ∃ oe D, (a, oe) ∈ X.pn ∧ X.mg (Str.ofString n) = some (.ref D) ∧ Zc (.ref D) none oe ∧ (∃ vs, oe.data = .fields vs)
theorem call_isP {a D : Addr} {oe : Obj} (hp : (a, oe) ∈ X.pn) (c : ExcC X.K D) (hz : Zc (.ref D) none oe) (hf : ∃ vs, oe.data = .fields vs) : CallR X (.builtin "isinstance") (rIsE X.K D a) := by
  intro pins s σ H xs us Q I r ⟨v, cv, b, e0, hcv, e1, q⟩
  subst e0
  match us, r with
  | [_, _], .cons ra (.cons rb .nil) =>
    cases ra
    cases hcv _ rb
    obtain ⟨vs, hv⟩ := hf
    have hget := (I.pin (a, oe) (List.mem_append_left _ hp)).1
    have inst : PySem.W.InstAt s.heap a oe D none := by
      rcases oe with ⟨o1, o2, o3, o4⟩
      rcases hz with ⟨h1, h2⟩
      dsimp only at h1 h2 hv
      rw [h1, h2, hv] at hget ⊢
      exact ⟨hget, rfl, rfl, trivial⟩
    exact PySem.W.kia_one (PySem.W.handS_kitx_exc c.hg c.hk c.hs c.hd c.ha c.hn c.ht c.hm) I.kIn inst e1 (fun z => nomatch z) fun tk => ⟨.bl b, H, I.kept (t' := tk) fun _ _ z => z, rfl, q⟩
/-- what T is to the eight -/
structure IsT (K : PySem.W.Frag) (mg : Str → Option Value) (T : String) : Prop where
  is : ∃ G, mg (Str.ofString T) = some (.ref G) ∧ ∀ n, n ∈ ex8 → ∀ D, mg (Str.ofString n) = some (.ref D) → PySem.W.kitOne K (.ref D) (.ref G) = some (decide (n = T))
/-- the eight themselves -/
structure Is8 (K : PySem.W.Frag) (mg : Str → Option Value) : Prop where
  is : ∀ n, n ∈ ex8 → ∃ D, mg (Str.ofString n) = some (.ref D) ∧ ExcC K D ∧ PySem.W.kitOne K (.ref D) (.type "ValueError") = some true
variable {pos p1 p2 p3 : Pos}
theorem er_at {K : PySem.W.Frag} {O : List Addr} {H : Hp} {σ : L2.St} {ρ : Env} (R : Rep K C O H σ ρ) {i : Nat} {n : String} (h : ρ[i]? = some (some (.er n))) : ∃ a, σ[i]? = some (some (.ref a)) ∧ C.EX a n := by
  obtain ⟨v, h1, a, rfl, h2⟩ := R.slot i _ h
  exact ⟨a, h1, h2⟩
def rIsX (X : Cx) : List V → Hp → VK → Prop := fun xs H Q => ∃ a D oe, (a, oe) ∈ X.pn ∧ ExcC X.K D ∧ Zc (.ref D) none oe ∧ (∃ vs, oe.data = .fields vs) ∧ rIsE X.K D a xs H Q
theorem call_isX : CallR X (.builtin "isinstance") (rIsX X) := fun pins s σ H xs us Q I r ⟨a, D, oe, h1, h2, h3, h4, h5⟩ => call_isP h1 h2 h3 h4 pins s σ H xs us Q I r h5
theorem v_isEx (i : Nat) {x : Str} {T : String} (h8 : Is8 X.K X.mg) (q : IsT X.K X.mg T) (hE : ∀ a n, C.EX a n → ExP X a n) (hgT : Gl X (Str.ofString T)) (hg : Gl X "isinstance") (hm : X.mg "isinstance" = none) (hT : T ∈ ex8 ∧ T ≠ "ValueError" := by decide) (hN : X.N[i]? = some x := by rfl) (hv : Vis X.env.scope x := by first | exact Or.inl rfl | exact Or.inr (Or.inl rfl) | exact Or.inr (Or.inr rfl)) (hd : (x == ("__debug__" : Str)) = false := by decide)
    (hcd : (x == ("__classdict__" : Str)) = false := by decide) (hdT : (Str.ofString T == ("__debug__" : Str)) = false := by decide) (he : starEach [.Name x p3, .Name (Str.ofString T) p1] X.env = (false, eval (.Name x p3) X.env) :: starEach [.Name (Str.ofString T) p1] X.env := by rfl) :
    PE X (.Call (.Name "isinstance" p2) [.Name x p3, .Name (Str.ofString T) p1] [] pos) (tV X.K C (eExIs i T)) := by
  obtain ⟨G, hG, hk⟩ := q.is
  refine pe_imp (pe_callB call_isX hg hm (by decide +kernel) (pa_cons (pe_var (i := i) hN hv hd hcd) (pa_cons (pe_glob (v := .ref G) hgT hG rfl hdT) pa_nil) he) (by decide) (by decide) he) fun σ H Q ⟨O, ρ, R, w⟩ => ?_
  unfold eExIs at w
  split at w
  · rename_i n e
    unfold exSub at w
    by_cases hn : n ∈ ex8
    · rw [if_pos hn, if_neg hT.2, if_pos hT.1] at w
      obtain ⟨a, h1, h2⟩ := er_at R e
      obtain ⟨oe, D, hp, hD, hz, hf⟩ := hE a n h2
      obtain ⟨D', hD', hc, _⟩ := h8.is n hn
      cases hD.symm.trans hD'
      exact ⟨_, h1, a, D, oe, hp, hc, hz, hf, .ref G, .ref G, _, rfl, fun u r => r, hk n hn D hD, w _ H (Gx.refl H) (.bl _)⟩
    · rw [if_neg hn] at w
      exact w.elim
  · exact w.elim
theorem v_isExV (i : Nat) {x : Str} (h8 : Is8 X.K X.mg) (hE : ∀ a n, C.EX a n → ExP X a n) (hgT : Gl X "ValueError") (hmT : X.mg "ValueError" = none) (hg : Gl X "isinstance") (hm : X.mg "isinstance" = none) (hN : X.N[i]? = some x := by rfl) (hv : Vis X.env.scope x := by first | exact Or.inl rfl | exact Or.inr (Or.inl rfl) | exact Or.inr (Or.inr rfl)) (hd : (x == ("__debug__" : Str)) = false := by decide)
    (hcd : (x == ("__classdict__" : Str)) = false := by decide) (he : starEach [.Name x p3, .Name "ValueError" p1] X.env = (false, eval (.Name x p3) X.env) :: starEach [.Name "ValueError" p1] X.env := by rfl) :
    PE X (.Call (.Name "isinstance" p2) [.Name x p3, .Name "ValueError" p1] [] pos) (tV X.K C (eExIs i "ValueError")) := by
  refine pe_imp (pe_callB call_isX hg hm (by decide +kernel) (pa_cons (pe_var (i := i) hN hv hd hcd) (pa_cons (pe_bltn (v := .ty "ValueError") hgT hmT (by decide +kernel) rfl (by decide) (by decide)) pa_nil) he) (by decide) (by decide) he) fun σ H Q ⟨O, ρ, R, w⟩ => ?_
  unfold eExIs at w
  split at w
  · rename_i n e
    unfold exSub at w
    by_cases hn : n ∈ ex8
    · rw [if_pos hn, if_pos rfl] at w
      obtain ⟨a, h1, h2⟩ := er_at R e
      obtain ⟨oe, D, hp, hD, hz, hf⟩ := hE a n h2
      obtain ⟨D', hD', hc, hk⟩ := h8.is n hn
      cases hD.symm.trans hD'
      exact ⟨_, h1, a, D, oe, hp, hc, hz, hf, .ty "ValueError", .type "ValueError", _, rfl, fun u r => r, hk, w _ H (Gx.refl H) (.bl _)⟩
    · rw [if_neg hn] at w
      exact w.elim
  · exact w.elim
end
/-! ### a def that takes a caught error -/
/-- what a def promises of a pinned error p -/
structure FnW (P : Program) (w : World) (K : PySem.W.Frag) (mg : Str → Option Value) (base : Heap) (k : Nat) (f : Addr) (fd : FuncData) (ps : List Str) (sp : Addr × Obj → List V → Hp → VK → Prop) : Prop where
  run : ∀ (p : Addr × Obj) (A : Around) (outer : List PySem.Env) (s : Shared) (H : Hp) (us : List Value) (vs : List V) (Q : VK), L2H.RoomH k A → L2H.PinOk outer H s p → Env0 P w K mg base A outer s H →
    BindsTo s fd ⟨us, []⟩ (ps.zip us) → Vals vs us → vs.length = ps.length → sp p vs H Q → codeAny (model P w) A (.call (.ref f) ⟨us, []⟩) (CR (L2.CX P w) outer P w H s Q (fun _ _ _ => False)) s
/-- p is a caught error of the class n -/
def PinE (mg : Str → Option Value) (p : Addr × Obj) (n : String) : Prop := ∃ D, mg (Str.ofString n) = some (.ref D) ∧ Zc (.ref D) none p.2 ∧ ∃ vs, p.2.data = .fields vs
def spE (K : PySem.W.Frag) (tb : List (Addr × Str)) (mg : Str → Option Value) (F : FN) (p : Addr × Obj) (vs : List V) (H : Hp) (Q : VK) : Prop := ∃ (n : String) (O : List Addr) (r : RV), vs = [.ref p.1] ∧ PinE mg p n ∧ LamX.Tabs tb H ∧ (∀ b ∈ O, H b ≠ none) ∧ F [.er n] = .ok r ∧ ∀ v H', Gx tb H H' → RetC K O H H' v r → Q v H'
structure DfnE (P : Program) (w : World) (K : PySem.W.Frag) (mg : Str → Option Value) (base : Heap) (tb : List (Addr × Str)) (k : Nat) (x : Str) (F : FN) : Prop where
  ex : ∃ (f : Addr) (fd : FuncData) (y : Str), FnW P w K mg base k f fd [y] (spE K tb mg F) ∧ mg x = some (.ref f) ∧ PySem.W.keepIn K (.ref f) = true ∧ Binds K fd [y] []
theorem DfnE.imp {P : Program} {w : World} {K : PySem.W.Frag} {mg : Str → Option Value} {base : Heap} {tb : List (Addr × Str)} {k : Nat} {x : Str} {F F' : FN} (D : DfnE P w K mg base tb k x F) (h : ∀ n r, F' [.er n] = .ok r → F [.er n] = .ok r) : DfnE P w K mg base tb k x F' := by
  obtain ⟨f, fd, y, F0, rest⟩ := D.ex
  refine ⟨f, fd, y, ⟨fun p A outer s H us vs Q h1 h2 h3 h4 h5 h6 ⟨n, O, r, g1, g2, g0, g3, g4, g5⟩ => F0.run p A outer s H us vs Q h1 h2 h3 h4 h5 h6 ⟨n, O, r, g1, g2, g0, g3, h n r g4, g5⟩⟩, rest⟩
section
variable {X : Cx} {C : PC} {pos p1 p2 p3 : Pos} {x y : Str} {F : FN} {k : Nat}
theorem cx_none {P : Program} {w : World} {outer : List PySem.Env} {H : Hp} {s : Shared} {u : Value} {s' : Shared} (h : L2.CX P w outer H s (fun _ _ _ => False) u s') : False := by
  obtain ⟨_, _, _, _, _, _, _, _, _, _, _, _, e⟩ := h
  exact e
/-- its call: the error stands in slot i -/
theorem x_callE (i : Nat) (D : DfnE X.prog X.w X.K X.mg X.base C.T k x F) (hr : L2H.RoomH k X.A) (hE : ∀ a n, C.EX a n → ExP X a n) (hg : Gl X x) (hN : X.N[i]? = some y := by rfl) (hv : Vis X.env.scope y := by first | exact Or.inl rfl | exact Or.inr (Or.inl rfl) | exact Or.inr (Or.inr rfl)) (hd : (y == ("__debug__" : Str)) = false := by decide)
    (hcd : (y == ("__classdict__" : Str)) = false := by decide) (hdb : (x == ("__debug__" : Str)) = false := by decide) (he : starEach [.Name y p2] X.env = (false, eval (.Name y p2) X.env) :: starEach [] X.env := by rfl) (hpl : (backTo pos (starEach [] X.env)).any (·.1) = false := by rfl) :
    PE X (.Call (.Name x p1) [.Name y p2] [] pos) (tX X.K C (xCallE F i)) := by
  obtain ⟨f, fd, yy, F0, hmg, hk, hb⟩ := D.ex
  refine ⟨fun pins s σ H Q I ⟨O, ρ, R, w⟩ => ?_⟩
  unfold xCallE at w
  split at w
  case h_2 => exact w.elim
  rename_i n e
  obtain ⟨a, h1, h2⟩ := er_at R e
  obtain ⟨oe, G, hp, hG, hz, hf⟩ := hE a n h2
  cases z : F [.er n] with
  | exc m => rw [z] at w; exact w.elim
  | stuck => rw [z] at w; exact w.elim
  | ok r =>
    rw [z] at w
    have one : PA X [.Name y p2] (tCons (tVar i) tNil) := pa_cons (pe_var hN hv hd hcd) pa_nil he
    refine wpAny_Call_Name_kw (ld_glob I hg hmg (PySem.W.callWith_K (h₀ := X.base) I.ok.mod.kin hk (thn (one.run pos pins s σ H (fun vs H' => H' = H ∧ vs = [.ref a]) I ⟨_, h1, rfl, rfl⟩) fun us s1 q => ?_) he hpl) hdb)
    obtain ⟨vs, H1, I1, rv, rfl, rfl⟩ := q
    refine ⟨I1.kIn, ?_⟩
    have hb1 := hb s1 us I1.kIn (by rw [List.append_nil]; exact rv.length.symm)
    rw [List.append_nil] at hb1
    obtain ⟨g1, g2, g3, g4, g5⟩ := I1.pin (a, oe) (List.mem_append_left _ hp)
    have pin : L2H.PinOk X.stack H1 s1 (a, oe) := ⟨g1, g2, fun m => (List.mem_cons.mp (I1.stkSub a m)).elim g3 g4, g5⟩
    refine wpAny_call (codeAny_mono (F0.run (a, oe) X.A X.stack s1 H1 us [.ref a] Q hr pin I1.env0 hb1 rv rfl ⟨n, O, r, rfl, ⟨G, hG, hz, hf⟩, R.tabs, R.alive, z, fun v H' x1 p1 => w v H' x1 p1⟩) fun o s2 q2 => ?_)
    match o, q2 with
    | .ok (.ret u), q2 => exact I1.after q2
    | .ok .next, q2 => exact q2.elim
    | .ok .brk, q2 => exact q2.elim
    | .ok .cont, q2 => exact q2.elim
    | .error u, q2 => exact (cx_none q2).elim
end
/-! ### .. by its body -/
section
variable {P : Program} {w : World} {K : PySem.W.Frag} {mg : Str → Option Value} {base : Heap} {tb : List (Addr × Str)} {cv : String → Value}
def PC.ofE (tb : List (Addr × Str)) (mg : Str → Option Value) (cv : String → Value) (H : Hp) (O : List Addr) (p : Addr × Obj) : PC := ⟨[], H, O, fun _ _ _ _ => False, cv, fun a n => a = p.1 ∧ PinE mg p n, tb⟩
theorem er_rep {O : List Addr} {H : Hp} {p : Addr × Obj} {n : String} {m : Nat} (hT : LamX.Tabs tb H) (al : ∀ b ∈ O, H b ≠ none) (hn : PinE mg p n) : Rep K (PC.ofE tb mg cv H O p) O H (some (.ref p.1) :: List.replicate m none) (some (.er n) :: List.replicate m none) := by
  have key : ∀ (j : Nat) (s : SL), (some (.er n) :: List.replicate m none : Env)[j]? = some (some s) → j = 0 ∧ s = .er n := fun j s e => by
    cases j with
    | zero => cases e; exact ⟨rfl, rfl⟩
    | succ j =>
      rw [List.getElem?_cons_succ, List.getElem?_replicate] at e
      split at e <;> cases e
  refine ⟨ExM.refl _ _, ⟨fun b hb => al b hb, hT⟩, fun b hb => hb, al, by rw [List.length_cons, List.length_cons, List.length_replicate, List.length_replicate], fun j s e => ?_, fun j k s t q _ e1 o1 _ _ _ _ => ?_⟩
  · obtain ⟨rfl, rfl⟩ := key j s e
    exact ⟨_, rfl, p.1, rfl, rfl, hn⟩
  · obtain ⟨_, rfl⟩ := key j s e1
    cases o1
theorem mk_defE {x qual : Str} {st : Stmt} {f : Addr} {fd : FuncData} {N : List Str} {y : Str} {k : Nat} {g : SE} (F : Fun K x qual st f fd) (S : FnScope N [y] (defScope st)) (hmg : mg x = some (.ref f)) (hb : Binds K fd [y] [])
    (body : ∀ (p : Addr × Obj) (cdv : Value) (A : Around) (outer : List PySem.Env) (s : Shared) (H : Hp) (O : List Addr), L2H.RoomH k (A.deeper (PyProof.Rows.envOfC qual (defScope st) s.heap.objs.size f cdv)) →
      (∀ a n, (PC.ofE tb mg cv H O p).EX a n → ExP (L2H.cxH (L2.CX P w) P w K mg base N qual (defScope st) f cdv A outer s H (fun _ _ _ => False) p) a n) →
      PSs (L2H.cxH (L2.CX P w) P w K mg base N qual (defScope st) f cdv A outer s H (fun _ _ _ => False) p) (defBody st) (tS K (PC.ofE tb mg cv H O p) g)) : DfnE P w K mg base tb (k + 1) x (runF 1 N.length g) := by
  have kp := F.kp
  obtain ⟨oc, od, kV, doc, pm, an, cdv, ct, osl, rfl, lk, hcd⟩ := F.ex
  refine ⟨f, _, y, ⟨fun p A outer s H us vs Q hr pin e0 bt rv hl hsp => ?_⟩, hmg, kp, hb⟩
  obtain ⟨n, O, r, rfl, hn, hT, al, hF, hq⟩ := hsp
  have kin : K.In s.heap := e0.mod.kin.keeps fun b o e => (e0.bs b o e).1
  have lim : s.heap.NoLimit := e0.mod.nolimit.keeps fun b o e => (e0.bs b o e).1
  have kinds : ∀ z ∈ List.zip [y] us, (defScope st).names.lookup z.1 = some .local ∨ ((defScope st).names.lookup z.1 = some .cell ∧ ((cellsFrom (s.heap.objs.size + 1) (defScope st).names []).lookup z.1).isSome = true) := by
    rintro ⟨z, u⟩ hz
    exact (S.par z (List.of_mem_zip hz).1).imp id fun q => ⟨q, PySem.W.cellsFrom_some _ _ _ (.inl q)⟩
  refine codeAny_call_function hr.depth (kin _ _ lk) rfl S.co S.gen rfl (PySem.W.codeRec_of kin hcd) (bt _ _ _ _ ?_)
  refine wpAny_newFunctionEnv_cells S.kind kinds fun env he s1 x1 => ?_
  cases he
  refine ⟨lim.keeps x1.toInCall.keep, codeAny_func ?_⟩
  have I := L2H.inv_startH (CX := L2.CX P w) (E := fun _ _ _ => False) S pin e0 hl rv x1
  have hE : ∀ a n, (PC.ofE tb mg cv H O p).EX a n → ExP (L2H.cxH (L2.CX P w) P w K mg base N qual (defScope st) f cdv A outer s H (fun _ _ _ => False) p) a n := fun a n ⟨h1, D, h2, h3, h4⟩ => ⟨p.2, D, by rw [h1]; exact List.mem_singleton.mpr rfl, h2, h3, h4⟩
  have R : Rep K (PC.ofE tb mg cv H O p) O H (L2.start N [.ref p.1]) (some (.er n) :: List.replicate (N.length - 1) none) := er_rep hT al hn
  have ret : ∀ (O' : List Addr) (H' : Hp) (σ' : L2.St) (ρ' : Env) (v : V) (r : RV), Rep K (PC.ofE tb mg cv H O p) O' H' σ' ρ' → RetV K (PC.ofE tb mg cv H O p) O' H' v r → Gx tb H H' ∧ RetC K O H H' v r := fun O' H' σ' ρ' v r R rv => by
    refine ⟨(show ExM _ [] H H' from R.ex).gx, ?_⟩
    have up : ∀ q, ∀ b ∈ q :: O, b ∈ q :: O' := fun q b z => (List.mem_cons.mp z).elim (fun z => z ▸ List.mem_cons_self) fun z => List.mem_cons_of_mem _ (R.sub b z)
    cases r with
    | val d => exact Dp.mono (hid_sub R.sub) rv
    | fresh ds => obtain ⟨q, us, a, b, c, d⟩ := rv; exact ⟨q, us, a, b, c, DpAll.mono (hid_sub (up q)) d⟩
    | dfresh ds => obtain ⟨q, us, a, b, c, d⟩ := rv; exact ⟨q, us, a, b, c, KvAll.mono (hid_sub (up q)) d⟩
    | gfresh ds => obtain ⟨q, us, a, b, c, d⟩ := rv; exact ⟨q, us, a, b, c, d.mono (hid_sub (up q))⟩
  have hpost : Post K (PC.ofE tb mg cv H O p) { nx := fun _ H' => Q .non H', rt := Q } O H (g (some (.er n) :: List.replicate (N.length - 1) none)) := by
    unfold runF at hF
    rw [if_pos (show [SL.er n].length = 1 from rfl)] at hF
    change (match g (some (.er n) :: List.replicate (N.length - 1) none) with
      | .nx _ => (Out.ok (RV.val PyData.none) : Out RV)
      | .rt r _ => .ok r
      | .ex n _ => .exc n
      | _ => .stuck) = .ok r at hF
    cases hg : g (some (.er n) :: List.replicate (N.length - 1) none) with
    | nx ρ' =>
      rw [hg] at hF
      cases hF
      intro σ' O' H' R' _
      obtain ⟨ex, _⟩ := ret O' H' σ' ρ' .non (.val .none) R' .non
      exact hq .non H' ex .non
    | rt r' ρ' =>
      rw [hg] at hF
      cases hF
      intro v σ' O' H' R' _ rv
      obtain ⟨ex, rc⟩ := ret O' H' σ' ρ' v r R' rv
      exact hq v H' ex rc
    | ex m ρ' => rw [hg] at hF; cases hF
    | bk ρ' => rw [hg] at hF; cases hF
    | ct ρ' => rw [hg] at hF; cases hF
    | stuck => rw [hg] at hF; cases hF
  refine wpAny_mono ((body p cdv A outer s H O (hr.deeper _) hE).run [] s1 _ H _ I ⟨O, _, R, hpost⟩) (fun fl s2 q => ?_) fun _ _ q => q
  match fl, q with
  | .ret u, ⟨v, σ2, H2, J, r2, q2⟩ => exact ⟨v, H2, J.os, J.bare, J.base, J.hok, r2, q2⟩
  | .next, ⟨σ2, H2, J, q2⟩ => exact ⟨.non, H2, J.os, J.bare, J.base, J.hok, rfl, q2⟩
  | .brk, ⟨_, _, _, q2⟩ => exact q2.elim
  | .cont, ⟨_, _, _, q2⟩ => exact q2.elim
end
/-! ### try -/
section
variable {X : Cx} {C : PC} {pos pos' np : Pos} {x y : Str} {s g : SE} {body suite : List Stmt} {b₀ : Stmt}
/-- what the clause takes -/
structure Cat (K : PySem.W.Frag) (mg : Str → Option Value) (T : String) (ct : String → Bool) : Prop where
  is : ∃ G, mg (Str.ofString T) = some (.ref G) ∧ ∀ m, ct m = true → ∃ D, mg (Str.ofString m) = some (.ref D) ∧ PySem.W.exmOne K (.ref D) (.ref G) = some true
def PC.sui (C : PC) (mg : Str → Option Value) (a : Addr) (D : Addr) : PC := { C with W := fun _ _ _ _ => False, EX := fun a' m => a' = a ∧ mg (Str.ofString m) = some (.ref D) }
theorem Rep.reW {K : PySem.W.Frag} {O : List Addr} {H : Hp} {σ : L2.St} {ρ : Env} {W : WX} (R : Rep K C O H σ ρ) : Rep K { C with W := W } O H σ ρ := ⟨R.ex, R.o0, R.sub, R.alive, R.len, R.slot, R.apart⟩
theorem Rep.ofW {K : PySem.W.Frag} {O : List Addr} {H : Hp} {σ : L2.St} {ρ : Env} {W : WX} (R : Rep K { C with W := W } O H σ ρ) : Rep K C O H σ ρ := ⟨R.ex, R.o0, R.sub, R.alive, R.len, R.slot, R.apart⟩
theorem clr_some {ρ : Env} {i : Nat} {t : SL} (h : (clrE ρ)[i]? = some (some t)) : ρ[i]? = some (some t) ∧ ∀ n, t ≠ .er n := by
  unfold clrE at h
  rw [List.getElem?_map] at h
  cases e : ρ[i]? with
  | none => rw [e] at h; cases h
  | some o =>
    rw [e] at h
    cases o with
    | none => cases h
    | some u => cases u <;> cases h <;> exact ⟨rfl, fun n z => nomatch z⟩
theorem clr_len {ρ : Env} : (clrE ρ).length = ρ.length := by
  unfold clrE
  rw [List.length_map]
/-- the error goes -/
theorem Rep.clr {K : PySem.W.Frag} {O : List Addr} {H : Hp} {σ : L2.St} {ρ : Env} {mg : Str → Option Value} {a D : Addr} (R : Rep K (C.sui mg a D) O H σ ρ) : Rep K C O H σ (clrE ρ) where
  ex := R.ex
  o0 := R.o0
  sub := R.sub
  alive := R.alive
  len := by rw [clr_len]; exact R.len
  slot := fun j t e => by
    obtain ⟨e1, e2⟩ := clr_some e
    obtain ⟨v, h1, h2⟩ := R.slot j t e1
    refine ⟨v, h1, ?_⟩
    cases t with
    | er n => exact absurd rfl (e2 n)
    | fz d => exact h2
    | ow ds => exact h2
    | bw ds => exact h2
    | dow ds => exact h2
    | dbw ds => exact h2
    | mw ds => exact h2
    | og ds => exact h2
    | oo ds => exact h2
  apart := fun j k t u q hjk e1 o1 e2 e3 o3 e4 => R.apart j k t u q hjk (clr_some e1).1 o1 e2 (clr_some e3).1 o3 e4
theorem set_some {α : Type} {l : List (Option α)} {i j : Nat} {t : α} (h : (l.set i none)[j]? = some (some t)) : l[j]? = some (some t) ∧ j ≠ i := by
  by_cases hj : j = i
  · subst hj
    have hl := (List.getElem?_eq_some_iff.mp h).1
    rw [List.length_set] at hl
    rw [List.getElem?_set_self hl] at h
    cases h
  · rw [List.getElem?_set_ne (Ne.symm hj)] at h
    exact ⟨h, hj⟩
theorem Rep.gone {K : PySem.W.Frag} {O : List Addr} {H : Hp} {σ : L2.St} {ρ : Env} {i : Nat} (R : Rep K C O H σ ρ) : Rep K C O H (σ.set i none) (ρ.set i none) := R.weak (by rw [List.length_set, List.length_set]; exact R.len) fun j t e => by
  obtain ⟨h1, h2⟩ := set_some e
  exact ⟨h1, List.getElem?_set_ne (Ne.symm h2)⟩
/-- the error comes -/
theorem Rep.setE {K : PySem.W.Frag} {O : List Addr} {H : Hp} {σ : L2.St} {ρ : Env} {mg : Str → Option Value} {a D : Addr} {i : Nat} {m : String} (R : Rep K C O H σ ρ) (hE0 : ∀ a n, ¬ C.EX a n) (hm : mg (Str.ofString m) = some (.ref D)) : Rep K (C.sui mg a D) O H (σ.set i (some (.ref a))) (ρ.set i (some (.er m))) where
  ex := R.ex
  o0 := R.o0
  sub := R.sub
  alive := R.alive
  len := by rw [List.length_set, List.length_set]; exact R.len
  slot := fun j t e => by
    by_cases hj : j = i
    · subst hj
      have hl := (List.getElem?_eq_some_iff.mp e).1
      rw [List.length_set] at hl
      rw [List.getElem?_set_self hl] at e
      cases e
      exact ⟨_, List.getElem?_set_self (by rw [R.len]; exact hl), a, rfl, rfl, hm⟩
    · rw [List.getElem?_set_ne (Ne.symm hj)] at e
      rw [List.getElem?_set_ne (Ne.symm hj)]
      obtain ⟨v, h1, h2⟩ := R.slot j t e
      refine ⟨v, h1, ?_⟩
      cases t with
      | er n => obtain ⟨b, _, z⟩ := h2; exact absurd z (hE0 b n)
      | fz d => exact h2
      | ow ds => exact h2
      | bw ds => exact h2
      | dow ds => exact h2
      | dbw ds => exact h2
      | mw ds => exact h2
      | og ds => exact h2
      | oo ds => exact h2
  apart := fun j k t u q hjk e1 o1 e2 e3 o3 e4 => by
    have back : ∀ (j : Nat) (t : SL) (q : Addr), (ρ.set i (some (.er m)))[j]? = some (some t) → ownS t = true → (σ.set i (some (.ref a)))[j]? = some (some (.ref q)) → ρ[j]? = some (some t) ∧ σ[j]? = some (some (.ref q)) := fun j t q e o e2 => by
      by_cases hj : j = i
      · subst hj
        have hl := (List.getElem?_eq_some_iff.mp e).1
        rw [List.length_set] at hl
        rw [List.getElem?_set_self hl] at e
        cases e
        cases o
      · rw [List.getElem?_set_ne (Ne.symm hj)] at e e2
        exact ⟨e, e2⟩
    exact R.apart j k t u q hjk (back j t q e1 o1 e2).1 o1 (back j t q e1 o1 e2).2 (back k u q e3 o3 e4).1 o3 (back k u q e3 o3 e4).2
/-- try: body / except T as y: suite -/
theorem s_tryAs {i : Nat} {T : String} {ct : String → Bool} (q : Cat X.K X.mg T ct) (hgT : Gl X (Str.ofString T)) (hcv : C.cv = cvOf X.mg) (hE0 : ∀ a n, ¬ C.EX a n) (hs : X.stack = X.env :: X.outer) (hf : X.env.frame = some X.env.locals) (hN : X.N.Nodup) (hi : X.N[i]? = some y) (hln : X.env.kindOf y = some .local) (tk : Takes X C.W)
    (hb : ∀ (W : WX) (pn : List (Addr × Obj)) (xe : Value → Shared → Prop), Takes (X.tr pn xe) W → PassesOwn (model X.prog X.w) X.A X.env xe → PSs (X.tr pn xe) body (tS X.K { C with W := W } s))
    (hsu : ∀ (a D : Addr) (oe : Obj) (pn : List (Addr × Obj)), (∀ a' m, (C.sui X.mg a D).EX a' m → ExP (X.suite a ((a, oe) :: pn)) a' m) → PSs (X.suite a ((a, oe) :: pn)) (b₀ :: suite) (tS X.K (C.sui X.mg a D) g)) (hdb : (Str.ofString T == ("__debug__" : Str)) = false := by decide) :
    PS X (.Try body [.ExceptHandler (some (.Name (Str.ofString T) np)) (some y) (b₀ :: suite) pos'] [] [] pos) (tS X.K C (sTryAs s ct i g)) := by
  obtain ⟨G, hG, hct⟩ := q.is
  refine ps_imp (ps_try_as (c := .ref G) (ts := fun a cls d D σ H => ∃ Dd, cls = .ref Dd ∧ d = none ∧ tS X.K (C.sui X.mg a Dd) g D σ H) (tb := fun W => tS X.K { C with W := W } s) (Wout := C.W) hs hf hN hi hln ⟨hgT, hdb, .inl hG⟩ tk hb (fun a oe cls d pn hz hfd => ⟨fun pins s1 σ H D I ⟨Dd, e1, e2, h⟩ => by
    subst e1 e2
    exact (hsu a Dd oe pn fun a' m ⟨h1, h2⟩ => ⟨oe, Dd, by rw [h1]; exact List.mem_cons_self, h2, hz, hfd⟩).run pins s1 σ H D I h⟩)) fun D σ H ⟨O, ρ, R, w⟩ => ⟨O, ρ, R.reW, ?_⟩
  unfold sTryAs at w
  cases e : s ρ with
  | nx ρ' => rw [e] at w; exact fun σ' O' H' R' => w σ' O' H' R'.ofW
  | bk ρ' => rw [e] at w; exact fun σ' O' H' R' => w σ' O' H' R'.ofW
  | ct ρ' => rw [e] at w; exact fun σ' O' H' R' => w σ' O' H' R'.ofW
  | rt r ρ' => rw [e] at w; exact fun v σ' O' H' R' x rv => w v σ' O' H' R'.ofW x (by cases r <;> exact rv)
  | stuck => rw [e] at w; exact w
  | ex m ρ' =>
    rw [e] at w
    intro σ' O' H' R' x
    have R1 := R'.ofW
    by_cases hm : ct m = true
    · dsimp only at w
      rw [if_pos hm] at w
      obtain ⟨Dd, hD, hx⟩ := hct m hm
      have hcm : C.cv m = .ref Dd := by rw [hcv]; exact cv_of hD
      refine ⟨true, ?_, fun _ a ha => ⟨Dd, hcm, rfl, O', _, R1.setE hE0 hD, ?_⟩, fun z => nomatch z⟩
      · show PySem.W.exmOne X.K (C.cv m) _ = _
        rw [hcm]
        exact hx
      · cases e2 : g (ρ'.set i (some (.er m))) with
        | nx ρ2 => rw [e2] at w; exact fun σ2 O2 H2 R2 x2 => w _ O2 H2 R2.clr.gone (x.trans x2)
        | bk ρ2 => rw [e2] at w; exact fun σ2 O2 H2 R2 x2 => w _ O2 H2 R2.clr.gone (x.trans x2)
        | ct ρ2 => rw [e2] at w; exact fun σ2 O2 H2 R2 x2 => w _ O2 H2 R2.clr.gone (x.trans x2)
        | rt r ρ2 => rw [e2] at w; exact fun v σ2 O2 H2 R2 x2 rv => w v _ O2 H2 R2.clr (x.trans x2) (by cases r <;> exact rv)
        | ex n ρ2 => rw [e2] at w; exact w.elim
        | stuck => rw [e2] at w; exact w.elim
    · dsimp only at w
      rw [if_neg hm] at w
      exact w.elim
/-- try: body / except T: suite -/
theorem s_tryO {T : String} {ct : String → Bool} (q : Cat X.K X.mg T ct) (hgT : Gl X (Str.ofString T)) (hcv : C.cv = cvOf X.mg) (hs : X.stack = X.env :: X.outer) (hf : X.env.frame = some X.env.locals) (tk : Takes X C.W)
    (hb : ∀ (W : WX) (pn : List (Addr × Obj)) (xe : Value → Shared → Prop), Takes (X.tr pn xe) W → PassesOwn (model X.prog X.w) X.A X.env xe → PSs (X.tr pn xe) body (tS X.K { C with W := W } s))
    (hsu : ∀ (a : Addr) (oe : Obj) (pn : List (Addr × Obj)), PSs (X.suite a ((a, oe) :: pn)) (b₀ :: suite) (tS X.K { C with W := fun _ _ _ _ => False } g)) (hdb : (Str.ofString T == ("__debug__" : Str)) = false := by decide) :
    PS X (.Try body [.ExceptHandler (some (.Name (Str.ofString T) np)) none (b₀ :: suite) pos'] [] [] pos) (tS X.K C (sTryO s ct g)) := by
  obtain ⟨G, hG, hct⟩ := q.is
  refine ps_imp (ps_try_only (c := .ref G) (ts := fun a cls d D σ H => tS X.K { C with W := fun _ _ _ _ => False } g D σ H) (tb := fun W => tS X.K { C with W := W } s) (Wout := C.W) hs hf ⟨hgT, hdb, .inl hG⟩ tk hb (fun a oe cls d pn hz hfd => hsu a oe pn)) fun D σ H ⟨O, ρ, R, w⟩ => ⟨O, ρ, R.reW, ?_⟩
  unfold sTryO at w
  cases e : s ρ with
  | nx ρ' => rw [e] at w; exact fun σ' O' H' R' => w σ' O' H' R'.ofW
  | bk ρ' => rw [e] at w; exact fun σ' O' H' R' => w σ' O' H' R'.ofW
  | ct ρ' => rw [e] at w; exact fun σ' O' H' R' => w σ' O' H' R'.ofW
  | rt r ρ' => rw [e] at w; exact fun v σ' O' H' R' x rv => w v σ' O' H' R'.ofW x (by cases r <;> exact rv)
  | stuck => rw [e] at w; exact w
  | ex m ρ' =>
    rw [e] at w
    intro σ' O' H' R' x
    have R1 := R'.ofW
    by_cases hm : ct m = true
    · dsimp only at w
      rw [if_pos hm] at w
      obtain ⟨Dd, hD, hx⟩ := hct m hm
      have hcm : C.cv m = .ref Dd := by rw [hcv]; exact cv_of hD
      refine ⟨true, ?_, fun _ a ha => ⟨O', _, R1.reW, ?_⟩, fun z => nomatch z⟩
      · show PySem.W.exmOne X.K (C.cv m) _ = _
        rw [hcm]
        exact hx
      · cases e2 : g ρ' with
        | nx ρ2 => rw [e2] at w; exact fun σ2 O2 H2 R2 x2 => w _ O2 H2 R2.ofW (x.trans x2)
        | bk ρ2 => rw [e2] at w; exact fun σ2 O2 H2 R2 x2 => w _ O2 H2 R2.ofW (x.trans x2)
        | ct ρ2 => rw [e2] at w; exact fun σ2 O2 H2 R2 x2 => w _ O2 H2 R2.ofW (x.trans x2)
        | rt r ρ2 => rw [e2] at w; exact fun v σ2 O2 H2 R2 x2 rv => w v _ O2 H2 R2.ofW (x.trans x2) (by cases r <;> exact rv)
        | ex n ρ2 => rw [e2] at w; exact w.elim
        | stuck => rw [e2] at w; exact w.elim
    · dsimp only at w
      rw [if_neg hm] at w
      exact w.elim
end
end PL
namespace PL
open PySem PySem.Spec L2
theorem wk_tr {X : Cx} {C : PC} {W : WX} {pn : List (Addr × Obj)} {xe : Value → Shared → Prop} (tk : Takes (X.tr pn xe) W) : Wk (X.tr pn xe) { C with W := W } := fun σ => passAt tk σ
theorem roomH_mark {A : Around} {k j : Nat} {v : Option Value} (h : Room k A) (hj : j ≤ k) : L2H.RoomH j (A.mark v) := ⟨(L2H.RoomH.mono (L2H.roomH_of h) hj).dp, (L2H.RoomH.mono (L2H.roomH_of h) hj).un⟩
theorem _root_.L2H.RoomH.units {A : Around} {k : Nat} (h : L2H.RoomH k A) : A.units + 64 < cLine := by have := h.un; omega
end PL

/-! PLD: sorted of texts. -/
namespace PL
open PySem PySem.Spec L2
theorem leS_iff {a b : Str} : leS a b = true ↔ a.cps.toList ≤ b.cps.toList := by
  unfold leS
  rw [PyProof.Rows.ltCps_eq, Bool.not_eq_true', decide_eq_false_iff_not]
  exact List.not_lt
theorem leS_trans (a b c : Str) (h1 : leS a b = true) (h2 : leS b c = true) : leS a c = true := leS_iff.mpr (List.le_trans (leS_iff.mp h1) (leS_iff.mp h2))
theorem leS_total (a b : Str) : (leS a b || leS b a) = true := by
  rw [Bool.or_eq_true, leS_iff, leS_iff]
  exact List.le_total _ _
theorem leS_anti {a b : Str} (h1 : leS a b = true) (h2 : leS b a = true) : a = b := by
  have := List.le_antisymm (leS_iff.mp h1) (leS_iff.mp h2)
  cases a
  cases b
  exact congrArg Str.mk (Array.toList_inj.mp this)
theorem risingS_all : ∀ (r : List Str) (p : Str), PyProof.Rows.risingS p r = true → (p :: r).Pairwise fun a b => leS a b = true
  | [], p, _ => List.pairwise_singleton _ _
  | x :: r, p, h => by
    have h : (leS p x && PyProof.Rows.risingS x r) = true := h
    rw [Bool.and_eq_true] at h
    have ih := risingS_all r x h.2
    refine List.pairwise_cons.mpr ⟨fun y hy => ?_, ih⟩
    rcases List.mem_cons.mp hy with rfl | hy
    · exact h.1
    · exact leS_trans p x y h.1 ((List.pairwise_cons.mp ih).1 y hy)
theorem sortedS_is {ys ss : List Str} (hp : ys.Perm ss) (hs : PyProof.Rows.sortedS ys = true) : ys = ss.mergeSort leS := by
  have h1 : ys.Pairwise fun a b => leS a b = true := by
    cases ys with
    | nil => exact List.Pairwise.nil
    | cons x r => exact risingS_all r x hs
  have h2 : (ss.mergeSort leS).Pairwise fun a b => leS a b = true := List.pairwise_mergeSort leS_trans leS_total ss
  exact List.Perm.eq_of_pairwise (le := fun a b => leS a b = true) (fun a b _ _ h1 h2 => leS_anti h1 h2) h1 h2 (hp.trans (List.mergeSort_perm ss leS).symm)
theorem dpAll_strs {K : PySem.W.Frag} {G : Hp} : ∀ ss : List Str, DpAll K G (ss.map V.str) (ss.map PyData.str)
  | [] => .nil
  | n :: r => .cons (.str n) (dpAll_strs r)
section
variable {X : Cx} {C : PC} {a : Expr} {l : LE} {pos p1 : Pos}
theorem f_sortS (hg : Gl X "sorted") (hm : X.mg "sorted" = none) (ha : PE X a (tL X.K C l)) (hsa : starEach [a] X.env = (false, eval a X.env) :: starEach [] X.env := by rfl) :
    PE X (.Call (.Name "sorted" p1) [a] [] pos) (tF X.K C (lSortS l)) := pe_imp (pe_callB cr_sortedS hg hm (by decide +kernel) (pa_cons ha pa_nil hsa) (by decide) (by decide) hsa (by rfl)) fun σ H Q ⟨O, ρ, R, q⟩ => by
  refine ⟨O, ρ, R, (Fin.bind q).imp fun ds _ q1 p vs H1 x1 s1 a1 => ?_⟩
  cases e : allStr ds with
  | none => simp only [e] at q1; exact q1.elim
  | some ss =>
    simp only [e] at q1
    by_cases hl : ss.length < 64
    · rw [if_pos hl] at q1
      have hv := a1.strs e
      subst hv
      refine ⟨p, ss, rfl, s1, hl, fun ys r hp hs nr => ?_⟩
      rw [sortedS_is hp hs]
      exact (show ∀ p vs H', Gx C.T H H' → H p = none → H' p = some (.lst vs) → DpAll X.K (hid (p :: O) H') vs ((ss.mergeSort leS).map PyData.str) → Q (.ref p) H' from q1) r _ _ (x1.trans (Gx.new nr)) (fresh_back x1 nr) upd_same (dpAll_strs _)
    · rw [if_neg hl] at q1
      exact q1.elim
end
end PL

/-! PLL: sorted(range(n), key=lambda x: (y[x], x)). -/
namespace PL
open PySem PySem.Spec L2 PySem.Calls PyProof.Rows
/-- the lambda is: x: (y[x], x), y captured -/
structure LamB (params : Arguments) (scope : Scope) (body : Expr) (x y : Str) : Prop where
  bd : ∃ p1 p2 p3 p4 p5 k, body = .Tuple [.Subscript (.Name y p1) (.Name x p2) p3, .Name x p4] k p5
  kind : scope.kind = .function
  co : scope.isCoroutine = false
  gen : scope.isGenerator = false
  own : ∀ z ∈ scope.names, z.2 ≠ .cell
  lx : scope.names.lookup x = some .local
  ly : scope.names.lookup y = some .free
  free : ∀ z ∈ scope.names, z.2 = .free → z.1 = y
  bind : ∀ (qual : Str) (clo : List (Str × Addr)) (pm cdv ctv v : Value), bindArgs (PySem.W.kla_fn "<lambda>" qual params body scope clo pm cdv ctv) ⟨[v], []⟩ = pure [(x, v)]
  clo : ∀ (cells : List (Str × Addr)) (c : Addr), cells.lookup y = some c → (cloFrom cells scope.names []).lookup y = some c
  dx : (x == ("__debug__" : Str)) = false
  dy : (y == ("__debug__" : Str)) = false
  cy : (y == ("__classdict__" : Str)) = false
  defs : ∀ env : PySem.Env, defaultsOf params env = ([], [])
theorem lam_pure {P : Program} {w : World} {A : Around} {s : Shared} {E : Value → Shared → Prop} {qual : Str} {clo : List (Str × Addr)} {pm ctv : Value} {c' f p cell : Addr} {its : Array Value} {i l : Int} {t t' : Tok} {params : Arguments} {scope : Scope} {body : Expr} {x y : Str}
    (B : LamB params scope body x y) (hdep : A.depth < recursionLimit) (lim : s.heap.NoLimit) (hf : s.heap.get? f = some (PySem.W.kla_obj "<lambda>" qual params body scope clo pm c' ctv)) (hc : ∃ oc vs tq, s.heap.get? c' = some oc ∧ oc.data = .fields vs ∧ vs[1]? = some (.str qual tq))
    (hcl : clo.lookup y = some cell) (hv : s.heap.IsCell cell (some (.ref p))) (hl : s.heap.IsList p its) (h0 : 0 ≤ i) (h63 : i < 2 ^ 63) (hi : its[i.toNat]? = some (.int l t')) :
    wpAny (model P w) A (call (.ref f) [.int i t]) (PySem.W.KeyPure (.tuple [.int l, .int i]) s) E s := by
  obtain ⟨p1, p2, p3, p4, p5, k, rfl⟩ := B.bd
  obtain ⟨oc, vs, tq, hoc, hdc, hq⟩ := hc
  refine wpAny_call (PySem.W.kla_callFunE hdep hf rfl B.co B.gen rfl ⟨c', oc, vs, tq, rfl, hoc, hdc, hq⟩ ?_)
  rw [B.bind]
  refine wpAny_pure (wpAny_newFunctionEnv B.own (fun z hz => by rw [List.mem_singleton.mp hz]; exact B.lx) (fun h1 hns hsb => ⟨lim.fresh _ hsb, ?_⟩) B.kind)
  refine PySem.W.kla_codeExpr ?_
  have keep : ∀ b o, s.heap.get? b = some o → h1.get? b = some o := fun b o e => hsb.extBut b o (Nat.ne_of_lt (Heap.lt_size e)) (Heap.get?_push_of_some _ e)
  have hl1 : h1.IsList p its := by
    obtain ⟨o, e, r⟩ := hl
    exact ⟨o, keep _ _ e, r⟩
  have hv1 : h1.IsCell cell (some (.ref p)) := by
    obtain ⟨o, e, r⟩ := hv
    exact ⟨o, keep _ _ e, r⟩
  refine wpAny_Tuple_spliced ?_
  show wpAny _ _ (spliced ((false, _) :: (false, _) :: [])) _ _ _
  refine Calls.spliced_cons (Subscript_ (wpAny_Name (wpAny_loadName_free B.kind B.ly hcl hv1 (wpAny_Name (wpAny_loadName_local B.kind B.lx hns (v := .int i t) ?_ ?_) B.dx) B.cy) B.dy))
  · show ([(x, Value.int i t)] : List (Str × Value)).reverse.lookup x = _
    simp
  refine item_listR (u := t) hl1 h0 h63 hi ?_
  refine Calls.spliced_cons (wpAny_Name (wpAny_loadName_local B.kind B.lx hns (v := .int i t) ?_ (Calls.spliced_nil ?_)) B.dx)
  · show ([(x, Value.int i t)] : List (Str × Value)).reverse.lookup x = _
    simp
  refine ⟨by show 2 ≤ sizeLine; rw [sizeLine_eq]; decide, ⟨_, _, rfl, fun b o e => Heap.get?_push_of_some _ (keep b o e), ?_⟩⟩
  exact .tuple (as := []) (Heap.get?_push_size _ rfl) rfl rfl (.cons (as := []) (bs := []) (.int l t') (.cons (as := []) (bs := []) (.int i t) .nil))
theorem each_range : ∀ (us : List Value) (a : Nat), (∀ (j : Nat) (u : Value), us[j]? = some u → ∃ t, u = .int ((a + j : Nat) : Int) t) → PySem.W.EachIs (fun v (i : Nat) => ∃ t, v = .int (i : Int) t) us (List.range' a us.length)
  | [], a, _ => .nil
  | u :: us, a, h => by
    rw [List.length_cons, List.range'_succ]
    refine .cons (by simpa using h 0 u rfl) (each_range us (a + 1) fun j v e => ?_)
    have := h (j + 1) v e
    rw [show a + (j + 1) = a + 1 + j by omega] at this
    exact this
/-- sorted(a range, key=f), f keeps the heap -/
theorem sorted_rng {P : Program} {w : World} {A : Around} {s : Shared} {E : Value → Shared → Prop} {r f : Addr} {n : Nat} {t u v : Tok} {k : Nat → PyData} {Q : Value → Shared → Prop} (hh : A.handled = none) (hr : IsRange s.heap r 0 (n : Int) 1 t u v) (hn : n ≤ 100000)
    (hal : PySem.W.AllAlike ((List.range n).map k)) (hk : PySem.W.Sortable ((List.range n).map k)) (hu : ∀ x, x ∈ List.range n → A.in1.units + 1 + (k x).depth < cLine)
    (turn : ∀ (i : Nat) (t : Tok), i < n → ∀ (h : Heap) (tk : Nat), (∀ b o, s.heap.get? b = some o → h.get? b = some o) → wpAny (model P w) A.in1.in1 (call (.ref f) [.int i t]) (PySem.W.KeyPure (k i) { s with heap := h, toks := tk }) (fun _ _ => False) { s with heap := h, toks := tk })
    (h : ∀ (out : List Value) (c : Nat) (h1 h' : Heap) (tk : Nat), (∀ b o, s.heap.get? b = some o → h1.get? b = some o) → (∀ b o, h1.get? b = some o → h'.get? b = some o) → h'.get? h1.objs.size = some (seqObj "list" (List.toArray out) c) → PySem.W.EachIs (fun v (i : Nat) => ∃ t, v = .int (i : Int) t) out ((List.range n).mergeSort (PySem.W.dataLe false k)) → Q (.ref h1.objs.size) { s with heap := h', toks := tk }) :
    wpAny (model P w) A (call (.builtin "sorted") [.ref r] [(Str.ofString "key", .ref f)]) Q E s := by
  refine call_function_entry_kw kind_sorted plain_sorted entry_sorted (ksk_s1 _ _) ?_
  unfold Builtin.«sorted»
  refine wpAny_bind (m := checkCount "sorted" 1 1 _) (wpAny_pure ?_)
  have hb : n ≤ 2 ^ 24 := by omega
  refine wpAny_bind (L2.collect_range (A := A.in1) (n := n) hh hr (small_one (by omega) (by omega) (by omega) (by omega)) (by have := rangeSize_nat 0 (n : Int); rw [show ((n : Int) - 0).toNat = n by omega] at this; exact this) hb fun h1 tk acc keep items => ?_)
  have hlen : acc.toList.length = n := by rw [Array.length_toList, items.1]
  have hz : acc.toList.length ≤ sizeLine := by rw [hlen, sizeLine_eq]; omega
  refine wpAny_bind (wpAny_newList ?_ hz)
  have hoL : (h1.push (seqObj "list" acc.toList.toArray 0)).get? h1.objs.size = some (seqObj "list" acc.toList.toArray 0) := Heap.get?_push_size _ rfl
  have he : PySem.W.EachIs (fun v (i : Nat) => ∃ t, v = .int (i : Int) t) acc.toList (List.range n) := by
    have := each_range acc.toList 0 fun j u hj => by
      obtain ⟨t, e⟩ := items.2 j u (by rw [← hj, Array.getElem?_toList])
      refine ⟨t, ?_⟩
      rw [e]
      congr 1
      omega
    rw [hlen, ← List.range_eq_range'] at this
    exact this
  have old : ∀ {g : Heap}, PySem.W.KeepsBut h1.objs.size (h1.push (seqObj "list" acc.toList.toArray 0)) g → ∀ b o, h1.get? b = some o → g.get? b = some o := fun {g} kp b o q => kp b o (Nat.ne_of_lt (Heap.lt_size q)) (Heap.get?_push_of_some _ q)
  refine wpAny_bind (wpAny_holding (PySem.W.list_sort_key_data (A := A.in1) (s := { s with heap := h1.push (seqObj "list" acc.toList.toArray 0), toks := tk }) (vs := acc.toList) (n := 0) (f := .ref f) (b := false) (R := fun v (i : Nat) => ∃ t, v = .int (i : Int) t) k hoL he hal hk (by rw [List.length_range, ← hlen]; exact hz) hu (ksk_l1 _ _) (ksk_t1 f _) (fun v x hv hx g tk2 kp => ?_) (fun out c g tk2 kp hg ho hs => ?_)))
  · obtain ⟨t2, rfl⟩ := hv
    exact turn x t2 (List.mem_range.mp hx) g tk2 fun b o e => old kp b o (keep b o e)
  · exact wpAny_pure ⟨_, rfl, h out c h1 g tk2 keep (old kp) hg hs⟩
/-- where a lambda's code objects are kept -/
structure LamT (X : Cx) (τ : List (Addr × Str)) : Prop where
  ex : ∃ c P, LamX.TabB X.base X.mg c P ∧ X.env.code = .ref c ∧ (P, X.env.qual ++ "<lambda>") ∈ τ ∧ ∀ p ∈ τ, p.1 = P → p.2 = X.env.qual ++ "<lambda>"
section
variable {X : Cx} {pins : List (Addr × Obj)} {σ : L2.St} {H : Hp} {s : Shared}
/-- a lambda is made -/
theorem lam_mk {τ : List (Addr × Str)} {params : Arguments} {body : Expr} {scope : Scope} {pos : Pos} {E : Value → Shared → Prop} {Q : Value → Shared → Prop} (I : Inv X pins σ H s) (T : LamT X τ) (hT : LamX.Tabs τ H) (hdef : defaultsOf params X.env = ([], [])) (hfree : ∀ z ∈ scope.names, z.2 = .free → ∃ c, X.env.cells.lookup z.1 = some c)
    (h : ∀ (f c' : Addr) (pm ctv : Value) (H1 : Hp) (s' : Shared), Inv X pins σ H1 s' → Gx τ H H1 → (∀ b o, s.heap.get? b = some o → o.cls ≠ .none → s'.heap.get? b = some o) →
      s'.heap.get? f = some (PySem.W.kla_obj "<lambda>" (X.env.qual ++ "<lambda>") params body scope (cloFrom X.env.cells scope.names []) pm c' ctv) → (∃ oc vs tq, s'.heap.get? c' = some oc ∧ oc.data = .fields vs ∧ vs[1]? = some (.str (X.env.qual ++ "<lambda>") tq)) → Q (.ref f) s') :
    wpAny (model X.prog X.w) X.A (eval (.Lambda params body scope pos) X.env) Q E s := by
  obtain ⟨c, P, TB, hcode, hm, hu⟩ := T.ex
  obtain ⟨ps, hP, ht, ha⟩ := hT _ hm
  refine PySem.W.kla_eval hdef ?_
  have bP : s.heap.BuiltinsAt X.mg P := TB.bm.keeps I.bk
  have gP : s.heap.get? P = some { cls := .none, data := .fields ps } := I.hok P _ hP
  cases hc : codeAmong pos ps.toList with
  | none =>
    refine PySem.W.kla_makeFunction (mg := X.mg) (c := c) (P := P) (ps := ps) (closure_ok hfree) I.ok.glob (I.mod.glob.keeps I.bk) hcode (TB.code.keeps I.bk) gP ht hc TB.gP bP fun c' ctv h' tk hx hge hlt hrec htb => ?_
    obtain ⟨c2, oc, vs, tq, e2, hoc, hd, hv⟩ := hrec
    cases e2
    have nC : H c' = none := I.hok.fresh hge
    have I1 := LamX.inv_table (t' := tk) (more := #[rawInt pos.line, rawInt pos.col, .ref c']) (h' := h'.push (PySem.W.kla_obj "<lambda>" (X.env.qual ++ "<lambda>") params body scope (cloFrom X.env.cells scope.names []) ((X.mg "__name__").getD .none) c' ctv)) I hP
      (fun b o hb e => Heap.get?_push_of_some _ (hx b o hb e)) (Heap.get?_push_of_some _ htb) hge ⟨oc, vs, tq, Heap.get?_push_of_some _ hoc, hd, hv⟩
    have at1 : ∀ b o, H b = some o → b ≠ P → upd (upd H P (.tbl (ps ++ #[rawInt pos.line, rawInt pos.col, .ref c']))) c' (LamX.CodeO c' (X.env.qual ++ "<lambda>")) b = some o := fun b o e hb => by
      rw [upd_ne (ne_of_none e nC), upd_ne hb]
      exact e
    have nP : P ≠ c' := ne_of_none hP nC
    have atP : upd (upd H P (.tbl (ps ++ #[rawInt pos.line, rawInt pos.col, .ref c']))) c' (LamX.CodeO c' (X.env.qual ++ "<lambda>")) P = some (.tbl (ps ++ #[rawInt pos.line, rawInt pos.col, .ref c'])) := by
      rw [upd_ne nP, upd_same]
    have st : ∀ b o, H b = some o → isTbl o = false → upd (upd H P (.tbl (ps ++ #[rawInt pos.line, rawInt pos.col, .ref c']))) c' (LamX.CodeO c' (X.env.qual ++ "<lambda>")) b = some o := fun b o e n => at1 b o e fun z => by
      subst z
      rw [hP] at e
      cases e
      cases n
    have code : ∀ d q, H d = some (LamX.CodeO d q) → upd (upd H P (.tbl (ps ++ #[rawInt pos.line, rawInt pos.col, .ref c']))) c' (LamX.CodeO c' (X.env.qual ++ "<lambda>")) d = some (LamX.CodeO d q) := fun d q e => st d _ e rfl
    refine h h'.objs.size c' ((X.mg "__name__").getD .none) ctv _ _ I1 ⟨st, fun b o e => ?_, fun p hp tp => ?_⟩ (fun b o e nc => Heap.get?_push_of_some _ (hx b o (fun z => by subst z; rw [gP] at e; cases e; exact nc rfl) e)) (Heap.get?_push_size _ rfl) ⟨oc, vs, tq, Heap.get?_push_of_some _ hoc, hd, hv⟩
    · by_cases hb : b = P
      · subst hb
        rw [atP]
        nofun
      · rw [at1 b o e hb]
        nofun
    · obtain ⟨ps1, t1, t2, t3⟩ := tp
      by_cases hb : p.1 = P
      · rw [hu p hp hb, hb]
        have eL : (ps ++ #[rawInt pos.line, rawInt pos.col, .ref c']).toList = ps.toList ++ [rawInt pos.line, rawInt pos.col, .ref c'] := by simp
        refine ⟨_, atP, by rw [eL]; exact PySem.TriplesOk_snoc _ _ _ _ ht, fun p' cv hcv => ?_⟩
        rw [eL] at hcv
        rcases LamX.among_app _ ht hcv with z | z
        · obtain ⟨d, e1, e2⟩ := ha p' cv z
          exact ⟨d, e1, code d _ e2⟩
        · exact ⟨c', z, upd_same⟩
      · refine ⟨ps1, at1 _ _ t1 hb, t2, fun p' cv hcv => ?_⟩
        obtain ⟨d, e1, e2⟩ := t3 p' cv hcv
        exact ⟨d, e1, code d _ e2⟩
  | some cv =>
    obtain ⟨c', rfl, hco⟩ := ha pos cv hc
    refine PySem.W.kla_makeFunctionHit (mg := X.mg) (c := c) (P := P) (ps := ps) (closure_ok hfree) I.ok.glob (I.mod.glob.keeps I.bk) hcode (TB.code.keeps I.bk) gP ht hc bP fun ctv h' tk hx hsz => ?_
    have up : ∀ b o, s.heap.get? b = some o → (h'.push (PySem.W.kla_obj "<lambda>" (X.env.qual ++ "<lambda>") params body scope (cloFrom X.env.cells scope.names []) ((X.mg "__name__").getD .none) c' ctv)).get? b = some o := fun b o e => Heap.get?_push_of_some _ (hx b o e)
    obtain ⟨⟨oc, vs, tq, e1, e2, e3⟩, _, _⟩ := I.hok c' _ hco
    exact h h'.objs.size c' ((X.mg "__name__").getD .none) ctv H _ (I.kept (t' := tk) up) (Gx.refl H) (fun b o e _ => up b o e) (Heap.get?_push_size _ rfl) ⟨oc, vs, tq, up _ _ e1, e2, e3⟩
end
theorem asIntsL_some {K : PySem.W.Frag} {G : Hp} : ∀ {vs : List V} {ds : List PyData} {ns : List Int}, DpAll K G vs ds → asIntsL ds = some ns → vs = ns.map V.int
  | _, [], ns, h, e => by
    have : ns = [] := by simpa [asIntsL] using e.symm
    subst this
    cases h
    rfl
  | v :: vs, d :: ds, ns, h, e => by
    cases h with
    | cons h t =>
      unfold asIntsL at e
      rw [List.mapM_cons] at e
      cases d with
      | int i =>
        cases q : asIntsL ds with
        | none =>
          unfold asIntsL at q
          rw [q] at e
          simp at e
        | some ms =>
          have ih := asIntsL_some t q
          unfold asIntsL at q
          rw [q] at e
          have e' : i :: ms = ns := by simpa using e
          subst e'
          rw [ih, dp_int h, List.map_cons]
      | _ => simp at e
theorem vals_idx : ∀ {out : List Value} {is : List Nat}, PySem.W.EachIs (fun v (i : Nat) => ∃ t, v = .int (i : Int) t) out is → Vals (is.map fun i : Nat => V.int (i : Int)) out
  | _, _, .nil => .nil
  | _, _, .cons h t => .cons h (vals_idx t)
theorem dpAll_idx {K : PySem.W.Frag} {G : Hp} : ∀ is : List Nat, DpAll K G (is.map fun i : Nat => V.int (i : Int)) (is.map fun k : Nat => PyData.int (k : Int))
  | [] => .nil
  | i :: r => .cons (.int _) (dpAll_idx r)
section
variable {X : Cx} {C : PC} {a : Expr} {f : VE} {pos p1 p2 p3 lp kp : Pos}
theorem f_sortRg (j : Nat) {params : Arguments} {body : Expr} {scope : Scope} {x y : Str} (B : LamB params scope body x y) (T : LamT X C.T) (hr : Room 1 X.A) (hc : X.calm = true) (hg : Gl X "sorted") (hm : X.mg "sorted" = none) (hg2 : Gl X "range") (hm2 : X.mg "range" = none) (ha : PE X a (tV X.K C f)) (hN : X.N[j]? = some y) (hy : X.env.scope.names.lookup y = some .cell)
    (na : starEach [a] X.env = (false, eval a X.env) :: starEach [] X.env := by rfl)
    (hsa : starEach [.Call (.Name "range" p2) [a] [] p3] X.env = (false, eval (.Call (.Name "range" p2) [a] [] p3) X.env) :: starEach [] X.env := by rfl) :
    PE X (.Call (.Name "sorted" p1) [.Call (.Name "range" p2) [a] [] p3] [⟨some "key", .Lambda params body scope lp, kp⟩] pos) (tF X.K C (lSortRg j f)) := by
  refine ⟨fun pins s σ H Q I ⟨O, ρ, R, q⟩ => ?_⟩
  refine wpAny_Call_Name_kw (ld_blt I hg hm (by rfl) ?_ (by decide) (by decide))
  refine PyProof.Rows.callWith_kw ?_ (by rfl) (by rfl) (by rfl) (by rfl)
  rw [hsa]
  show wpAny _ _ (spliced ((false, _) :: [])) _ _ _
  have q := Fin.bind q
  refine Calls.spliced_cons (thn (prg_1 hg2 hm2 ha na pins s σ H (fun i k H1 => i = 0 ∧ Gx C.T H H1 ∧ Fin C σ H1 ((lVar j ρ).bind fun ds => match PyData.int k, asIntsL ds with
    | .int n, some ls => if n = ls.length ∧ n ≤ 100000 then Out.ok (((List.range ls.length).mergeSort (leAt ls)).map fun k => PyData.int (k : Nat)) else .stuck
    | _, _ => .stuck) fun ds => ∀ p vs H', Gx C.T H H' → H p = none → H' p = some (.lst vs) → DpAll X.K (hid (p :: O) H') vs ds → Q (.ref p) H') I ⟨O, ρ, R, q.imp fun d _ q1 v H1 x1 d1 => ?_⟩) fun rv s1 q1 => Calls.spliced_nil ?_)
  · cases d with
    | int k => exact ⟨k, dp_int d1, rfl, x1, q1.grow x1⟩
    | _ =>
      have q2 := Fin.bind q1
      cases e : lVar j ρ with
      | ok ds => rw [e] at q2; exact q2.elim
      | exc n =>
        unfold lVar at e
        split at e <;> cases e
      | stuck => rw [e] at q2; exact q2.elim
  · obtain ⟨r, i, k, t, u, v, H1, rfl, hrg, I1, rfl, x1, q1⟩ := q1
    have q2 := Fin.bind q1
    cases e : lVar j ρ with
    | exc n =>
      unfold lVar at e
      split at e <;> cases e
    | stuck => rw [e] at q2; exact q2.elim
    | ok ds =>
      rw [e] at q2
      have q3 : Fin C σ H1 (match PyData.int k, asIntsL ds with
        | .int n, some ls => if n = ls.length ∧ n ≤ 100000 then Out.ok (((List.range ls.length).mergeSort (leAt ls)).map fun k => PyData.int (k : Nat)) else .stuck
        | _, _ => .stuck) fun ds => ∀ p vs H', Gx C.T H H' → H p = none → H' p = some (.lst vs) → DpAll X.K (hid (p :: O) H') vs ds → Q (.ref p) H' := q2
      cases e2 : asIntsL ds with
      | none => rw [e2] at q3; exact q3.elim
      | some ls =>
        rw [e2] at q3
        dsimp only at q3
        by_cases hk : k = ls.length ∧ k ≤ 100000
        · rw [if_pos hk] at q3
          have q4 : ∀ p vs H', Gx C.T H H' → H p = none → H' p = some (.lst vs) → DpAll X.K (hid (p :: O) H') vs (((List.range ls.length).mergeSort (leAt ls)).map fun k => PyData.int (k : Nat)) → Q (.ref p) H' := q3
          have R1 := R.grow x1
          obtain ⟨p, vs, h1, h2, h3⟩ := R1.rl e
          have hvs := asIntsL_some h3 e2
          subst hvs
          refine wpAny_evalAll_cons (wpAny_bind (lam_mk I1 T R1.tabs (B.defs _) (fun z hz hfz => ?_) fun fl c' pm ctv H2 s2 I2 x2 st hf hcd => wpAny_bind (wpAny_standAt (wpAny_pure ?_))))
          · rw [B.free z hz hfz]
            exact I1.ok.has _ (.inl hy)
          · refine wpAny_evalAll_nil ?_
            obtain ⟨m, _, hl⟩ := I2.loc
            obtain ⟨u0, r0, lk⟩ := hl j y _ hN h1 (.inr (.inl hy))
            cases r0
            obtain ⟨cell, hcell, hv⟩ : ∃ cell, X.env.cells.lookup y = some cell ∧ s2.heap.IsCell cell (some (.ref p)) := by
              rcases lk with ⟨kk, _⟩ | ⟨_, c, e', z⟩
              · rw [show X.env.scope.names.lookup y = _ from kk] at hy
                cases hy
              · exact ⟨c, e', z⟩
            have h2' : SqL X.K H2 p (ls.map V.int) := ex_l x2.ex h2
            obtain ⟨its, rvs, pl, _⟩ := I2.list h2'
            have hints := rvs.ints
            have hlen := hints.length
            have hrg2 : IsRange s2.heap r 0 (ls.length : Int) 1 t u v := by
              rw [← hk.1]
              exact st _ _ hrg (fun z => nomatch z)
            have hun := hr.un
            have hdp := hr.dp
            refine sorted_rng (n := ls.length) (k := fun i => .tuple [.int (ls.getD i 0), .int (i : Int)]) (I2.ok.hd hc) hrg2 (by omega) (fun d hd d' hd' => ?_) (.inl fun d hd => ?_) (fun z hz => ?_) (fun i ti hi g tk kp => ?_) (fun out cc h1 h' tk k1 k2 he ho => ?_)
            · obtain ⟨i1, _, rfl⟩ := List.mem_map.mp hd
              obtain ⟨i2, _, rfl⟩ := List.mem_map.mp hd'
              rfl
            · obtain ⟨i1, _, rfl⟩ := List.mem_map.mp hd
              exact ⟨_, _, rfl⟩
            · have : PyData.depth (.tuple [.int (ls.getD z 0), .int (z : Int)]) = 1 := by simp [PyData.depth, PyData.depthAll]
              rw [this]
              show X.A.units + 2 + 1 < cLine
              omega
            · have hiV : (ls.map V.int)[i]? = some (V.int (ls.getD i 0)) := by
                rw [List.getElem?_map, List.getElem?_eq_getElem hi, List.getD_eq_getElem?_getD, List.getElem?_eq_getElem hi]
                rfl
              obtain ⟨w1, hw1, t2, rfl⟩ := rvs.get hiV
              have hf' := kp _ _ hf
              obtain ⟨oc, vs2, tq, e1, e3, e4⟩ := hcd
              obtain ⟨ob, eb, rb⟩ := hv
              obtain ⟨ol, el, rl⟩ := pl.isList
              exact lam_pure (s := { s2 with heap := g, toks := tk }) B (by show X.A.depth < _; omega) (I2.nolimit.keeps kp) hf' ⟨oc, vs2, tq, kp _ _ e1, e3, e4⟩ (B.clo _ _ hcell) ⟨ob, kp _ _ eb, rb⟩ ⟨ol, kp _ _ el, rl⟩ (by omega) (by omega) (by rw [show ((i : Nat) : Int).toNat = i by omega]; simpa using hw1)
            · have hle : PySem.W.dataLe false (fun i : Nat => PyData.tuple [.int (ls.getD i 0), .int (i : Int)]) = leAt ls := PySem.W.dataLe_ii (fun i : Nat => ls.getD i 0) (fun i : Nat => (i : Int))
              rw [hle] at ho
              have I3 : Inv X pins σ H2 { s2 with heap := h1 } := I2.kept (t' := s2.toks) k1
              have nf : H2 h1.objs.size = none := I3.hok.fresh (Nat.le_refl _)
              have hl2 : (((List.range ls.length).mergeSort (leAt ls)).map fun i : Nat => V.int (i : Int)).length ≤ sizeLine := by
                rw [List.length_map, List.length_mergeSort, List.length_range, sizeLine_eq]
                omega
              exact ⟨.ref _, upd H2 h1.objs.size (.lst (((List.range ls.length).mergeSort (leAt ls)).map fun i : Nat => V.int (i : Int))), I3.laid (t' := tk) k2 (Nat.le_refl _) ⟨hl2, out, cc, vals_idx ho, he⟩, rfl, q4 _ _ _ ((x1.trans x2).trans (Gx.new nf)) (fresh_back x1 (fresh_back x2 nf)) upd_same (dpAll_idx _)⟩
        · rw [if_neg hk] at q3
          exact q3.elim
end
/-! ### a def that makes a lambda -/
/-- the def's code object has a table, which is told -/
def LamF (base : Heap) (mg : Str → Option Value) (tb : List (Addr × Str)) (qual : Str) (fd : FuncData) : Prop := ∃ c P, fd.code = .ref c ∧ LamX.TabB base mg c P ∧ (P, qual ++ ".<locals>." ++ "<lambda>") ∈ tb ∧ ∀ p ∈ tb, p.1 = P → p.2 = qual ++ ".<locals>." ++ "<lambda>"
section
variable {P : Program} {w : World} {K : PySem.W.Frag} {mg : Str → Option Value} {base : Heap} {tb : List (Addr × Str)} {cv : String → Value}
theorem mk_defL {x qual : Str} {st : Stmt} {f : Addr} {fd : FuncData} {N ps : List Str} {k : Nat} {g : SE} (F : Fun K x qual st f fd) (S : FnScope N ps (defScope st)) (hmg : mg x = some (.ref f)) (hb : Binds K fd ps []) (LF : LamF base mg tb qual fd)
    (body : ∀ (cdv : Value) (A : Around) (outer : List PySem.Env) (s : Shared) (H : Hp) (O : List Addr) (E : XK), LamT (cxOf (L2.CX P w) P w K mg base N qual (defScope st) f cdv A outer s H E) tb → Room k (A.deeper (PyProof.Rows.envOfC qual (defScope st) s.heap.objs.size f cdv)) → Wk (cxOf (L2.CX P w) P w K mg base N qual (defScope st) f cdv A outer s H E) (PC.of tb cv H O E) →
      Takes (cxOf (L2.CX P w) P w K mg base N qual (defScope st) f cdv A outer s H E) (PC.of tb cv H O E).W → PassesOwn (model P w) (A.deeper (PyProof.Rows.envOfC qual (defScope st) s.heap.objs.size f cdv)) (PyProof.Rows.envOfC qual (defScope st) s.heap.objs.size f cdv) (cxOf (L2.CX P w) P w K mg base N qual (defScope st) f cdv A outer s H E).xe →
      PSs (cxOf (L2.CX P w) P w K mg base N qual (defScope st) f cdv A outer s H E) (defBody st) (tS K (PC.of tb cv H O E) g)) :
    Dfn P w K mg base tb cv (k + 1) x ps.length (runF ps.length N.length g) := by
  have kp := F.kp
  refine ⟨f, fd, ps, ?_, hmg, kp, hb⟩
  obtain ⟨oc, od, kV, doc, pm, an, cdv, ct, osl, rfl, lk, hcd⟩ := F.ex
  obtain ⟨c, T, hc, TB, hm, hu⟩ := LF
  have hc : cdv = .ref c := hc
  subst hc
  exact fn_of lk hcd S (fun vs H Q E ⟨O, args, hl, hT, al, ha, q⟩ => by rw [ha.len, hl]) fun A outer s H vs Q E hr h => body_ok (x := x) (fun O hx tk hp => ss_W (body _ A outer s H O E ⟨c, T, TB, rfl, hm, hu⟩ hr hx tk hp)) h
end
end PL

/-! PLG: a def that changes a list handed in; lists of new lists; tuple.count. -/
namespace PL
open PySem L2
section
variable {K : PySem.W.Frag} {C : PC} {O O' : List Addr} {H H' : Hp} {σ : L2.St} {ρ : Env}
theorem Rep.putM (R : Rep K C O H σ ρ) {i : Nat} {p : Addr} {vs' : List V} {ds ds' : List PyData} (hi : ρ[i]? = some (some (.mw ds))) (hs : σ[i]? = some (some (.ref p))) (a : DpAll K (hid O H) vs' ds') : Rep K C O (upd H p (.lst vs')) σ (ρ.set i (some (.mw ds'))) := by
  obtain ⟨v, h1, p', vs, rfl, hO, hM, hp, al⟩ := R.slot i _ hi
  rw [hs] at h1
  cases h1
  have hl : i < ρ.length := (List.getElem?_eq_some_iff.mp hi).1
  refine ⟨R.ex.put (.inr hM) hp rfl nofun, R.o0, R.sub, fun b hb e => ?_, by rw [List.length_set]; exact R.len, fun j s e => ?_, fun j k s t q hjk e1 o1 e2 e3 o3 e4 => ?_⟩
  · by_cases hbp : b = p
    · subst hbp; rw [upd_same] at e; cases e
    · rw [upd_ne hbp] at e; exact R.alive b hb e
  · have hh : hid O (upd H p (.lst vs')) = hid O H := hid_upd hO
    by_cases hj : j = i
    · subst hj
      rw [List.getElem?_set_self hl] at e
      cases e
      exact ⟨.ref p, hs, p, vs', rfl, hO, hM, upd_same, by rw [hh]; exact a⟩
    · rw [List.getElem?_set_ne (Ne.symm hj)] at e
      obtain ⟨v, h1, h2⟩ := R.slot j s e
      refine ⟨v, h1, ?_⟩
      cases s with
      | fz d => show Dp K (hid O _) v d; rw [hh]; exact h2
      | bw ds => obtain ⟨p2, vs2, a2, b2, c2, d2⟩ := h2; exact ⟨p2, vs2, a2, b2, c2, by rw [hh]; exact d2⟩
      | dbw ds => obtain ⟨p2, vs2, a2, b2, c2, d2⟩ := h2; exact ⟨p2, vs2, a2, b2, c2, by rw [hh]; exact d2⟩
      | er n => exact h2
      | oo dss => show OoF K _ (hid O _) v dss; rw [hh]; exact h2
      | mw ds =>
        obtain ⟨p2, vs2, rfl, b2, c2, d2, e2⟩ := h2
        have : p2 ≠ p := fun z => by subst z; exact R.apart j i _ _ _ hj e rfl h1 hi rfl hs
        exact ⟨p2, vs2, rfl, b2, c2, by rw [upd_ne this]; exact d2, by rw [hh]; exact e2⟩
      | og ds =>
        obtain ⟨p2, vs2, rfl, b2, c2, d2, e2⟩ := h2
        have : p2 ≠ p := fun z => by subst z; exact R.apart j i _ _ _ hj e rfl h1 hi rfl hs
        exact ⟨p2, vs2, rfl, b2, c2, by rw [upd_ne this]; exact d2, by rw [hh]; exact e2⟩
      | ow ds =>
        obtain ⟨p2, vs2, rfl, b2, c2, d2, e2⟩ := h2
        have : p2 ≠ p := fun z => by subst z; exact R.apart j i _ _ _ hj e rfl h1 hi rfl hs
        exact ⟨p2, vs2, rfl, b2, c2, by rw [upd_ne this]; exact d2, by rw [hh]; exact e2⟩
      | dow ds =>
        obtain ⟨p2, vs2, rfl, b2, c2, d2, e2⟩ := h2
        have : p2 ≠ p := fun z => by subst z; exact R.apart j i _ _ _ hj e rfl h1 hi rfl hs
        exact ⟨p2, vs2, rfl, b2, c2, by rw [upd_ne this]; exact d2, by rw [hh]; exact e2⟩
  · have back : ∀ (j : Nat) (s : SL), (ρ.set i (some (.mw ds')))[j]? = some (some s) → ownS s = true → ∃ s', ρ[j]? = some (some s') ∧ ownS s' = true := fun j s e o => by
      by_cases hj : j = i
      · subst hj; exact ⟨_, hi, rfl⟩
      · rw [List.getElem?_set_ne (Ne.symm hj)] at e; exact ⟨s, e, o⟩
    obtain ⟨s', a1, a2⟩ := back j s e1 o1
    obtain ⟨t', b1, b2⟩ := back k t e3 o3
    exact R.apart j k s' t' q hjk a1 a2 e2 b1 b2 e4
/-- a new thing becomes an own one -/
theorem Rep.setOwn (R : Rep K C O H σ ρ) {i : Nat} {p : Addr} {u : SL} (x : Gx C.T H H') (n : H p = none) (h : H' p ≠ none) (a : SlotOk K C (p :: O) H' (.ref p) u) : Rep K C (p :: O) H' (σ.set i (some (.ref p))) (ρ.set i (some u)) := by
  have R1 : Rep K C (p :: O) H' σ ρ := R.more x n h
  refine ⟨R1.ex, R1.o0, R1.sub, R1.alive, by rw [List.length_set, List.length_set]; exact R.len, fun j s e => ?_, fun j k s t q hjk e1 o1 e2 e3 o3 e4 => ?_⟩
  · by_cases hj : j = i
    · subst hj
      have hl : j < ρ.length := by
        have := (List.getElem?_eq_some_iff.mp e).1
        rw [List.length_set] at this
        exact this
      rw [List.getElem?_set_self hl] at e
      cases e
      exact ⟨.ref p, by rw [List.getElem?_set_self (by rw [R.len]; exact hl)], a⟩
    · rw [List.getElem?_set_ne (Ne.symm hj)] at e
      rw [List.getElem?_set_ne (Ne.symm hj)]
      exact R1.slot j s e
  · have old : ∀ (j : Nat) (s : SL), ρ[j]? = some (some s) → ownS s = true → σ[j]? = some (some (.ref p)) → False := fun j s e1 o1 e2 => by
      obtain ⟨v, h1, h2⟩ := R.slot j s e1
      rw [e2] at h1
      cases h1
      cases s with
      | ow ds => obtain ⟨p', vs', e, b, _⟩ := h2; cases e; exact R.alive _ b n
      | dow ds => obtain ⟨p', vs', e, b, _⟩ := h2; cases e; exact R.alive _ b n
      | mw ds => obtain ⟨p', vs', e, b, _⟩ := h2; cases e; exact R.alive _ b n
      | og ds => obtain ⟨p', vs', e, b, _⟩ := h2; cases e; exact R.alive _ b n
      | _ => cases o1
    by_cases hj : j = i
    · subst hj
      have hl : j < ρ.length := by
        have := (List.getElem?_eq_some_iff.mp e1).1
        rw [List.length_set] at this
        exact this
      rw [List.getElem?_set_self (by rw [R.len]; exact hl)] at e2
      cases e2
      rw [List.getElem?_set_ne hjk] at e3 e4
      exact old k t e3 o3 e4
    · by_cases hk : k = i
      · subst hk
        have hl : k < ρ.length := by
          have := (List.getElem?_eq_some_iff.mp e3).1
          rw [List.length_set] at this
          exact this
        rw [List.getElem?_set_self (by rw [R.len]; exact hl)] at e4
        cases e4
        rw [List.getElem?_set_ne (Ne.symm hj)] at e1 e2
        exact old j s e1 o1 e2
      · rw [List.getElem?_set_ne (Ne.symm hj)] at e1 e2
        rw [List.getElem?_set_ne (Ne.symm hk)] at e3 e4
        exact R.apart j k s t q hjk e1 o1 e2 e3 o3 e4
theorem Rows.mem {G : Hp} : ∀ {qs : List Addr} {dss : List (List PyData)}, Rows K G qs dss → ∀ q ∈ qs, ∃ us, G q = some (.lst us)
  | _, _, .nil, q, h => (List.not_mem_nil h).elim
  | _, _, .cons e _ t, q, h => by
    rcases List.mem_cons.mp h with rfl | h
    · exact ⟨_, e⟩
    · exact Rows.mem t q h
theorem Rows.snoc {G : Hp} {q : Addr} {us : List V} {ds : List PyData} (h : G q = some (.lst us)) (a : DpAll K G us ds) : ∀ {qs : List Addr} {dss : List (List PyData)}, Rows K G qs dss → Rows K G (qs ++ [q]) (dss ++ [ds])
  | _, _, .nil => .cons h a .nil
  | _, _, .cons e b t => .cons e b (Rows.snoc h a t)
theorem Rows.len {G : Hp} : ∀ {qs : List Addr} {dss : List (List PyData)}, Rows K G qs dss → qs.length = dss.length
  | _, _, .nil => rfl
  | _, _, .cons _ _ t => by rw [List.length_cons, List.length_cons, Rows.len t]
/-- a row more -/
theorem Rep.putG (R : Rep K C O H σ ρ) {i : Nat} {p q : Addr} {qs : List Addr} {us : List V} {dss : List (List PyData)} {ds : List PyData} (hi : ρ[i]? = some (some (.og dss))) (hs : σ[i]? = some (some (.ref p))) (hp : H p = some (.lst (qs.map V.ref))) (hO : p ∈ O) (hn : C.H0 p = none) (oo : Oo K C.H0 (hid O H) qs dss) (hq : hid O H q = some (.lst us)) (hq0 : C.H0 q = none) (hqn : q ∉ qs) (a : DpAll K (hid O H) us ds) :
    Rep K C O (upd H p (.lst ((qs ++ [q]).map V.ref))) σ (ρ.set i (some (.og (dss ++ [ds])))) := by
  have hl : i < ρ.length := (List.getElem?_eq_some_iff.mp hi).1
  refine ⟨R.ex.put (.inl hn) hp rfl nofun, R.o0, R.sub, fun b hb e => ?_, by rw [List.length_set]; exact R.len, fun j s e => ?_, fun j k s t q hjk e1 o1 e2 e3 o3 e4 => ?_⟩
  · by_cases hbp : b = p
    · subst hbp; rw [upd_same] at e; cases e
    · rw [upd_ne hbp] at e; exact R.alive b hb e
  · have hh : hid O (upd H p (.lst ((qs ++ [q]).map V.ref))) = hid O H := hid_upd hO
    by_cases hj : j = i
    · subst hj
      rw [List.getElem?_set_self hl] at e
      cases e
      refine ⟨.ref p, hs, p, qs ++ [q], rfl, hO, hn, upd_same, ?_⟩
      rw [hh]
      refine ⟨List.nodup_append.mpr ⟨oo.nd, List.nodup_cons.mpr ⟨List.not_mem_nil, List.nodup_nil⟩, fun b hb c hc z => ?_⟩, fun b hb => ?_, oo.row.snoc hq a⟩
      · rw [List.mem_singleton.mp hc] at z
        subst z
        exact hqn hb
      · rcases List.mem_append.mp hb with hb | hb
        · exact oo.new b hb
        · rw [List.mem_singleton.mp hb]; exact hq0
    · rw [List.getElem?_set_ne (Ne.symm hj)] at e
      obtain ⟨v, h1, h2⟩ := R.slot j s e
      refine ⟨v, h1, ?_⟩
      cases s with
      | fz d => show Dp K (hid O _) v d; rw [hh]; exact h2
      | bw ds => obtain ⟨p2, vs2, a2, b2, c2, d2⟩ := h2; exact ⟨p2, vs2, a2, b2, c2, by rw [hh]; exact d2⟩
      | dbw ds => obtain ⟨p2, vs2, a2, b2, c2, d2⟩ := h2; exact ⟨p2, vs2, a2, b2, c2, by rw [hh]; exact d2⟩
      | er n => exact h2
      | oo dss => show OoF K _ (hid O _) v dss; rw [hh]; exact h2
      | mw ds =>
        obtain ⟨p2, vs2, rfl, b2, c2, d2, e2⟩ := h2
        have : p2 ≠ p := fun z => by subst z; exact R.apart j i _ _ _ hj e rfl h1 hi rfl hs
        exact ⟨p2, vs2, rfl, b2, c2, by rw [upd_ne this]; exact d2, by rw [hh]; exact e2⟩
      | og ds =>
        obtain ⟨p2, vs2, rfl, b2, c2, d2, e2⟩ := h2
        have : p2 ≠ p := fun z => by subst z; exact R.apart j i _ _ _ hj e rfl h1 hi rfl hs
        exact ⟨p2, vs2, rfl, b2, c2, by rw [upd_ne this]; exact d2, by rw [hh]; exact e2⟩
      | ow ds =>
        obtain ⟨p2, vs2, rfl, b2, c2, d2, e2⟩ := h2
        have : p2 ≠ p := fun z => by subst z; exact R.apart j i _ _ _ hj e rfl h1 hi rfl hs
        exact ⟨p2, vs2, rfl, b2, c2, by rw [upd_ne this]; exact d2, by rw [hh]; exact e2⟩
      | dow ds =>
        obtain ⟨p2, vs2, rfl, b2, c2, d2, e2⟩ := h2
        have : p2 ≠ p := fun z => by subst z; exact R.apart j i _ _ _ hj e rfl h1 hi rfl hs
        exact ⟨p2, vs2, rfl, b2, c2, by rw [upd_ne this]; exact d2, by rw [hh]; exact e2⟩
  · have back : ∀ (j : Nat) (s : SL), (ρ.set i (some (.og (dss ++ [ds]))))[j]? = some (some s) → ownS s = true → ∃ s', ρ[j]? = some (some s') ∧ ownS s' = true := fun j s e o => by
      by_cases hj : j = i
      · subst hj; exact ⟨_, hi, rfl⟩
      · rw [List.getElem?_set_ne (Ne.symm hj)] at e; exact ⟨s, e, o⟩
    obtain ⟨s', a1, a2⟩ := back j s e1 o1
    obtain ⟨t', b1, b2⟩ := back k t e3 o3
    exact R.apart j k s' t' q hjk a1 a2 e2 b1 b2 e4
end
section
variable {X : Cx} {C : PC} {a b c e k : Expr} {f g : VE} {l : LE} {pos p1 p2 apos cpos : Pos}
/-- x.insert(k, e), x handed in -/
theorem s_insM (i : Nat) {y : Str} {np : Pos} (hk : PE X k (tV X.K C g)) (ha : PE X a (tV X.K C f)) (hN : X.N[i]? = some y := by rfl) (hv : Vis X.env.scope y := by first | exact Or.inl rfl | exact Or.inr (Or.inl rfl) | exact Or.inr (Or.inr rfl)) (hd : (y == ("__debug__" : Str)) = false := by decide)
    (hcd : (y == ("__classdict__" : Str)) = false := by decide) (hs : starEach [k, a] X.env = (false, eval k X.env) :: starEach [a] X.env := by rfl) (hs2 : starEach [a] X.env = (false, eval a X.env) :: starEach [] X.env := by rfl)
    (hbase : attributeBase (.Name y np) "insert" X.env (eval (.Name y np) X.env) = eval (.Name y np) X.env := by rfl)
    (hfew : ((backTo cpos (starEach [k, a] X.env)).all (fun x => !x.1) && (backToKw cpos (keywordEach [] X.env)).all (fun x => x.1.isSome)
      && decide ([k, a].length + ([] : List Keyword).length + (if ([] : List Keyword).isEmpty then 0 else 1) < 30)) = true := by rfl)
    (hline : (apos.endLine == cpos.line) = true := by rfl) (hplain : (backTo cpos (starEach [a] X.env)).any (·.1) = false := by rfl) (hsw : swapsWith (.Call (.Attribute (.Name y np) "insert" apos) [k, a] [] cpos) none pos.line X.env = pure false := by rfl) :
    PS X (.Expr (.Call (.Attribute (.Name y np) "insert" apos) [k, a] [] cpos) pos) (tS X.K C (sInsM i g f)) :=
  ps_imp (ps_expr (pe_bm PySem.F.plainAttrs_list PySem.F.slot_list_insert PySem.F.type_list_insert mt_insert (pe_var (i := i) hN hv hd hcd) (pa_cons hk (pa_cons ha pa_nil hs2) hs) hbase hfew hline hs hplain) hsw) fun D σ H ⟨O, ρ, R, q⟩ => by
  unfold sInsM at q
  split at q
  · rename_i ds hi
    obtain ⟨v, h1, p, vs, rfl, h2, h3, h4, h5⟩ := R.slot i _ hi
    refine ⟨.ref p, h1, .inl ⟨rfl, _, SqL.of h4⟩, O, ρ, R, Post.fin R q fun n _ k0 v0 H0 x0 p0 => ?_⟩
    refine ⟨O, ρ, R.grow x0, Post.fin (R.grow x0) (Post.grow k0 (hid_mono x0)) fun d _ k v H1 x1 p1 => ?_⟩
    have x01 := x0.trans x1
    cases n with
    | int n =>
      by_cases hc : 0 ≤ n ∧ n ≤ ds.length ∧ ds.length < 1000000
      · have k2 := k
        simp only [if_pos hc] at k2
        have h4' := x01.ex _ _ h4 rfl
        refine ⟨p, vs, n, v, rfl, by rw [dp_int p0], h4', line_lt (by rw [h5.len]; exact hc.2.2), hc.1, by omega, ?_⟩
        have h5' := DpAll.mono (hid_mono x01) h5
        refine k2 σ O _ ((R.grow x01).putM hi h1 ?_) ?_
        · rw [List.append_assoc]
          exact (h5'.take _).append (.cons p1 (h5'.drop _))
        · rw [hid_upd h2]
          exact hid_mono x1
      · have k2 := k
        simp only [if_neg hc] at k2
        exact k2.elim
    | _ => exact k.elim
  · exact q.elim
/-- y = [a new list] -/
theorem s_setG {i : Nat} {y : Str} {pos' : Pos} (hN : X.N.Nodup) (hi : X.N[i]? = some y) (hx : Loc X.env.scope y) (he : PE X e (tF X.K C l)) (hse : starEach [e] X.env = (false, eval e X.env) :: starEach [] X.env := by rfl) (hs : swapsWith (.List [e] p1) (some (.Name y pos')) pos.line X.env = pure false := by rfl) (hf : X.fn y = true ∨ X.env.scope.names.lookup y = some .local := by first | exact .inl rfl | exact .inr rfl | assumption) :
    PS X (.Assign [.Name y pos'] (.List [e] p1) pos) (tS X.K C (sSetG i l)) := ps_imp (ps_set hN hi hx (pe_lst (pa_cons he pa_nil hse)) hs hf) fun D σ H ⟨O, ρ, R, q⟩ => by
  refine ⟨O, ρ, R, Post.fin R q fun ds _ k p vs H' x n h a => ⟨line_le (by show 1 ≤ 1000000; decide), fun r nr => ?_⟩⟩
  have x2 := x.trans (Gx.new nr (o := .lst [.ref p]))
  have hrp : r ≠ p := fun z => by subst z; rw [h] at nr; cases nr
  have hpO : p ∉ O := fun z => R.alive p z n
  have hG : hid (r :: O) (upd H' r (.lst [.ref p])) p = some (.lst vs) := by
    exact hid_out (by simp only [List.mem_cons, not_or]; exact ⟨Ne.symm hrp, hpO⟩) (by rw [upd_ne (Ne.symm hrp)]; exact h)
  have hx' : Ex (hid (p :: O) H') (hid (r :: O) (upd H' r (.lst [.ref p]))) := fun b o e _ => by
    obtain ⟨hb, e', hn⟩ := hid_of3 e
    have hbr : b ≠ r := ne_of_none e' nr
    exact hid_out (by simp only [List.mem_cons, not_or]; exact ⟨hbr, fun z => hb (List.mem_cons_of_mem _ z)⟩) (by rw [upd_ne hbr]; exact e') hn
  refine k _ (r :: O) _ (R.setOwn (i := i) x2 (fresh_back x nr) (by rw [upd_same]; nofun) ⟨r, [p], rfl, List.mem_cons_self, R.back0 (fresh_back x nr), upd_same, ⟨List.nodup_cons.mpr ⟨List.not_mem_nil, List.nodup_nil⟩, fun q hq => by rw [List.mem_singleton.mp hq]; exact R.back0 n, .cons hG (DpAll.mono hx' a) .nil⟩⟩) ?_
  exact hid_more x2 (fresh_back x nr)
/-- y.append(a new list) -/
theorem s_appG (i : Nat) {y : Str} {np : Pos} (ha : PE X a (tF X.K C l)) (hN : X.N[i]? = some y := by rfl) (hv : Vis X.env.scope y := by first | exact Or.inl rfl | exact Or.inr (Or.inl rfl) | exact Or.inr (Or.inr rfl)) (hd : (y == ("__debug__" : Str)) = false := by decide)
    (hcd : (y == ("__classdict__" : Str)) = false := by decide) (hs : starEach [a] X.env = (false, eval a X.env) :: starEach [] X.env := by rfl)
    (hbase : attributeBase (.Name y np) "append" X.env (eval (.Name y np) X.env) = eval (.Name y np) X.env := by rfl)
    (hfew : ((backTo cpos (starEach [a] X.env)).all (fun x => !x.1) && (backToKw cpos (keywordEach [] X.env)).all (fun x => x.1.isSome)
      && decide ([a].length + ([] : List Keyword).length + (if ([] : List Keyword).isEmpty then 0 else 1) < 30)) = true := by rfl)
    (hline : (apos.endLine == cpos.line) = true := by rfl) (hsw : swapsWith (.Call (.Attribute (.Name y np) "append" apos) [a] [] cpos) none pos.line X.env = pure false := by rfl) :
    PS X (.Expr (.Call (.Attribute (.Name y np) "append" apos) [a] [] cpos) pos) (tS X.K C (sAppG i l)) :=
  ps_imp (ps_expr (pe_bm PySem.F.plainAttrs_list PySem.F.slot_list_append PySem.F.type_list_append mt_append (pe_var (i := i) hN hv hd hcd) (pa_cons ha pa_nil hs) hbase hfew hline hs (by rfl)) hsw) fun D σ H ⟨O, ρ, R, q⟩ => by
  unfold sAppG at q
  split at q
  · rename_i dss hi
    obtain ⟨v, h1, p, qs, rfl, hO, hn, h4, oo⟩ := R.slot i _ hi
    refine ⟨.ref p, h1, .inl ⟨rfl, _, SqL.of h4⟩, O, ρ, R, Post.fin R q fun ds _ k r vs H1 x1 nr h a => ?_⟩
    by_cases hc : dss.length < 1000000
    · have k2 := k
      simp only [if_pos hc] at k2
      have h4' := x1.ex _ _ h4 rfl
      have R1 := R.grow x1
      have oo1 := oo.mono (hid_mono x1 (O := O))
      have hrO : r ∉ O := fun z => R.alive r z nr
      have hrq : r ∉ qs := fun z => by
        obtain ⟨us, e⟩ := oo.row.mem r z
        rw [hid_none nr] at e
        cases e
      refine ⟨p, qs.map V.ref, .ref r, rfl, rfl, h4', line_lt (by rw [List.length_map, oo.row.len]; exact hc), ?_⟩
      have R2 := R1.putG hi h1 h4' hO hn oo1 (q := r) (us := vs) (hid_out hrO h) (R.back0 nr) hrq (DpAll.mono (hid_sub fun b z => List.mem_cons_of_mem _ z) a)
      rw [List.map_append] at R2
      refine k2 σ O _ R2 ?_
      rw [hid_upd hO]
      exact hid_mono x1
    · have k2 := k
      simp only [if_neg hc] at k2
      exact k2.elim
  · exact q.elim
end

/-! ### a def that changes the list handed in first -/
def spM (K : PySem.W.Frag) (tb : List (Addr × Str)) (n : Nat) (F : FM) : Sp := fun vs H Q _ => ∃ O p us ds rest args es, vs = .ref p :: rest ∧ args.length + 1 = n ∧ p ∈ O ∧ H p = some (.lst us) ∧ DpAll K (hid O H) us ds ∧ LamX.Tabs tb H ∧ (∀ b ∈ O, H b ≠ none) ∧ ArgsOk K O H rest args ∧ (∀ s ∈ args, ∃ d, s = .fz d) ∧ F ds args = some es ∧
  ∀ us' H', ExM tb [p] H H' → H' p = some (.lst us') → DpAll K (hid O H') us' es → Q .non H'
structure DfnM (P : Program) (w : World) (K : PySem.W.Frag) (mg : Str → Option Value) (base : Heap) (tb : List (Addr × Str)) (k : Nat) (x : Str) (n : Nat) (F : FM) : Prop where
  ex : ∃ (f : Addr) (fd : FuncData) (ps : List Str), FnOk P w K mg base (L2.CX P w) k f fd ps (spM K tb n F) ∧ mg x = some (.ref f) ∧ PySem.W.keepIn K (.ref f) = true ∧ Binds K fd ps []
theorem DfnM.imp {P : Program} {w : World} {K : PySem.W.Frag} {mg : Str → Option Value} {base : Heap} {tb : List (Addr × Str)} {k : Nat} {x : Str} {n : Nat} {F F' : FM} (D : DfnM P w K mg base tb k x n F) (h : ∀ ds as es, F' ds as = some es → F ds as = some es) : DfnM P w K mg base tb k x n F' := by
  obtain ⟨f, fd, ps, F0, r⟩ := D.ex
  exact ⟨f, fd, ps, F0.imp fun vs H Q E ⟨O, p, us, ds, rest, args, es, h1, h2, h3, h4, h5, h6, h7, h8, h8', h9, q⟩ => ⟨O, p, us, ds, rest, args, es, h1, h2, h3, h4, h5, h6, h7, h8, h8', h _ _ _ h9, q⟩, r⟩
section
variable {X : Cx} {C : PC} {e : Expr} {es : List Expr} {ra : AE} {pos p1 p2 : Pos} {k n : Nat} {x : Str} {F : FM}
/-- the heap behind such a call -/
theorem Rep.callM {K : PySem.W.Frag} {O : List Addr} {H H' : Hp} {σ : L2.St} {ρ : Env} (R : Rep K C O H σ ρ) {i : Nat} {p : Addr} {us' : List V} {ds ds' : List PyData} (hi : ρ[i]? = some (some (.ow ds))) (hs : σ[i]? = some (some (.ref p))) (x : ExM C.T [p] H H') (hp : H' p = some (.lst us')) (a : DpAll K (hid O H') us' ds') :
    Rep K C O H' σ (ρ.set i (some (.ow ds'))) ∧ Ex (hid O H) (hid O H') := by
  obtain ⟨v, h1, p', vs, rfl, hO, hM, hp0, al⟩ := R.slot i _ hi
  rw [hs] at h1
  cases h1
  have hl : i < ρ.length := (List.getElem?_eq_some_iff.mp hi).1
  have st : ∀ b o, b ≠ p → H b = some o → isTbl o = false → H' b = some o := fun b o hb => x.st b o (by simpa using hb)
  have hx : Ex (hid O H) (hid O H') := fun b o e n => by
    obtain ⟨hb, e', hn⟩ := hid_of3 e
    exact hid_out hb (st b o (fun z => hb (z ▸ hO)) e' n) hn
  refine ⟨⟨⟨fun b o hb e n => ?_, fun b o e => ?_, fun q hq t => x.tab q hq (R.ex.tab q hq t)⟩, R.o0, R.sub, fun b hb e => ?_, by rw [List.length_set]; exact R.len, fun j s e => ?_, fun j k s t q hjk e1 o1 e2 e3 o3 e4 => ?_⟩, hx⟩
  · by_cases hbp : b = p
    · subst hbp
      rcases hM with z | z
      · rw [z] at e; cases e
      · exact absurd z hb
    · exact st b o hbp (R.ex.st b o hb e n) n
  · cases q : H b with
    | none => exact absurd q (R.ex.tb b o e)
    | some u => exact x.tb b u q
  · cases q : H b with
    | none => exact R.alive b hb q
    | some u => exact x.tb b u q e
  · by_cases hj : j = i
    · subst hj
      rw [List.getElem?_set_self hl] at e
      cases e
      exact ⟨.ref p, hs, p, us', rfl, hO, hM, hp, a⟩
    · rw [List.getElem?_set_ne (Ne.symm hj)] at e
      obtain ⟨v, h1, h2⟩ := R.slot j s e
      refine ⟨v, h1, ?_⟩
      cases s with
      | fz d => exact Dp.mono hx h2
      | bw ds => obtain ⟨p2, vs2, a2, b2, c2, d2⟩ := h2; exact ⟨p2, vs2, a2, b2, c2, DpAll.mono hx d2⟩
      | dbw ds => obtain ⟨p2, vs2, a2, b2, c2, d2⟩ := h2; exact ⟨p2, vs2, a2, b2, c2, KvAll.mono hx d2⟩
      | er n => exact h2
      | oo dss => exact OoF.mono hx h2
      | mw ds =>
        obtain ⟨p2, vs2, rfl, b2, c2, d2, e2⟩ := h2
        have : p2 ≠ p := fun z => by subst z; exact R.apart j i _ _ _ hj e rfl h1 hi rfl hs
        exact ⟨p2, vs2, rfl, b2, c2, st _ _ this d2 rfl, DpAll.mono hx e2⟩
      | og ds =>
        obtain ⟨p2, vs2, rfl, b2, c2, d2, e2⟩ := h2
        have : p2 ≠ p := fun z => by subst z; exact R.apart j i _ _ _ hj e rfl h1 hi rfl hs
        exact ⟨p2, vs2, rfl, b2, c2, st _ _ this d2 rfl, e2.mono hx⟩
      | ow ds =>
        obtain ⟨p2, vs2, rfl, b2, c2, d2, e2⟩ := h2
        have : p2 ≠ p := fun z => by subst z; exact R.apart j i _ _ _ hj e rfl h1 hi rfl hs
        exact ⟨p2, vs2, rfl, b2, c2, st _ _ this d2 rfl, DpAll.mono hx e2⟩
      | dow ds =>
        obtain ⟨p2, vs2, rfl, b2, c2, d2, e2⟩ := h2
        have : p2 ≠ p := fun z => by subst z; exact R.apart j i _ _ _ hj e rfl h1 hi rfl hs
        exact ⟨p2, vs2, rfl, b2, c2, st _ _ this d2 rfl, KvAll.mono hx e2⟩
  · have back : ∀ (j : Nat) (s : SL), (ρ.set i (some (.ow ds')))[j]? = some (some s) → ownS s = true → ∃ s', ρ[j]? = some (some s') ∧ ownS s' = true := fun j s e o => by
      by_cases hj : j = i
      · subst hj; exact ⟨_, hi, rfl⟩
      · rw [List.getElem?_set_ne (Ne.symm hj)] at e; exact ⟨s, e, o⟩
    obtain ⟨s', a1, a2⟩ := back j s e1 o1
    obtain ⟨t', b1, b2⟩ := back k t e3 o3
    exact R.apart j k s' t' q hjk a1 a2 e2 b1 b2 e4
theorem ExM.pre {τ : List (Addr × Str)} {M : List Addr} {H H1 H2 : Hp} (a : Gx τ H H1) (b : ExM τ M H1 H2) : ExM τ M H H2 := by
  refine ⟨fun x o hx h n => b.st x o hx (a.ex x o h n) n, fun x o h => ?_, fun p hp t => b.tab p hp (a.tab p hp t)⟩
  cases e : H1 x with
  | none => exact absurd e (a.tb x o h)
  | some u => exact b.tb x u e
theorem s_callM (i : Nat) {y : Str} {np : Pos} (D : DfnM X.prog X.w X.K X.mg X.base C.T k x n F) (hr : Room k X.A) (hx : Wk X C) (hg : Gl X x) (ha : PA X es (tAr X.K C ra)) (hn : ∀ ρ ss, ra ρ = .ok ss → ss.length + 1 = n) (hfz : ∀ ρ ss, ra ρ = .ok ss → ∀ s ∈ ss, ∃ d, s = .fz d) (hN : X.N[i]? = some y := by rfl) (hv : Vis X.env.scope y := by first | exact Or.inl rfl | exact Or.inr (Or.inl rfl) | exact Or.inr (Or.inr rfl)) (hd : (y == ("__debug__" : Str)) = false := by decide)
    (hcd : (y == ("__classdict__" : Str)) = false := by decide) (hdb : (x == ("__debug__" : Str)) = false := by decide) (he : starEach (.Name y np :: es) X.env = (false, eval (.Name y np) X.env) :: starEach es X.env := by rfl) (hpl : (backTo pos (starEach es X.env)).any (·.1) = false := by rfl) (hsw : swapsWith (.Call (.Name x p1) (.Name y np :: es) [] pos) none p2.line X.env = pure false := by rfl) :
    PS X (.Expr (.Call (.Name x p1) (.Name y np :: es) [] pos) p2) (tS X.K C (sCallM F i ra)) := by
  obtain ⟨f, fd, ps, F0, hmg, hk, hb⟩ := D.ex
  refine ps_imp (ps_expr (pe_callS F0 hr hg hmg hk hb hx (pa_cons (pe_var (i := i) hN hv hd hcd) ha he) hdb he hpl) hsw) fun D σ H ⟨O, ρ, R, q⟩ => ?_
  unfold sCallM at q
  split at q
  · rename_i ds hi
    obtain ⟨p, vs, h1, h2, h3, h4, h5⟩ := R.own hi
    refine ⟨.ref p, h1, O, ρ, R, Post.fin R q fun ss ess k us H1 x1 a1 => ?_⟩
    have R1 := R.grow x1
    cases z : F ds ss with
    | some es' =>
      have k2 := k
      rw [z] at k2
      refine ⟨O, p, vs, ds, us, ss, es', rfl, hn _ _ ess, h2, x1.ex _ _ h4 rfl, DpAll.mono (hid_mono x1) h5, R1.tabs, R1.alive, a1, hfz _ _ ess, z, fun us' H' x2 hp a => ?_⟩
      obtain ⟨R2, hx2⟩ := R1.callM hi h1 x2 hp a
      exact (show ∀ σ' O' H', Rep X.K C O' H' σ' (ρ.set i (some (.ow es'))) → Ex (hid O H) (hid O' H') → D.nx σ' H' from k2) σ O H' R2 ((hid_mono x1).trans hx2)
    | none => have k2 := k; rw [z] at k2; exact k2.elim
  · exact q.elim
end
theorem fz_nil : ∀ ρ ss, rNil ρ = .ok ss → ∀ s ∈ ss, ∃ d, s = .fz d := fun ρ ss h s hs => by
  cases h
  cases hs
theorem fz_V {f : VE} {ra : AE} (h : ∀ ρ ss, ra ρ = .ok ss → ∀ s ∈ ss, ∃ d, s = .fz d) : ∀ ρ ss, rV f ra ρ = .ok ss → ∀ s ∈ ss, ∃ d, s = .fz d := fun ρ ss e s hs => by
  unfold rV at e
  cases e1 : f ρ with
  | ok d =>
    rw [e1] at e
    cases e2 : ra ρ with
    | ok r =>
      rw [e2] at e
      cases e
      rcases List.mem_cons.mp hs with rfl | hs
      · exact ⟨d, rfl⟩
      · exact h ρ r e2 s hs
    | exc n => rw [e2] at e; cases e
    | stuck => rw [e2] at e; cases e
  | exc n => rw [e1] at e; cases e
  | stuck => rw [e1] at e; cases e
theorem len_M {ra : AE} {n : Nat} (h : ArLen ra n) : ∀ ρ ss, ra ρ = .ok ss → ss.length + 1 = n + 1 := fun ρ ss e => by rw [h ρ ss e]
/-! ### such a def by its body -/
def PC.ofM (tb : List (Addr × Str)) (cv : String → Value) (H : Hp) (O : List Addr) (p : Addr) (E : XK) : PC := ⟨[p], H, O, fun cls d _ H' => E cls d H', cv, fun _ _ => False, tb⟩
section
variable {P : Program} {w : World} {K : PySem.W.Frag} {mg : Str → Option Value} {base : Heap} {tb : List (Addr × Str)} {cv : String → Value}
theorem argsM_rep {O : List Addr} {H : Hp} {E : XK} {p : Addr} {us : List V} {ds : List PyData} {vs : List V} {args : List SL} {n : Nat} (hT : LamX.Tabs tb H) (al : ∀ b ∈ O, H b ≠ none) (hO : p ∈ O) (hp : H p = some (.lst us)) (a : DpAll K (hid O H) us ds) (h : ArgsOk K O H vs args) (hf : ∀ s ∈ args, ∃ d, s = .fz d) :
    Rep K (PC.ofM tb cv H O p E) O H ((V.ref p :: vs).map some ++ List.replicate n none) ((some (.mw ds) :: args.map some) ++ List.replicate n none) := by
  have hl := h.len
  have key : ∀ (i : Nat) (s : SL), (args.map some ++ List.replicate n none)[i]? = some (some s) → ownS s = false ∧ ∃ v, (vs.map some ++ List.replicate n none)[i]? = some (some v) ∧ SlotOk K (PC.ofM tb cv H O p E) O H v s := by
    clear hl
    induction h with
    | nil =>
      intro i s e
      rw [List.map_nil, List.nil_append, List.getElem?_replicate] at e
      split at e <;> cases e
    | @cons v vs s ss h _ ih =>
      intro i t e
      cases i with
      | zero =>
        cases e
        obtain ⟨d, rfl⟩ := hf s List.mem_cons_self
        exact ⟨rfl, v, rfl, h⟩
      | succ i => exact ih (fun s hs => hf s (List.mem_cons_of_mem _ hs)) i t e
  refine ⟨ExM.refl _ _, ⟨fun b hb => al b hb, hT⟩, fun b hb => hb, al, ?_, fun i s e => ?_, fun i j s t q hij e1 o1 e2 e3 o3 e4 => ?_⟩
  · simp [hl]
  · cases i with
    | zero =>
      cases e
      exact ⟨.ref p, rfl, p, us, rfl, hO, List.mem_singleton.mpr rfl, hp, a⟩
    | succ i => exact (key i s e).2
  · cases i with
    | zero =>
      cases j with
      | zero => exact hij rfl
      | succ j => rw [(key j t e3).1] at o3; cases o3
    | succ i => rw [(key i s e1).1] at o1; cases o1
theorem mk_defM {x qual : Str} {st : Stmt} {f : Addr} {fd : FuncData} {N ps : List Str} {k : Nat} {g : SE} (F : Fun K x qual st f fd) (S : FnScope N ps (defScope st)) (hmg : mg x = some (.ref f)) (hb : Binds K fd ps [])
    (body : ∀ (cdv : Value) (A : Around) (outer : List PySem.Env) (s : Shared) (H : Hp) (O : List Addr) (p : Addr) (E : XK), Room k (A.deeper (PyProof.Rows.envOfC qual (defScope st) s.heap.objs.size f cdv)) → Wk (cxOf (L2.CX P w) P w K mg base N qual (defScope st) f cdv A outer s H E) (PC.ofM tb cv H O p E) →
      Takes (cxOf (L2.CX P w) P w K mg base N qual (defScope st) f cdv A outer s H E) (PC.ofM tb cv H O p E).W → PassesOwn (model P w) (A.deeper (PyProof.Rows.envOfC qual (defScope st) s.heap.objs.size f cdv)) (PyProof.Rows.envOfC qual (defScope st) s.heap.objs.size f cdv) (cxOf (L2.CX P w) P w K mg base N qual (defScope st) f cdv A outer s H E).xe →
      PSs (cxOf (L2.CX P w) P w K mg base N qual (defScope st) f cdv A outer s H E) (defBody st) (tS K (PC.ofM tb cv H O p E) g)) :
    DfnM P w K mg base tb (k + 1) x ps.length (runM ps.length N.length g) := by
  refine ⟨f, fd, ps, ?_, hmg, F.kp, hb⟩
  refine F.okX S (fun vs H Q E ⟨O, p, us, ds, rest, args, es, e, hl, _, _, _, _, _, ha, _⟩ => by rw [e, List.length_cons, ha.len, hl]) fun cdv A outer s H vs Q E hr h => ?_
  obtain ⟨O, p, us, ds, rest, args, es, rfl, hl, hO, hp, a, hT, al, ha, hf, hF, q⟩ := h
  have tk : Takes (cxOf (L2.CX P w) P w K mg base N qual (defScope st) f cdv A outer s H E) (PC.ofM tb cv H O p E).W := takes_of rfl rfl rfl rfl
  refine ⟨_, body cdv A outer s H O p E hr (fun σ => passAt tk σ) tk (passes_of rfl), O, (some (.mw ds) :: args.map some) ++ List.replicate (N.length - ps.length) none, ?_, ?_⟩
  · have hv : (V.ref p :: rest).length = ps.length := by rw [List.length_cons, ha.len, hl]
    unfold L2.start
    rw [hv]
    exact argsM_rep hT al hO hp a ha hf
  · unfold runM at hF
    rw [if_pos hl] at hF
    cases hg : g ((some (.mw ds) :: args.map some) ++ List.replicate (N.length - ps.length) none) with
    | nx ρ' =>
      rw [hg] at hF
      intro σ' O' H' R _
      match ρ', hF, R with
      | some (.mw es') :: r, hF, R =>
        have e : es' = es := Option.some.inj hF
        subst e
        obtain ⟨v, h1, p', us', rfl, h2, h3, h4, h5⟩ := R.slot 0 _ rfl
        have e : p' = p := List.mem_singleton.mp h3
        subst e
        exact q us' H' R.ex h4 (DpAll.mono (hid_sub R.sub) h5)
    | rt r ρ' => rw [hg] at hF; cases hF
    | ex n ρ' => rw [hg] at hF; cases hF
    | bk ρ' => rw [hg] at hF; cases hF
    | ct ρ' => rw [hg] at hF; cases hF
    | stuck => rw [hg] at hF; cases hF
end
/-! ### t.count(k), t a tuple of whole numbers -/
section
variable {X : Cx} {C : PC} {a b : Expr} {f g : VE} {pos apos : Pos}
def rCntT (K : PySem.W.Frag) : V → List V → Hp → VK → Prop := fun x xs H Q => ∃ (p : Addr) (ns : List Int) (k : Int), x = .ref p ∧ xs = [.int k] ∧ SqT K H p (ns.map V.int) ∧ Q (.int (ns.count k : Nat)) H
theorem mt_tcount : MtR X "tuple.count" (rCntT X.K) := by
  intro pins s σ H x xs v us Q I rx rxs h
  obtain ⟨p, ns, k, rfl, rfl, hs, q⟩ := h
  cases rx
  obtain ⟨u, rfl, ru⟩ := rxs.one
  obtain ⟨t, rfl⟩ := ru
  obtain ⟨its, rv, ⟨⟨cls, dd, data, sl⟩, ho, hc, n, hd⟩, hlen⟩ := I.tuple hs
  simp only at hc hd
  subst hc hd
  have hi := ints_of_vals rv
  refine call_meets PySem.F.slot_tuple_count ⟨_, ho, rfl⟩ PySem.F.entry_tuple_count (PySem.F.args_tuple_count_2 _ _)
    (SeqAt.tuple_countAt p its.toArray n dd sl (.int k t) (eqk k)) ⟨ho, fun y hy => (eqk_gives hi y (by simpa using hy)).at _ _, ?_⟩
  have ec : its.toArray.toList.countP (eqk k) = ns.count k := eqk_count hi
  refine ⟨.int (ns.count k : Nat), H, I.tok _, ⟨s.toks, ?_⟩, q⟩
  show Value.int ((its.toArray.toList.countP (eqk k) : Nat) : Int) s.toks = Value.int ((ns.count k : Nat) : Int) s.toks
  rw [ec]
/-- no tuple among the given objects holds an instance dict -/
def TupK (K : PySem.W.Frag) : Prop := ∀ a o, K.lookup a = some o → o.cls = .type "tuple" → o.dict = none
theorem tupK_of {K : PySem.W.Frag} (h : K.all (fun p => match p.2.cls with
    | .type "tuple" => p.2.dict.isNone
    | _ => true) = true) : TupK K := fun a o e hc => by
  have hm : ∀ (K : PySem.W.Frag), K.lookup a = some o → (a, o) ∈ K := fun K => by
    induction K with
    | nil => intro z; cases z
    | cons p r ih =>
      intro z
      obtain ⟨b, u⟩ := p
      rw [List.lookup_cons] at z
      split at z
      · rename_i hb
        have := beq_iff_eq.mp hb
        subst this
        cases z
        exact List.mem_cons_self
      · exact List.mem_cons_of_mem _ (ih z)
  have := List.all_eq_true.mp h _ (hm K e)
  dsimp only at this
  rw [hc] at this
  exact Option.isNone_iff_eq_none.mp this
def tyTup (K : PySem.W.Frag) : V → Hp → Prop := fun x H => ∃ a xs, x = .ref a ∧ SqT K (hid [] H) a xs
theorem ty_tup (hk : TupK X.K) : TyOk X "tuple" (tyTup X.K) := by
  intro pins σ H s x v I r ⟨a, xs, e, h⟩
  subst e
  cases r
  rcases h with (h | ⟨o, h⟩) | ⟨o, its, n, h1, h2, h3, h4, h5⟩
  · have := (hid_of3 h).2.2
    cases this
  · obtain ⟨_, h, hn⟩ := hid_of3 h
    obtain ⟨ho, _, us, _, o', ho', hc, n, hd⟩ := I.hok a _ h
    rw [ho] at ho'
    cases ho'
    refine ⟨⟨o, ho, hc⟩, fun b e => ?_⟩
    cases e
    refine ⟨o, ho, ?_⟩
    have hn : o.dict.isSome = false := hn
    cases q : o.dict with
    | none => rfl
    | some _ => rw [q] at hn; cases hn
  · have ho := I.kIn a o h1
    exact ⟨⟨o, ho, h2⟩, fun b e => by cases e; exact ⟨o, ho, hk a o h1 h2⟩⟩
theorem v_tcount (hk : TupK X.K) (ha : PE X a (tV X.K C f)) (hb : PE X b (tV X.K C g)) (hs : starEach [b] X.env = (false, eval b X.env) :: starEach [] X.env := by rfl) (hbase : attributeBase a "count" X.env (eval a X.env) = eval a X.env := by rfl)
    (hfew : ((backTo pos (starEach [b] X.env)).all (fun x => !x.1) && (backToKw pos (keywordEach [] X.env)).all (fun x => x.1.isSome)
      && decide ([b].length + ([] : List Keyword).length + (if ([] : List Keyword).isEmpty then 0 else 1) < 30)) = true := by rfl) (hline : (apos.endLine == pos.line) = true := by rfl) :
    PE X (.Call (.Attribute a "count" apos) [b] [] pos) (tV X.K C (eTCount f g)) :=
  pe_imp (pe_mG (ty_tup hk) PySem.F.plainAttrs_tuple PySem.F.slot_tuple_count PySem.F.type_tuple_count mt_tcount ha (pa_cons hb pa_nil hs) hbase hfew hline hs (by rfl)) fun σ H Q ⟨O, ρ, R, q⟩ => by
  refine ⟨O, ρ, R, (Fin.bind q).imp fun d _ q1 v H1 x1 p1 => ?_⟩
  have R1 := R.grow x1
  cases d with
  | tuple ds =>
    obtain ⟨p, vs, rfl, s, al⟩ := dp_tup p1
    refine ⟨⟨p, vs, rfl, ex_t (hid_sub fun b z => (List.not_mem_nil z).elim) s⟩, O, ρ, R1, ((Fin.bind (show Fin C σ H ((g ρ).bind (cntOf ds)) _ from q1)).grow x1).imp fun e _ q2 u H2 x2 p2 => ?_⟩
    cases e with
    | int k =>
      unfold cntOf at q2
      cases z : asInts ds with
      | none => simp only [z] at q2; exact q2.elim
      | some ns =>
        simp only [z] at q2
        have hv := DpAll.ints al z
        subst hv
        exact ⟨p, ns, k, rfl, by rw [dp_int p2], ex_t ((hid_ex (O := O)).trans x2.ex) s, (show ∀ v H', Gx C.T H H' → Dp X.K (hid O H') v (.int ((ns.count k : Nat) : Int)) → Q v H' from q2) _ H2 (x1.trans x2) (.int _)⟩
    | _ => exact q2.elim
  | _ => exact q1.elim
end
end PL

/-! PLT: for y in x: y.append(e), x a list of new lists. -/
namespace PL
open PySem L2
section
variable {K : PySem.W.Frag} {C : PC} {O qs : List Addr} {G G' H H' : Hp} {σ σ' : L2.St} {ρ : Env}
theorem flat_any {v : V} {d : PyData} (h : Dp K G v d) (hf : flatD d = true) : Dp K G' v d := by
  cases h with
  | non => exact .non
  | bl b => exact .bl b
  | int i => exact .int i
  | str s => exact .str s
  | lst _ _ => cases hf
  | tup _ _ => cases hf
theorem flats_any : ∀ {vs : List V} {ds : List PyData}, DpAll K G vs ds → ds.all flatD = true → DpAll K G' vs ds
  | _, _, .nil, _ => .nil
  | _, _, .cons h t, hf => by
    rw [List.all_cons, Bool.and_eq_true] at hf
    exact .cons (flat_any h hf.1) (flats_any t hf.2)
theorem hide_at (hq : ∀ q ∈ qs, ∃ us, H q = some (.lst us)) {a : Addr} {u : HO} (h : hid O H a = some u) (hu : ∀ us, u ≠ .lst us) : hid (qs ++ O) H a = some u := by
  obtain ⟨h1, h2, h3⟩ := hid_of3 h
  refine hid_out (fun z => ?_) h2 h3
  rcases List.mem_append.mp z with z | z
  · obtain ⟨us, e⟩ := hq a z
    rw [h2] at e
    exact hu us (Option.some.inj e)
  · exact h1 z
theorem hideT (hq : ∀ q ∈ qs, ∃ us, H q = some (.lst us)) {a : Addr} {xs : List V} (h : SqT K (hid O H) a xs) : SqT K (hid (qs ++ O) H) a xs := by
  rcases h with (h | ⟨o, h⟩) | h
  · exact .inl (.inl (hide_at hq h nofun))
  · exact .inl (.inr ⟨o, hide_at hq h nofun⟩)
  · exact .inr h
theorem hide1 (hq : ∀ q ∈ qs, ∃ us, H q = some (.lst us)) {v : V} {d : PyData} (h : Dp K (hid O H) v d) (hf : noL1 d = true) : Dp K (hid (qs ++ O) H) v d := by
  cases h with
  | non => exact .non
  | bl b => exact .bl b
  | int i => exact .int i
  | str s => exact .str s
  | lst _ _ => cases hf
  | tup s al => exact .tup (hideT hq s) (flats_any al hf)
theorem hides1 (hq : ∀ q ∈ qs, ∃ us, H q = some (.lst us)) : ∀ {vs : List V} {ds : List PyData}, DpAll K (hid O H) vs ds → ds.all noL1 = true → DpAll K (hid (qs ++ O) H) vs ds
  | _, _, .nil, _ => .nil
  | _, _, .cons h t, hf => by
    rw [List.all_cons, Bool.and_eq_true] at hf
    exact .cons (hide1 hq h hf.1) (hides1 hq t hf.2)
theorem hide2 (hq : ∀ q ∈ qs, ∃ us, H q = some (.lst us)) {v : V} {d : PyData} (h : Dp K (hid O H) v d) (hf : noL2 d = true) : Dp K (hid (qs ++ O) H) v d := by
  cases h with
  | non => exact .non
  | bl b => exact .bl b
  | int i => exact .int i
  | str s => exact .str s
  | lst _ _ => cases hf
  | tup s al => exact .tup (hideT hq s) (hides1 hq al hf)
theorem hides2 (hq : ∀ q ∈ qs, ∃ us, H q = some (.lst us)) : ∀ {vs : List V} {ds : List PyData}, DpAll K (hid O H) vs ds → ds.all noL2 = true → DpAll K (hid (qs ++ O) H) vs ds
  | _, _, .nil, _ => .nil
  | _, _, .cons h t, hf => by
    rw [List.all_cons, Bool.and_eq_true] at hf
    exact .cons (hide2 hq h hf.1) (hides2 hq t hf.2)
/-- the rows as they stand -/
inductive RowsM (K : PySem.W.Frag) (H G : Hp) : List Addr → List (List PyData) → Prop
  | nil : RowsM K H G [] []
  | cons {q : Addr} {us : List V} {ds : List PyData} {qs : List Addr} {dss : List (List PyData)} : H q = some (.lst us) → DpAll K G us ds → RowsM K H G qs dss → RowsM K H G (q :: qs) (ds :: dss)
theorem RowsM.get : ∀ {qs : List Addr} {dss : List (List PyData)} {k : Nat} {q : Addr}, RowsM K H G qs dss → qs[k]? = some q → ∃ us ds, dss[k]? = some ds ∧ H q = some (.lst us) ∧ DpAll K G us ds
  | _, _, _, _, .nil, e => by cases e
  | _, _, 0, _, .cons h a _, e => by cases e; exact ⟨_, _, rfl, h, a⟩
  | _, _, k + 1, _, .cons _ _ t, e => RowsM.get (k := k) t (by simpa using e)
theorem RowsM.grow (x : ∀ q us, H q = some (.lst us) → H' q = some (.lst us)) (g : Ex G G') : ∀ {qs : List Addr} {dss : List (List PyData)}, RowsM K H G qs dss → RowsM K H' G' qs dss
  | _, _, .nil => .nil
  | _, _, .cons h a t => .cons (x _ _ h) (DpAll.mono g a) (RowsM.grow x g t)
theorem RowsM.other {q : Addr} {o : HO} : ∀ {qs : List Addr} {dss : List (List PyData)}, q ∉ qs → RowsM K H G qs dss → RowsM K (upd H q o) G qs dss
  | _, _, _, .nil => .nil
  | _, _, n, .cons h a t => .cons (by rw [upd_ne fun z => n (by rw [← z]; exact List.mem_cons_self)]; exact h) a (RowsM.other (fun z => n (List.mem_cons_of_mem _ z)) t)
theorem RowsM.set {us : List V} {ds : List PyData} (a : DpAll K G us ds) : ∀ {qs : List Addr} {dss : List (List PyData)} {k : Nat} {q : Addr}, qs.Nodup → RowsM K H G qs dss → qs[k]? = some q → RowsM K (upd H q (.lst us)) G qs (dss.set k ds)
  | _, _, _, _, _, .nil, e => by cases e
  | _, _, 0, _, n, .cons h b t, e => by
    cases e
    exact .cons upd_same a (t.other (List.nodup_cons.mp n).1)
  | r :: _, _ :: _, k + 1, q, n, .cons h b t, e => by
    have e' : _ := (by simpa using e)
    have hq : q ≠ r := fun z => by
      subst z
      exact (List.nodup_cons.mp n).1 (List.mem_of_getElem? e')
    exact .cons (by rw [upd_ne (Ne.symm hq)]; exact h) b (RowsM.set a (List.nodup_cons.mp n).2 t e')
/-- the first k rows are longer -/
def curr (dss : List (List PyData)) (d : PyData) (k : Nat) : List (List PyData) := (dss.take k).map (· ++ [d]) ++ dss.drop k
theorem curr_s {dss : List (List PyData)} {d : PyData} {k : Nat} {ds : List PyData} (h : dss[k]? = some ds) : (curr dss d k)[k]? = some ds ∧ (curr dss d k).set k (ds ++ [d]) = curr dss d (k + 1) := by
  obtain ⟨hk, e⟩ := List.getElem?_eq_some_iff.mp h
  have hl : ((dss.take k).map (· ++ [d])).length = k := by rw [List.length_map, List.length_take]; omega
  have hd : dss.drop k = ds :: dss.drop (k + 1) := by rw [List.drop_eq_getElem_cons hk, e]
  have ht : dss.take (k + 1) = dss.take k ++ [ds] := by rw [List.take_succ, h]; rfl
  unfold curr
  constructor
  · rw [List.getElem?_append_right (by omega), hl, Nat.sub_self, hd]
    rfl
  · rw [List.set_append_right _ _ (by omega), hl, Nat.sub_self, hd, ht, List.map_append, List.append_assoc]
    rfl
theorem Rep.mutH {O' : List Addr} (R : Rep K C O' H σ ρ) {q : Addr} {us us' : List V} (hq : q ∈ O') (h0 : C.H0 q = none) (h : H q = some (.lst us)) (no : ∀ (m : Nat) (s : SL), ρ[m]? = some (some s) → ownS s = true → σ[m]? ≠ some (some (.ref q))) : Rep K C O' (upd H q (.lst us')) σ ρ := by
  have hh : hid O' (upd H q (.lst us')) = hid O' H := hid_upd hq
  refine ⟨R.ex.put (.inl h0) h rfl nofun, R.o0, R.sub, fun b hb e => ?_, R.len, fun j s e => ?_, R.apart⟩
  · by_cases hbp : b = q
    · subst hbp; rw [upd_same] at e; cases e
    · rw [upd_ne hbp] at e; exact R.alive b hb e
  · obtain ⟨v, h1, h2⟩ := R.slot j s e
    refine ⟨v, h1, ?_⟩
    have ne : ∀ p, v = .ref p → ownS s = true → p ≠ q := fun p hv ho z => no j s e ho (by rw [h1, hv, z])
    cases s with
    | fz d => show Dp K (hid O' _) v d; rw [hh]; exact h2
    | bw ds => obtain ⟨p2, vs2, a2, b2, c2, d2⟩ := h2; exact ⟨p2, vs2, a2, b2, c2, by rw [hh]; exact d2⟩
    | dbw ds => obtain ⟨p2, vs2, a2, b2, c2, d2⟩ := h2; exact ⟨p2, vs2, a2, b2, c2, by rw [hh]; exact d2⟩
    | er n => exact h2
    | oo dss => show OoF K _ (hid O' _) v dss; rw [hh]; exact h2
    | mw ds => obtain ⟨p2, vs2, e1, b2, c2, d2, e2⟩ := h2; exact ⟨p2, vs2, e1, b2, c2, by rw [upd_ne (ne p2 e1 rfl)]; exact d2, by rw [hh]; exact e2⟩
    | og ds => obtain ⟨p2, vs2, e1, b2, c2, d2, e2⟩ := h2; exact ⟨p2, vs2, e1, b2, c2, by rw [upd_ne (ne p2 e1 rfl)]; exact d2, by rw [hh]; exact e2⟩
    | ow ds => obtain ⟨p2, vs2, e1, b2, c2, d2, e2⟩ := h2; exact ⟨p2, vs2, e1, b2, c2, by rw [upd_ne (ne p2 e1 rfl)]; exact d2, by rw [hh]; exact e2⟩
    | dow ds => obtain ⟨p2, vs2, e1, b2, c2, d2, e2⟩ := h2; exact ⟨p2, vs2, e1, b2, c2, by rw [upd_ne (ne p2 e1 rfl)]; exact d2, by rw [hh]; exact e2⟩
theorem keep_some {k : Nat} {s : SL} (h : (keepFlat ρ)[k]? = some (some s)) : ρ[k]? = some (some s) ∧ flatS s = true := by
  unfold keepFlat at h
  rw [List.getElem?_map] at h
  cases e : ρ[k]? with
  | none => rw [e] at h; cases h
  | some o =>
    rw [e] at h
    cases o with
    | none => cases h
    | some t =>
      simp only [Option.map_some] at h
      split at h
      · rename_i hf
        cases h
        exact ⟨rfl, hf⟩
      · cases h
theorem keepj_some {j k : Nat} {s : SL} (h : ((keepFlat ρ).set j none)[k]? = some (some s)) : ρ[k]? = some (some s) ∧ flatS s = true ∧ k ≠ j := by
  by_cases hj : k = j
  · subst hj
    have hl := (List.getElem?_eq_some_iff.mp h).1
    rw [List.length_set] at hl
    rw [List.getElem?_set_self hl] at h
    cases h
  · rw [List.getElem?_set_ne (Ne.symm hj)] at h
    exact ⟨(keep_some h).1, (keep_some h).2, hj⟩
/-- the flat slots over other hidden objects -/
theorem Rep.flat {O' : List Addr} {j : Nat} (R : Rep K C O H σ ρ) (hl : σ'.length = σ.length) (hs : ∀ m, m ≠ j → σ'[m]? = σ[m]?) (hO : ∀ b ∈ O, b ∈ O') (al : ∀ b ∈ O', H b ≠ none) : Rep K C O' H σ' ((keepFlat ρ).set j none) := by
  refine ⟨R.ex, R.o0, fun b hb => hO b (R.sub b hb), al, by rw [List.length_set]; unfold keepFlat; rw [List.length_map, hl]; exact R.len, fun k s e => ?_, fun k m s t p hkm e1 o1 e2 e3 o3 e4 => ?_⟩
  · obtain ⟨e1, e2, e3⟩ := keepj_some e
    obtain ⟨v, h1, h2⟩ := R.slot k s e1
    refine ⟨v, by rw [hs k e3]; exact h1, ?_⟩
    cases s with
    | fz d => exact flat_any h2 e2
    | ow ds => obtain ⟨p, vs, a, b, c, d, f⟩ := h2; exact ⟨p, vs, a, hO p b, c, d, flats_any f e2⟩
    | bw ds => obtain ⟨p, vs, a, b, c, f⟩ := h2; exact ⟨p, vs, a, b, c, flats_any f e2⟩
    | _ => cases e2
  · obtain ⟨a1, _, a3⟩ := keepj_some e1
    obtain ⟨b1, _, b3⟩ := keepj_some e3
    rw [hs k a3] at e2
    rw [hs m b3] at e4
    exact R.apart k m s t p hkm a1 o1 e2 b1 o3 e4
end
section
variable {X : Cx} {C : PC} {a : Expr} {f : VE} {d : PyData}
theorem s_thaw (i j : Nat) {x y : Str} {px py np : Pos} {apos cpos epos pos : Pos} (hp : PassesOwn (model X.prog X.w) X.A X.env X.xe) (hc : X.calm = true) (hND : X.N.Nodup) (hf : ∀ ρ, f ρ = .ok d) (ha : PE X a (tV X.K C f)) (hNi : X.N[i]? = some x := by rfl) (hvi : Vis X.env.scope x := by first | exact Or.inl rfl | exact Or.inr (Or.inl rfl) | exact Or.inr (Or.inr rfl)) (hdi : (x == ("__debug__" : Str)) = false := by decide) (hcdi : (x == ("__classdict__" : Str)) = false := by decide)
    (hN : X.N[j]? = some y := by rfl) (hxy : Loc X.env.scope y := by first | exact Or.inl rfl | exact Or.inr rfl) (hv : Vis X.env.scope y := by first | exact Or.inl rfl | exact Or.inr (Or.inl rfl) | exact Or.inr (Or.inr rfl)) (hd : (y == ("__debug__" : Str)) = false := by decide) (hcd : (y == ("__classdict__" : Str)) = false := by decide) (hfy : X.fn y = true ∨ X.env.scope.names.lookup y = some .local := by first | exact .inl rfl | exact .inr rfl)
    (hs : starEach [a] X.env = (false, eval a X.env) :: starEach [] X.env := by rfl)
    (hbase : attributeBase (.Name y np) "append" X.env (eval (.Name y np) X.env) = eval (.Name y np) X.env := by rfl)
    (hfew : ((backTo cpos (starEach [a] X.env)).all (fun x => !x.1) && (backToKw cpos (keywordEach [] X.env)).all (fun x => x.1.isSome)
      && decide ([a].length + ([] : List Keyword).length + (if ([] : List Keyword).isEmpty then 0 else 1) < 30)) = true := by rfl)
    (hline : (apos.endLine == cpos.line) = true := by rfl) (hsw : swapsWith (.Call (.Attribute (.Name y np) "append" apos) [a] [] cpos) none epos.line X.env = pure false := by rfl) (hfo : ∀ z, foldedSetIterable (.Name x px) X.env z = pure z := by intro _; rfl) :
    PS X (.For (.Name y py) (.Name x px) [.Expr (.Call (.Attribute (.Name y np) "append" apos) [a] [] cpos) epos] [] pos) (tSW X.K C (sThaw i j f)) :=
  ps_imp (ps_for hp hc (pi_list (pe_var (i := i) hNi hvi hdi hcdi)) (pg_name hND hN hxy hfy) (pss_one (ps_expr (pe_bm PySem.F.plainAttrs_list PySem.F.slot_list_append PySem.F.type_list_append mt_append (pe_var (i := j) hN hv hd hcd) (pa_cons ha pa_nil hs) hbase hfew hline hs (by rfl)) hsw)) hfo) fun D σ H ⟨O, ρ, R, q⟩ => by
  unfold sThaw at q
  rw [hf] at q
  split at q
  · rename_i dss d' e ed
    cases ed
    split at q
    · rename_i hcond
      obtain ⟨hall, hlen, hij, hjl0⟩ := hcond
      obtain ⟨v, h1, p, qs, rfl, hp', hpq, oo⟩ := R.slot i _ e
      obtain ⟨hpO, hpH⟩ := hid_of hp'
      have hqH : ∀ r ∈ qs, r ∉ O ∧ ∃ us, H r = some (.lst us) := fun r hr => by
        obtain ⟨us, e⟩ := oo.row.mem r hr
        exact ⟨(hid_of e).1, us, (hid_of e).2⟩
      have hq2 : ∀ r ∈ qs, ∃ us, H r = some (.lst us) := fun r hr => (hqH r hr).2
      have hO : ∀ b ∈ O, b ∈ qs ++ O := fun b hb => List.mem_append.mpr (.inr hb)
      have al : ∀ b ∈ qs ++ O, H b ≠ none := fun b hb => by
        rcases List.mem_append.mp hb with hb | hb
        · obtain ⟨us, e⟩ := hq2 b hb
          rw [e]; nofun
        · exact R.alive b hb
      -- own slots lie apart from the rows
      have own0 : ∀ (m : Nat) (s : SL), ((keepFlat ρ).set j none)[m]? = some (some s) → ownS s = true → ∀ p2, σ[m]? = some (some (.ref p2)) → p2 ∈ O := fun m s em os p2 es => by
        obtain ⟨e1, e2, _⟩ := keepj_some em
        obtain ⟨v, h1, h2⟩ := R.slot m s e1
        rw [es] at h1
        cases h1
        cases s with
        | ow ds => obtain ⟨p3, vs, z, b, _⟩ := h2; cases z; exact b
        | dow ds => cases e2
        | mw ds => cases e2
        | og ds => cases e2
        | _ => cases os
      have rows0 : RowsM X.K H (hid (qs ++ O) H) qs dss := by
        have : ∀ (rs : List Addr) (ess : List (List PyData)), Rows X.K (hid O H) rs ess → ess.all (fun ds => decide (ds.length < 1000000) && ds.all noL2) = true → RowsM X.K H (hid (qs ++ O) H) rs ess := fun rs ess r => by
          induction r with
          | nil => exact fun _ => .nil
          | cons e a _ ih =>
            intro h
            rw [List.all_cons, Bool.and_eq_true, Bool.and_eq_true] at h
            exact .cons (hid_of e).2 (hides2 hq2 a h.1.2) (ih h.2)
        exact this _ _ oo.row hall
      have hql : qs.length = dss.length := oo.row.len
      refine ⟨.ref p, h1, p, rfl, ⟨qs.map V.ref, SqL.of hpH⟩, ?_⟩
      refine for_list (xs := qs.map V.ref) (fun k σ' H' => Rep X.K C (qs ++ O) H' σ' ((keepFlat ρ).set j none) ∧ H' p = some (.lst (qs.map V.ref)) ∧ RowsM X.K H' (hid (qs ++ O) H') qs (curr dss d k) ∧ σ'.length = σ.length ∧ ∀ m, m ≠ j → σ'[m]? = σ[m]?) ?_ ?_ ?_ ?_
      · exact ⟨R.flat rfl (fun _ _ => rfl) hO al, hpH, by unfold curr; rw [List.take_zero, List.drop_zero]; exact rows0, rfl, fun _ _ => rfl⟩
      · rintro k σ' H' _ ⟨_, b, _⟩
        exact SqL.of b
      · rintro k x σ' H' hx ⟨R', hp2, rows, hl, hs'⟩
        rw [List.getElem?_map] at hx
        cases eq : qs[k]? with
        | none => rw [eq] at hx; cases hx
        | some r =>
          rw [eq] at hx
          cases hx
          obtain ⟨us, ds, e1, e2, e3⟩ := rows.get eq
          have hk : k < dss.length := by rw [← hql]; exact (List.getElem?_eq_some_iff.mp eq).1
          obtain ⟨c1, c2⟩ := curr_s (d := d) (List.getElem?_eq_getElem hk)
          rw [c1] at e1
          cases e1
          have hrq : r ∈ qs := List.mem_of_getElem? eq
          have hjl : j < σ'.length := by
            rw [hl, R.len]
            exact hjl0
          have R2 : Rep X.K C (qs ++ O) H' (σ'.set j (some (.ref r))) ((keepFlat ρ).set j none) := R'.weak (by rw [List.length_set]; exact R'.len) fun m s em => ⟨em, List.getElem?_set_ne (Ne.symm (keepj_some em).2.2)⟩
          refine ⟨.ref r, List.getElem?_set_self hjl, .inl ⟨rfl, _, SqL.of e2⟩, qs ++ O, _, R2, ?_⟩
          rw [hf]
          refine fun v H2 x2 p2 => ⟨r, us, v, rfl, rfl, x2.ex _ _ e2 rfl, ?_, ?_⟩
          · have := List.all_eq_true.mp hall _ (List.getElem_mem hk)
            rw [Bool.and_eq_true, decide_eq_true_iff] at this
            exact line_lt (by rw [e3.len]; exact this.1)
          · have R3 := (R2.grow x2).mutH (us' := us ++ [v]) (List.mem_append.mpr (.inl hrq)) (oo.new r hrq) (x2.ex _ _ e2 rfl) fun m s em os es => by
              have hm := (keepj_some em).2.2
              rw [List.getElem?_set_ne (Ne.symm hm), hs' m hm] at es
              exact (hqH r hrq).1 (own0 m s em os r es)
            have hrp : p ≠ r := fun z => hpq (by rw [z]; exact hrq)
            refine ⟨R3, by rw [upd_ne hrp]; exact x2.ex _ _ hp2 rfl, ?_, by rw [List.length_set]; exact hl, fun m hm => by rw [List.getElem?_set_ne (Ne.symm hm)]; exact hs' m hm⟩
            have hh : hid (qs ++ O) (upd H2 r (.lst (us ++ [v]))) = hid (qs ++ O) H2 := hid_upd (List.mem_append.mpr (.inl hrq))
            rw [hh, ← c2]
            exact RowsM.set ((DpAll.mono (hid_mono x2) e3).append (.cons p2 .nil)) oo.nd (rows.grow (fun q us h => x2.ex _ _ h rfl) (hid_mono x2)) eq
      · rintro σ' H' ⟨R', hp2, rows, hl, hs'⟩
        have R1 : Rep X.K C O H' σ' ((keepFlat ρ).set j none) := ⟨R'.ex, R'.o0, R.sub, fun b hb => R'.alive b (hO b hb), R'.len, (fun k s em => by
          obtain ⟨_, e2, e3⟩ := keepj_some em
          obtain ⟨v, a1, a2⟩ := R'.slot k s em
          refine ⟨v, a1, ?_⟩
          cases s with
          | fz d => exact flat_any a2 e2
          | ow ds =>
            obtain ⟨p3, vs, rfl, _, b2, b3, b4⟩ := a2
            rw [hs' k e3] at a1
            exact ⟨p3, vs, rfl, own0 k _ em rfl p3 a1, b2, b3, flats_any b4 e2⟩
          | bw ds => obtain ⟨p3, vs, b1, b2, b3, b4⟩ := a2; exact ⟨p3, vs, b1, b2, b3, flats_any b4 e2⟩
          | er n => cases e2
          | mw n => cases e2
          | og n => cases e2
          | oo n => cases e2
          | dow n => cases e2
          | dbw n => cases e2), R'.apart⟩
        have hcur : curr dss d dss.length = dss.map (· ++ [d]) := by unfold curr; rw [List.take_length, List.drop_length, List.append_nil]
        have hx : Ex (hid (qs ++ O) H') (hid O H') := hid_sub hO
        have rl : ∀ (rs : List Addr) (ess : List (List PyData)), (∀ r ∈ rs, r ∉ O) → RowsM X.K H' (hid (qs ++ O) H') rs ess → DpAll X.K (hid O H') (rs.map V.ref) (ess.map PyData.list) := fun rs ess hn r => by
          induction r with
          | nil => exact .nil
          | cons e a _ ih => exact .cons (.lst (SqL.of (hid_out (hn _ List.mem_cons_self) e)) (DpAll.mono hx a)) (ih fun r hr => hn r (List.mem_cons_of_mem _ hr))
        rw [List.length_map, hql, hcur] at rows
        have hD : Dp X.K (hid O H') (.ref p) (.list (dss.map fun ds => .list (ds ++ [d]))) := by
          have := rl _ _ (fun r hr => (hqH r hr).1) rows
          rw [List.map_map] at this
          exact .lst (SqL.of (hid_out hpO hp2)) this
        have R2 := R1.set (i := i) hD
        rw [set_self (show σ'[i]? = some (some (.ref p)) by rw [hs' i hij]; exact h1)] at R2
        exact q σ' O H' R2
    · exact q.elim
  · exact q.elim
end
end PL

/-! PL9: the plain semantics reckoned: lemmas for simp, loops, comprehensions. -/
namespace PL
open PySem L2
section
variable {α : Type} {i j : Nat} {x : Option SL} {r ρ : Env} {d e : PyData} {ds es : List PyData} {f g h : VE} {l m : LE} {b c : BE} {s t : SE} {o : Op2} {kvs : List (List Int × PyData)}
@[simp] theorem eVar_0 : eVar 0 (some (.fz d) :: r) = .ok d := rfl
@[simp] theorem eVar_s : eVar (i + 1) (x :: r) = eVar i r := rfl
@[simp] theorem rVar_0 : rVar 0 (some (.fz d) :: r) = .ok d := rfl
@[simp] theorem rVar_0o : rVar 0 (some (.ow ds) :: r) = .ok (.list ds) := rfl
@[simp] theorem rVar_0b : rVar 0 (some (.bw ds) :: r) = .ok (.list ds) := rfl
@[simp] theorem rVar_s : rVar (i + 1) (x :: r) = rVar i r := rfl
@[simp] theorem lVar_0 : lVar 0 (some (.fz (.list ds)) :: r) = .ok ds := rfl
@[simp] theorem lVar_0o : lVar 0 (some (.ow ds) :: r) = .ok ds := rfl
@[simp] theorem lVar_0b : lVar 0 (some (.bw ds) :: r) = .ok ds := rfl
@[simp] theorem lVar_s : lVar (i + 1) (x :: r) = lVar i r := rfl
@[simp] theorem kVar_0o : kVar 0 (some (.ow ds) :: r) = .ok ds := rfl
@[simp] theorem kVar_s : kVar (i + 1) (x :: r) = kVar i r := rfl
@[simp] theorem sVar_0 : sVar 0 (some (.fz (.list ds)) :: r) = .ok ds := rfl
@[simp] theorem sVar_0b : sVar 0 (some (.bw ds) :: r) = .ok ds := rfl
@[simp] theorem sVar_s : sVar (i + 1) (x :: r) = sVar i r := rfl
@[simp] theorem dVar_0o : dVar 0 (some (.dow kvs) :: r) = .ok kvs := rfl
@[simp] theorem dVar_0b : dVar 0 (some (.dbw kvs) :: r) = .ok kvs := rfl
@[simp] theorem dVar_s : dVar (i + 1) (x :: r) = dVar i r := rfl
@[simp] theorem eC_ap : eC d ρ = .ok d := rfl
@[simp] theorem eOfL_ap : eOfL l ρ = (l ρ).bind fun ds => .ok (.list ds) := rfl
@[simp] theorem lOfV_ok (h : f ρ = .ok (.list ds)) : lOfV f ρ = .ok ds := by unfold lOfV; rw [h]; rfl
@[simp] theorem lOfV_eOfL : lOfV (eOfL l) ρ = l ρ := by unfold lOfV eOfL; cases l ρ <;> rfl
@[simp] theorem eOp_ap : eOp o f g ρ = (f ρ).bind fun x => (g ρ).bind fun y => o x y := rfl
@[simp] theorem oAdd_i {i j : Int} : oAdd (.int i) (.int j) = .ok (.int (i + j)) := rfl
@[simp] theorem oSub_i {i j : Int} : oSub (.int i) (.int j) = .ok (.int (i - j)) := rfl
@[simp] theorem oLt_i {i j : Int} : oLt (.int i) (.int j) = .ok (.bool (decide (i < j))) := rfl
@[simp] theorem oLe_i {i j : Int} : oLe (.int i) (.int j) = .ok (.bool (decide (i ≤ j))) := rfl
@[simp] theorem oGt_i {i j : Int} : oGt (.int i) (.int j) = .ok (.bool (decide (j < i))) := rfl
@[simp] theorem oGe_i {i j : Int} : oGe (.int i) (.int j) = .ok (.bool (decide (j ≤ i))) := rfl
theorem oMul_l {i j : Int} (h : -(2 ^ 64) < i ∧ i < 2 ^ 64) : oMul (.int i) (.int j) = .ok (.int (i * j)) := by
  show (if (smallI i || smallI j) = true then Out.ok (PyData.int (i * j)) else .stuck) = _
  rw [if_pos (by rw [show smallI i = true from decide_eq_true h]; rfl)]
theorem oMul_r {i j : Int} (h : -(2 ^ 64) < j ∧ j < 2 ^ 64) : oMul (.int i) (.int j) = .ok (.int (i * j)) := by
  show (if (smallI i || smallI j) = true then Out.ok (PyData.int (i * j)) else .stuck) = _
  rw [if_pos (by rw [show smallI j = true from decide_eq_true h, Bool.or_true])]
theorem oFdiv_i {i j : Int} (h : 0 < j ∧ j < 1073741824) : oFdiv (.int i) (.int j) = .ok (.int (i / j)) := by
  exact if_pos h
theorem oMod_i {i j : Int} (h : 0 < j) : oMod (.int i) (.int j) = .ok (.int (i % j)) := by
  exact if_pos h
@[simp] theorem shaped_int {i : Int} : SeqAt.shaped (.int i) = true := by
  simp [SeqAt.shaped, PyData.canLay0, PyData.depth]
@[simp] theorem shaped_bool {i : Bool} : SeqAt.shaped (.bool i) = true := by
  simp [SeqAt.shaped, PyData.canLay0, PyData.depth]
theorem shaped_str {i : Str} (h : PyData.strOk i = true) : SeqAt.shaped (.str i) = true := by
  simp [SeqAt.shaped, PyData.canLay0, PyData.depth, h]
@[simp] theorem shaped_none : SeqAt.shaped .none = true := by
  simp [SeqAt.shaped, PyData.canLay0, PyData.depth]
theorem eqv_int {i j : Int} : PyData.eqv (.int i) (.int j) = decide (i = j) := by
  simp [PyData.eqv, Bool.beq_eq_decide_eq]
@[simp] theorem oEq_i {i j : Int} : oEq (.int i) (.int j) = .ok (.bool (decide (i = j))) := by
  unfold oEq
  rw [shaped_int, shaped_int, eqv_int]
  rfl
@[simp] theorem oNe_i {i j : Int} : oNe (.int i) (.int j) = .ok (.bool (!decide (i = j))) := by
  unfold oNe
  rw [shaped_int, shaped_int, eqv_int]
  rfl
@[simp] theorem eIsN_ap : eIsN f ρ = (f ρ).bind fun d => .ok (.bool (isN d)) := rfl
@[simp] theorem eNotN_ap : eNotN f ρ = (f ρ).bind fun d => .ok (.bool (!isN d)) := rfl
@[simp] theorem isN_n : isN .none = true := rfl
@[simp] theorem isN_i {i : Int} : isN (.int i) = false := rfl
@[simp] theorem isN_b {i : Bool} : isN (.bool i) = false := rfl
@[simp] theorem isN_s {i : Str} : isN (.str i) = false := rfl
@[simp] theorem isN_t {ds : List PyData} : isN (.tuple ds) = false := rfl
@[simp] theorem isN_l {ds : List PyData} : isN (.list ds) = false := rfl
@[simp] theorem eNeg_ok {i : Int} (h : f ρ = .ok (.int i)) : eNeg f ρ = .ok (.int (-i)) := by unfold eNeg; rw [h]; rfl
@[simp] theorem bOf_ap (f : VE) (ρ : Env) : bOf f ρ = (f ρ).bind fun d => match d with
  | .bool b => .ok b
  | _ => .stuck := rfl
@[simp] theorem bAnd_ap : bAnd b c ρ = (b ρ).bind fun x => if x then c ρ else .ok false := rfl
@[simp] theorem bOr_ap : bOr b c ρ = (b ρ).bind fun x => if x then .ok true else c ρ := rfl
@[simp] theorem bNot_ap : bNot b ρ = (b ρ).bind fun x => .ok (!x) := rfl
@[simp] theorem bYes_ap : bYes ρ = .ok true := rfl
@[simp] theorem eOfB_ap : eOfB b ρ = (b ρ).bind fun b => .ok (.bool b) := rfl
@[simp] theorem aAll_nil : aAll [] ρ = .ok [] := rfl
@[simp] theorem aAll_cons {fs : List VE} : aAll (f :: fs) ρ = (f ρ).bind fun x => (aAll fs ρ).bind fun xs => .ok (x :: xs) := rfl
@[simp] theorem eTup_ap {fs : List VE} : eTup fs ρ = (aAll fs ρ).bind fun xs => .ok (.tuple xs) := rfl
@[simp] theorem lLst_ap {fs : List VE} : lLst fs ρ = aAll fs ρ := rfl
@[simp] theorem oNo_ap : oNo ρ = .ok none := rfl
@[simp] theorem oPart_ok {i : Int} (h : f ρ = .ok (.int i)) : oPart f ρ = .ok (some i) := by unfold oPart; rw [h]; rfl
@[simp] theorem lSl_ap {p q : OE} : lSl l p q ρ = (l ρ).bind fun ds => (p ρ).bind fun a => (q ρ).bind fun b => .ok (cutD ds a b) := rfl
@[simp] theorem eLenV_ap : eLenV f ρ = (f ρ).bind lenOf := rfl
@[simp] theorem lenOf_l : lenOf (.list ds) = .ok (.int ds.length) := rfl
@[simp] theorem lenOf_t : lenOf (.tuple ds) = .ok (.int ds.length) := rfl
theorem lenOf_s {z : Str} (h : z.length ≤ 1000000) : lenOf (.str z) = .ok (.int z.length) := if_pos h
@[simp] theorem rNil_ap : rNil ρ = .ok [] := rfl
@[simp] theorem rV_ap {a : AE} : rV f a ρ = (f ρ).bind fun d => (a ρ).bind fun ss => .ok (.fz d :: ss) := rfl
@[simp] theorem rL_ap {a : AE} : rL l a ρ = (l ρ).bind fun d => (a ρ).bind fun ss => .ok (.bw d :: ss) := rfl
@[simp] theorem rD_ap {a : AE} : rD i a ρ = (dVar i ρ).bind fun d => (a ρ).bind fun ss => .ok (.dbw d :: ss) := rfl
@[simp] theorem xCall_ap {a : AE} {F : FN} : xCall F a ρ = (a ρ).bind F := eq_of_heq (HEq.refl _)
@[simp] theorem eX_val {a : XE} (h : a ρ = .ok (.val d)) : eX a ρ = .ok d := by unfold eX; rw [h]; rfl
@[simp] theorem eX_fresh {a : XE} (h : a ρ = .ok (.fresh ds)) : eX a ρ = .ok (.list ds) := by unfold eX; rw [h]; rfl
@[simp] theorem eX_exc {a : XE} {n : String} (h : a ρ = .exc n) : eX a ρ = .exc n := by unfold eX; rw [h]; rfl
@[simp] theorem lX_fresh {a : XE} (h : a ρ = .ok (.fresh ds)) : lX a ρ = .ok ds := by unfold lX; rw [h]; rfl
@[simp] theorem lX_exc {a : XE} {n : String} (h : a ρ = .exc n) : lX a ρ = .exc n := by unfold lX; rw [h]; rfl
@[simp] theorem eSum_ok {ns : List Int} (h : l ρ = .ok ds) (h2 : asInts ds = some ns) : eSum l ρ = .ok (.int ns.sum) := by unfold eSum; rw [h]; simp only [Out.bind_ok, h2]
@[simp] theorem sNext_ap : sNext ρ = .nx ρ := rfl
@[simp] theorem sBrk_ap : sBrk ρ = .bk ρ := rfl
@[simp] theorem sCont_ap : sCont ρ = .ct ρ := rfl
@[simp] theorem sSeq_ap : sSeq s t ρ = (s ρ).then t := rfl
@[simp] theorem sSet_ap : sSet i f ρ = wOut (f ρ) ρ fun d => .nx (ρ.set i (some (.fz d))) := rfl
@[simp] theorem sSetL_ap : sSetL i l ρ = wOut (l ρ) ρ fun ds => .nx (ρ.set i (some (.ow ds))) := rfl
@[simp] theorem sSetX_ap {a : XE} : sSetX i a ρ = wOut (a ρ) ρ fun r => .nx (ρ.set i (some (slotOf r))) := rfl
@[simp] theorem slotOf_v : slotOf (.val d) = .fz d := rfl
@[simp] theorem slotOf_f : slotOf (.fresh ds) = .ow ds := rfl
@[simp] theorem slotOf_d : slotOf (.dfresh kvs) = .dow kvs := rfl
@[simp] theorem sSetD_ap : sSetD i ρ = .nx (ρ.set i (some (.dow []))) := rfl
@[simp] theorem sDrop_ap : sDrop f ρ = wOut (f ρ) ρ fun _ => .nx ρ := rfl
@[simp] theorem sDropX_ap {a : XE} : sDropX a ρ = wOut (a ρ) ρ fun _ => .nx ρ := rfl
@[simp] theorem sIf_ap : sIf b s t ρ = wOut (b ρ) ρ fun x => if x then s ρ else t ρ := rfl
@[simp] theorem sRet_ap : sRet f ρ = wOut (f ρ) ρ fun d => .rt (.val d) ρ := rfl
@[simp] theorem sRetL_ap : sRetL l ρ = wOut (l ρ) ρ fun ds => .rt (.fresh ds) ρ := rfl
@[simp] theorem sRetX_ap {a : XE} : sRetX a ρ = wOut (a ρ) ρ fun r => .rt r ρ := rfl
@[simp] theorem sRaise_ap {n : String} : sRaise n ρ = .ex n ρ := rfl
@[simp] theorem sFrz_ap : sFrz i s ρ = s (frzE i ρ) := rfl
@[simp] theorem frzE_0 {t : SL} : frzE 0 (some t :: r) = some (frzS t) :: r := rfl
@[simp] theorem frzE_s : frzE (i + 1) (x :: r) = x :: frzE i r := by
  unfold frzE
  rw [List.getElem?_cons_succ]
  cases r[i]? with
  | none => rfl
  | some y => cases y <;> rfl
@[simp] theorem frzS_o : frzS (.ow ds) = .fz (.list ds) := rfl
@[simp] theorem frzS_f : frzS (.fz d) = .fz d := rfl
@[simp] theorem frzS_b : frzS (.bw ds) = .bw ds := rfl
@[simp] theorem sWipe_ap {ws : List Nat} : sWipe ws s ρ = s (wp ws ρ) := rfl
@[simp] theorem wp_nil : wp [] ρ = ρ := rfl
@[simp] theorem wp_cons {v : Nat} {vs : List Nat} : wp (v :: vs) ρ = (wp vs ρ).set v none := rfl
@[simp] theorem tgN_ap : tgN i d ρ = some (ρ.set i (some (.fz d))) := rfl
@[simp] theorem tgP_ap {d e : PyData} : tgP i j (.tuple [d, e]) ρ = some ((ρ.set i (some (.fz d))).set j (some (.fz e))) := rfl
@[simp] theorem sFor_ap {w : LE} {tg : TGT} {ws : List Nat} : sFor w tg ws s ρ = wOut (w ρ) ρ fun ds => forGo tg ws s ds ρ := rfl
@[simp] theorem wRange1_ok {n : Int} (h : f ρ = .ok (.int n)) (h2 : -(2 ^ 61) ≤ n ∧ n < 2 ^ 61) : wRange1 f ρ = .ok (rngD 0 n.toNat 1) := by
  unfold wRange1
  rw [h]
  exact if_pos (decide_eq_true h2)
@[simp] theorem wRange2_ok {n m : Int} (h : f ρ = .ok (.int n)) (h' : g ρ = .ok (.int m)) (h2 : -(2 ^ 61) ≤ n ∧ n < 2 ^ 61) (h3 : -(2 ^ 61) ≤ m ∧ m < 2 ^ 61) : wRange2 f g ρ = .ok (rngD n (m - n).toNat 1) := by
  unfold wRange2
  rw [h, h']
  exact if_pos (by rw [show okR n = true from decide_eq_true h2, show okR m = true from decide_eq_true h3]; rfl)
@[simp] theorem eDGet_ap {fs : List VE} : eDGet i fs ρ = (dVar i ρ).bind fun kvs => (aAll fs ρ).bind fun ks => match asInts ks with
  | some ks => match dGet kvs ks with
    | some d => .ok d
    | none => .stuck
  | none => .stuck := rfl
@[simp] theorem eDLen_ap : eDLen i ρ = (dVar i ρ).bind fun kvs => .ok (.int kvs.length) := rfl
@[simp] theorem eDIs_ap : eDIs i ρ = (dVar i ρ).bind fun _ => .ok (.bool true) := rfl
@[simp] theorem sRetO_0 : sRetO 0 (some (.ow ds) :: r) = .rt (.fresh ds) (some (.ow ds) :: r) := rfl
theorem eIsI_ok {T : String} {x : Bool} (h : f ρ = .ok d) (h2 : kitB (tyName d) T = some x) : eIsI f T ρ = .ok (.bool x) := by
  unfold eIsI
  rw [h]
  simp only [Out.bind_ok, h2]
end
theorem eIx_ok {l : LE} {i : VE} {ρ : Env} {ds : List PyData} {k : Int} {d : PyData} (h : l ρ = .ok ds) (h2 : i ρ = .ok (.int k)) (h3 : atI ds k = some d) : eIx l i ρ = .ok d := by
  unfold eIx
  rw [h]
  simp only [Out.bind_ok, h2, h3]
theorem eIxT_ok {l : VE} {i : VE} {ρ : Env} {ds : List PyData} {k : Int} {d : PyData} (h : l ρ = .ok (.tuple ds)) (h2 : i ρ = .ok (.int k)) (h3 : atI ds k = some d) : eIxT l i ρ = .ok d := by
  unfold eIxT
  rw [h]
  simp only [Out.bind_ok, h2, h3]
theorem atI_ints {ns : List Int} {k : Nat} (h : k < ns.length) : atI (ns.map PyData.int) (k : Int) = some (.int ns[k]) := atI_nat (by rw [List.getElem?_map, List.getElem?_eq_getElem h]; rfl)
theorem atI_intsZ {ns : List Int} {k : Int} (h0 : 0 ≤ k) (h : k < ns.length) : atI (ns.map PyData.int) k = some (.int (ns.getD k.toNat 0)) := by
  have hk : k.toNat < ns.length := by omega
  have e := atI_ints hk
  rw [show ((k.toNat : Nat) : Int) = k from by omega] at e
  rw [e, List.getD_eq_getElem?_getD, List.getElem?_eq_getElem hk]
  rfl
/-! ### int, bool ..: isinstance -/
def isInt : PyData → Bool
  | .int _ => true
  | .bool _ => true
  | _ => false
def isBool : PyData → Bool
  | .bool _ => true
  | _ => false
theorem kit_int : ∀ d : PyData, (∀ kvs, d ≠ .dict kvs) → kitB (tyName d) "int" = some (isInt d)
  | .none, _ => by decide +kernel
  | .bool _, _ => by show kitB "bool" "int" = some true; decide +kernel
  | .int _, _ => by show kitB "int" "int" = some true; decide +kernel
  | .str _, _ => by show kitB "str" "int" = some false; decide +kernel
  | .list _, _ => by show kitB "list" "int" = some false; decide +kernel
  | .tuple _, _ => by show kitB "tuple" "int" = some false; decide +kernel
  | .dict kvs, h => absurd rfl (h kvs)
theorem kit_bool : ∀ d : PyData, (∀ kvs, d ≠ .dict kvs) → kitB (tyName d) "bool" = some (isBool d)
  | .none, _ => by decide +kernel
  | .bool _, _ => by show kitB "bool" "bool" = some true; decide +kernel
  | .int _, _ => by show kitB "int" "bool" = some false; decide +kernel
  | .str _, _ => by show kitB "str" "bool" = some false; decide +kernel
  | .list _, _ => by show kitB "list" "bool" = some false; decide +kernel
  | .tuple _, _ => by show kitB "tuple" "bool" = some false; decide +kernel
  | .dict kvs, h => absurd rfl (h kvs)
/-! ### loops -/
/-- one turn -/
def turn (tg : TGT) (ws : List Nat) (body : SE) (d : PyData) (ρ : Env) : SO := match tg d ρ with
  | none => .stuck
  | some ρ1 => match body ρ1 with
    | .nx ρ2 => .nx (wp ws ρ2)
    | .ct ρ2 => .nx (wp ws ρ2)
    | .bk ρ2 => .bk (wp ws ρ2)
    | .rt x ρ2 => .rt x ρ2
    | .ex n ρ2 => .ex n ρ2
    | .stuck => .stuck
section
variable {tg : TGT} {ws : List Nat} {body : SE} {ρ : Env}
@[simp] theorem forGo_nil : forGo tg ws body [] ρ = .nx ρ := rfl
theorem forGo_cons (d : PyData) (r : List PyData) : forGo tg ws body (d :: r) ρ = match turn tg ws body d ρ with
    | .nx ρ' => forGo tg ws body r ρ'
    | .bk ρ' => .nx ρ'
    | o => o := by
  conv => lhs; unfold forGo
  unfold turn
  cases tg d ρ with
  | none => rfl
  | some ρ1 => dsimp only; cases body ρ1 <;> rfl
theorem turn_nx {d : PyData} {ρ ρ1 ρ2 : Env} (h1 : tg d ρ = some ρ1) (h2 : body ρ1 = .nx ρ2) : turn tg ws body d ρ = .nx (wp ws ρ2) := by
  unfold turn
  rw [h1]
  dsimp only
  rw [h2]
theorem turn_rt {d : PyData} {ρ ρ1 ρ2 : Env} {r : RV} (h1 : tg d ρ = some ρ1) (h2 : body ρ1 = .rt r ρ2) : turn tg ws body d ρ = .rt r ρ2 := by
  unfold turn
  rw [h1]
  dsimp only
  rw [h2]
theorem turn_ex {d : PyData} {ρ ρ1 ρ2 : Env} {r : String} (h1 : tg d ρ = some ρ1) (h2 : body ρ1 = .ex r ρ2) : turn tg ws body d ρ = .ex r ρ2 := by
  unfold turn
  rw [h1]
  dsimp only
  rw [h2]
/-- a loop that goes to its end: what holds behind the items taken so far -/
theorem forGo_inv (I : List PyData → Env → Prop) (ds : List PyData) (h0 : I [] ρ) (hs : ∀ pre d post ρ, ds = pre ++ d :: post → I pre ρ → ∃ ρ', turn tg ws body d ρ = .nx ρ' ∧ I (pre ++ [d]) ρ') : ∃ ρ', forGo tg ws body ds ρ = .nx ρ' ∧ I ds ρ' := by
  have key : ∀ (rest pre : List PyData) (ρ : Env), ds = pre ++ rest → I pre ρ → ∃ ρ', forGo tg ws body rest ρ = .nx ρ' ∧ I ds ρ' := by
    intro rest
    induction rest with
    | nil => intro pre ρ e i; rw [List.append_nil] at e; subst e; exact ⟨ρ, rfl, i⟩
    | cons d r ih =>
      intro pre ρ e i
      obtain ⟨ρ1, h1, h2⟩ := hs pre d r ρ e i
      obtain ⟨ρ2, h3, h4⟩ := ih (pre ++ [d]) ρ1 (by rw [e, List.append_assoc]; rfl) h2
      exact ⟨ρ2, by rw [forGo_cons, h1]; exact h3, h4⟩
  exact key ds [] ρ rfl h0
/-- .. whose state is a fold -/
theorem forGo_fold {α : Type} (mk : α → Env) (step : α → PyData → α) (ds : List PyData) (a : α) (hs : ∀ a, ∀ d ∈ ds, turn tg ws body d (mk a) = .nx (mk (step a d))) : forGo tg ws body ds (mk a) = .nx (mk (ds.foldl step a)) := by
  induction ds generalizing a with
  | nil => rfl
  | cons d r ih =>
    rw [forGo_cons, hs a d List.mem_cons_self]
    exact ih (step a d) fun a d hd => hs a d (List.mem_cons_of_mem _ hd)
/-- a loop that looks for something and keeps nothing -/
theorem forGo_find (t : PyData → Bool) (o : PyData → SO) (ho : ∀ d ρ', o d ≠ .nx ρ' ∧ o d ≠ .bk ρ') (ds : List PyData) (hs : ∀ d ∈ ds, turn tg ws body d ρ = if t d then o d else .nx ρ) : forGo tg ws body ds ρ = match ds.find? t with
    | some d => o d
    | none => .nx ρ := by
  induction ds with
  | nil => rfl
  | cons d r ih =>
    rw [forGo_cons, hs d List.mem_cons_self, List.find?_cons]
    cases t d with
    | true =>
      rw [if_pos rfl]
      have h1 := ho d
      cases e : o d with
      | nx ρ' => exact absurd e (h1 ρ').1
      | bk ρ' => exact absurd e (h1 ρ').2
      | ct ρ' => simp only [e]
      | rt x ρ' => simp only [e]
      | ex x ρ' => simp only [e]
      | stuck => simp only [e]
    | false =>
      rw [if_neg Bool.false_ne_true]
      exact ih fun d hd => hs d (List.mem_cons_of_mem _ hd)
theorem forGo_pass (ds : List PyData) (hs : ∀ d ∈ ds, turn tg ws body d ρ = .nx ρ) : forGo tg ws body ds ρ = .nx ρ := by
  induction ds with
  | nil => rfl
  | cons d r ih =>
    rw [forGo_cons, hs d List.mem_cons_self]
    exact ih fun d hd => hs d (List.mem_cons_of_mem _ hd)
end
/-! ### comprehensions -/
section
variable {tg : TGT} {ws : List Nat} {tt : BE} {el : VE} {ρ : Env} {w : LE}
theorem lcGo_map (f : PyData → PyData) (ds : List PyData) (h : ∀ d ∈ ds, ∃ ρ1, tg d ρ = some ρ1 ∧ tt ρ1 = .ok true ∧ el ρ1 = .ok (f d)) : lcGo tg tt el ρ ds = .ok (ds.map f) := by
  induction ds with
  | nil => rfl
  | cons d r ih =>
    obtain ⟨ρ1, h1, h2, h3⟩ := h d List.mem_cons_self
    unfold lcGo
    rw [h1]
    simp only [h2, h3, Out.bind_ok, if_true, ih fun d hd => h d (List.mem_cons_of_mem _ hd), List.map_cons]
theorem lcGo_filter (p : PyData → Bool) (f : PyData → PyData) (ds : List PyData) (h : ∀ d ∈ ds, ∃ ρ1, tg d ρ = some ρ1 ∧ tt ρ1 = .ok (p d) ∧ (p d = true → el ρ1 = .ok (f d))) : lcGo tg tt el ρ ds = .ok ((ds.filter p).map f) := by
  induction ds with
  | nil => rfl
  | cons d r ih =>
    obtain ⟨ρ1, h1, h2, h3⟩ := h d List.mem_cons_self
    have ih' := ih fun d hd => h d (List.mem_cons_of_mem _ hd)
    unfold lcGo
    rw [h1]
    simp only [h2, Out.bind_ok]
    cases e : p d with
    | true => rw [if_pos rfl, h3 e, List.filter_cons, if_pos e]; simp only [Out.bind_ok, ih', List.map_cons]
    | false => rw [if_neg Bool.false_ne_true, ih', List.filter_cons, if_neg (by rw [e]; exact Bool.false_ne_true)]
theorem lComp_map (f : PyData → PyData) {ds : List PyData} (hw : w ρ = .ok ds) (hl : ds.length < 1000000) (h : ∀ d ∈ ds, ∃ ρ1, tg d (wp ws ρ) = some ρ1 ∧ tt ρ1 = .ok true ∧ el ρ1 = .ok (f d)) : lComp w tg ws tt el ρ = .ok (ds.map f) := by
  unfold lComp
  rw [hw]
  simp only [Out.bind_ok]
  rw [if_pos hl, lcGo_map f ds h]
  rfl
theorem lComp_filter (p : PyData → Bool) (f : PyData → PyData) {ds : List PyData} (hw : w ρ = .ok ds) (hl : ds.length < 1000000) (h : ∀ d ∈ ds, ∃ ρ1, tg d (wp ws ρ) = some ρ1 ∧ tt ρ1 = .ok (p d) ∧ (p d = true → el ρ1 = .ok (f d))) : lComp w tg ws tt el ρ = .ok ((ds.filter p).map f) := by
  unfold lComp
  rw [hw]
  simp only [Out.bind_ok]
  rw [if_pos hl, lcGo_filter p f ds h]
  rfl
end
/-! ### lists of ints -/
abbrev DI (ns : List Int) : List PyData := ns.map PyData.int
@[simp] theorem asInts_DI : ∀ ns : List Int, asInts (ns.map PyData.int) = some ns
  | [] => rfl
  | n :: r => by
    have ih := asInts_DI r
    unfold asInts at ih ⊢
    rw [List.map_cons, List.mapM_cons, ih]
    rfl
@[simp] theorem asInts_nil : asInts [] = some [] := rfl
@[simp] theorem asInts_cons (i : Int) (r : List PyData) : asInts (.int i :: r) = (asInts r).map (i :: ·) := by
  unfold asInts
  rw [List.mapM_cons]
  cases List.mapM (fun d => match d with
    | PyData.int i => some i
    | x => none) r <;> rfl
theorem asInts_some : ∀ {ds : List PyData} {ns : List Int}, asInts ds = some ns → ds = ns.map PyData.int
  | [], ns, e => by
    have : ns = [] := by simpa [asInts] using e.symm
    subst this; rfl
  | d :: ds, ns, e => by
    unfold asInts at e
    rw [List.mapM_cons] at e
    cases d with
    | int i =>
      cases q : asInts ds with
      | none =>
        unfold asInts at q
        rw [q] at e
        simp at e
      | some ms =>
        have ih := asInts_some q
        unfold asInts at q
        rw [q] at e
        have e' : i :: ms = ns := by simpa using e
        subst e'
        rw [ih, List.map_cons]
    | _ => simp at e
theorem rng_map (n : Nat) : rngD 0 n 1 = (List.range n).map fun k => PyData.int ((k : Nat) : Int) := by
  unfold rngD
  congr 1
  funext k
  congr 1
  omega
theorem canLay_ints : ∀ ns : List Int, PyData.canLayAll0 (ns.map PyData.int) = true
  | [] => by simp [PyData.canLayAll0]
  | n :: r => by simp [PyData.canLayAll0, PyData.canLay0, canLay_ints r]
theorem depth_ints : ∀ ns : List Int, PyData.depthAll (ns.map PyData.int) ≤ 1
  | [] => by simp [PyData.depthAll]
  | n :: r => by
    have := depth_ints r
    simp only [List.map_cons, PyData.depthAll, PyData.depth]
    omega
@[simp] theorem shaped_ints (ns : List Int) : SeqAt.shaped (.list (ns.map PyData.int)) = true := by
  have := depth_ints ns
  simp [SeqAt.shaped, PyData.canLay0, canLay_ints, PyData.depth]
  omega
theorem eqv_ints : ∀ a b : List Int, PyData.eqvAll (a.map PyData.int) (b.map PyData.int) = decide (a = b)
  | [], [] => by simp [PyData.eqvAll]
  | [], _ :: _ => by simp [PyData.eqvAll]
  | _ :: _, [] => by simp [PyData.eqvAll]
  | x :: r, y :: s => by
    simp only [List.map_cons, PyData.eqvAll, eqv_ints r s, eqv_int]
    rw [← Bool.decide_and]
    congr 1
    simp
@[simp] theorem oEq_ints (a b : List Int) : oEq (.list (a.map PyData.int)) (.list (b.map PyData.int)) = .ok (.bool (decide (a = b))) := by
  unfold oEq
  rw [shaped_ints, shaped_ints]
  simp only [PyData.eqv, eqv_ints]
  rfl
@[simp] theorem oNe_ints (a b : List Int) : oNe (.list (a.map PyData.int)) (.list (b.map PyData.int)) = .ok (.bool (!decide (a = b))) := by
  unfold oNe
  rw [shaped_ints, shaped_ints]
  simp only [PyData.eqv, eqv_ints]
  rfl
/-! ### a def's end -/
theorem runF_rt {p N : Nat} {g : SE} (ρ0 : Env) {args : List SL} {r : RV} {ρ' : Env} (hl : args.length = p) (he : args.map some ++ List.replicate (N - p) none = ρ0) (h : g ρ0 = .rt r ρ') : runF p N g args = .ok r := by
  unfold runF
  rw [if_pos hl, he, h]
theorem runF_nx {p N : Nat} {g : SE} (ρ0 : Env) {args : List SL} {ρ' : Env} (hl : args.length = p) (he : args.map some ++ List.replicate (N - p) none = ρ0) (h : g ρ0 = .nx ρ') : runF p N g args = .ok (.val .none) := by
  unfold runF
  rw [if_pos hl, he, h]
theorem runF_ex {p N : Nat} {g : SE} (ρ0 : Env) {args : List SL} {n : String} {ρ' : Env} (hl : args.length = p) (he : args.map some ++ List.replicate (N - p) none = ρ0) (h : g ρ0 = .ex n ρ') : runF p N g args = .exc n := by
  unfold runF
  rw [if_pos hl, he, h]
theorem seq_nx {a b : SE} {ρ ρ' : Env} (h : a ρ = .nx ρ') : sSeq a b ρ = b ρ' := by
  unfold sSeq
  rw [h]
  rfl
theorem for_of {w : LE} {tg : TGT} {ws : List Nat} {body : SE} {ρ : Env} {ds : List PyData} (h : w ρ = .ok ds) : sFor w tg ws body ρ = forGo tg ws body ds ρ := by
  unfold sFor
  rw [h]
  rfl
/-! ### slices -/
theorem sIxN (l d n : Nat) : HT.sIx l d (some ((n : Nat) : Int)) = min n l := HT.sIx_nat l d n
theorem cutD_to {α : Type} (xs : List α) (n : Nat) : cutD xs none (some (n : Int)) = xs.take n := by
  unfold cutD
  rw [sIxN, HT.sIx_none, List.drop_zero, Nat.sub_zero]
  by_cases h : n ≤ xs.length
  · rw [Nat.min_eq_left h]
  · rw [Nat.min_eq_right (by omega), List.take_length, List.take_of_length_le (by omega)]
theorem cutD_from {α : Type} (xs : List α) (n : Nat) : cutD xs (some (n : Int)) none = xs.drop n := by
  unfold cutD
  rw [sIxN, HT.sIx_none]
  by_cases h : n ≤ xs.length
  · rw [Nat.min_eq_left h, List.take_of_length_le (by rw [List.length_drop]; omega)]
  · rw [Nat.min_eq_right (by omega), Nat.sub_self, List.take_zero, List.drop_of_length_le (by omega)]
theorem cutD_mid {α : Type} (xs : List α) (a b : Nat) (h : b ≤ xs.length) : cutD xs (some (a : Int)) (some (b : Int)) = (xs.drop a).take (b - a) := by
  unfold cutD
  rw [sIxN, sIxN, Nat.min_eq_left h]
  by_cases h2 : a ≤ xs.length
  · rw [Nat.min_eq_left h2]
  · rw [Nat.min_eq_right (by omega), List.drop_of_length_le (by omega), List.drop_of_length_le (by omega), List.take_nil, List.take_nil]
theorem cutD_hd {α : Type} (xs : List α) : cutD xs none (some 1) = xs.take 1 := cutD_to xs 1
theorem cutD_tl {α : Type} (xs : List α) : cutD xs (some 1) none = xs.drop 1 := cutD_from xs 1
end PL
namespace PL
open PySem L2
section
variable {s g : SE} {ct : String → Bool} {ρ ρ' : Env} {i : Nat} {n : String} {r : RV}
theorem sTryO_nx (h : s ρ = .nx ρ') : sTryO s ct g ρ = .nx ρ' := by unfold sTryO; rw [h]
theorem sTryO_rt (h : s ρ = .rt r ρ') : sTryO s ct g ρ = .rt r ρ' := by unfold sTryO; rw [h]
theorem sTryO_ex (h : s ρ = .ex n ρ') (hc : ct n = true) : sTryO s ct g ρ = sOutO (g ρ') := by unfold sTryO; rw [h]; exact if_pos hc
theorem sTryAs_nx (h : s ρ = .nx ρ') : sTryAs s ct i g ρ = .nx ρ' := by unfold sTryAs; rw [h]
theorem sTryAs_rt (h : s ρ = .rt r ρ') : sTryAs s ct i g ρ = .rt r ρ' := by unfold sTryAs; rw [h]
theorem sTryAs_ex (h : s ρ = .ex n ρ') (hc : ct n = true) : sTryAs s ct i g ρ = sOut i (g (ρ'.set i (some (.er n)))) := by unfold sTryAs; rw [h]; exact if_pos hc
theorem seq_rt {a b : SE} (h : a ρ = .rt r ρ') : sSeq a b ρ = .rt r ρ' := by
  unfold sSeq
  rw [h]
  rfl
theorem seq_ex {a b : SE} (h : a ρ = .ex n ρ') : sSeq a b ρ = .ex n ρ' := by
  unfold sSeq
  rw [h]
  rfl
end
end PL

/-! PLE: what the end of a claim leans on -/
namespace PL
open PySem L2
section
variable {K : PySem.W.Frag} {O : List Addr} {H H' : Hp}
theorem dp_ints {G : Hp} : ∀ ns : List Int, DpAll K G (ns.map V.int) (ns.map PyData.int)
  | [] => .nil
  | n :: r => .cons (.int n) (dp_ints r)
theorem law_args {a : Addr} {ns : List Int} (h : SqL K H a (ns.map V.int)) : ArgsOk K O H [.ref a] [.bw (ns.map PyData.int)] := .cons ⟨a, _, rfl, h, dp_ints ns⟩ .nil
theorem law_ret {v : V} (h : RetC K O H H' v (.val (.bool true))) : v = .bl true := by cases (show Dp K (hid O H') v (.bool true) from h); rfl
end
theorem cx_false {P : Program} {w : World} {outer : List PySem.Env} {H : Hp} {s : Shared} {u : Value} {s' : Shared} (h : L2.CX P w outer H s (fun _ _ _ => False) u s') : False := by
  obtain ⟨_, _, _, _, _, _, _, _, _, _, _, _, e⟩ := h
  exact e
/-! ### the classes of the errors -/
open PySem.W in
structure HereC (K : Frag) (m T : String) : Prop where
  ex : ∃ D G, nsIn K mainGlobals (Str.ofString m) = some (some (.ref D)) ∧ nsIn K mainGlobals (Str.ofString T) = some (some (.ref G)) ∧ exmOne K (.ref D) (.ref G) = some true
open PySem.W in
theorem hereCat_of {K : Frag} {m T : String} {D G : Addr} (a : nsIn K mainGlobals (Str.ofString m) = some (some (.ref D))) (b : nsIn K mainGlobals (Str.ofString T) = some (some (.ref G))) (h1 : subIn K (.ref G) (.type "BaseException") = some true) (h2 : hasDictIn K G = true) (h3 : typeIn K (.ref G) = some (.type "type")) (h4 : subIn K (.ref D) (.ref G) = some true) : HereC K m T := ⟨D, G, a, b, exm_ref h1 h2 h3 h4⟩
theorem cat_one {K : PySem.W.Frag} {h : Heap} {mg : Str → Option Value} {T : String} (X : K.In h) (N : h.Ns mainGlobals mg) (e : HereC K T T) : Cat K mg T (ctOne T) := by
  obtain ⟨D, G, a, b, c⟩ := e.ex
  refine ⟨G, PySem.W.mg_of X N b, fun m hm => ?_⟩
  have hm := of_decide_eq_true hm
  subst hm
  exact ⟨D, PySem.W.mg_of X N a, c⟩
theorem cat_all {K : PySem.W.Frag} {h : Heap} {mg : Str → Option Value} (X : K.In h) (N : h.Ns mainGlobals mg) (e : ∀ m ∈ ex8, HereC K m "CodeError") : Cat K mg "CodeError" ct8 := by
  obtain ⟨D, G, a, b, c⟩ := (e "NoSign" (by decide)).ex
  refine ⟨G, PySem.W.mg_of X N b, fun m hm => ?_⟩
  obtain ⟨D', G', a', b', c'⟩ := (e m (of_decide_eq_true hm)).ex
  cases (PySem.W.mg_of X N b).symm.trans (PySem.W.mg_of X N b')
  exact ⟨D', PySem.W.mg_of X N a', c'⟩
theorem all8 {P : String → Prop} (h1 : P "NoWeights") (h2 : P "BadWeight") (h3 : P "BadBound") (h4 : P "NoRoom") (h5 : P "BadLengths") (h6 : P "BadWords") (h7 : P "BadBits") (h8 : P "NoSign") : ∀ m ∈ ex8, P m := by
  intro m hm
  simp only [ex8, List.mem_cons, List.not_mem_nil, or_false] at hm
  rcases hm with rfl | rfl | rfl | rfl | rfl | rfl | rfl | rfl <;> assumption
structure HereE (K : PySem.W.Frag) (n : String) : Prop where
  ex : ∃ D, PySem.W.nsIn K mainGlobals (Str.ofString n) = some (some (.ref D)) ∧ ExcC K D ∧ PySem.W.kitOne K (.ref D) (.type "ValueError") = some true
theorem kit_val {K : PySem.W.Frag} {D : Addr} (h : PySem.W.subIn K (.ref D) (.type "ValueError") = some true) : PySem.W.kitOne K (.ref D) (.type "ValueError") = some true := by
  unfold PySem.W.kitOne
  rw [if_neg (by intro z; cases z)]
  unfold PySem.W.kitCls
  dsimp only
  rw [if_pos (by rfl)]
  exact h
open PySem.W in
theorem hereE_of {K : Frag} {n : String} {D : Addr} (a : nsIn K mainGlobals (Str.ofString n) = some (some (.ref D))) (hg : findIn K (.ref D) "__getattribute__" = some (some (.builtin "BaseException.__getattribute__"))) (hk : findIn K (.ref D) "__getattr__" = some none) (hs : subIn K (.ref D) (.type "BaseException") = some true) (hd : hasDictIn K D = true)
    (ha : findIn K (.ref D) "__class__" = some (some (.builtin "object.__class__"))) (hn : specialIn K (.builtin "object.__class__") "__get__" = some (some (.builtin "getset_descriptor.__get__"))) (ht : takesIn K (.builtin "object.__class__") = some true) (hm : mroIn K D (.type "object") = some true) (hv : subIn K (.ref D) (.type "ValueError") = some true) : HereE K n := ⟨D, a, ⟨hg, hk, hs, hd, ha, hn, ht, hm⟩, kit_val hv⟩
theorem is8_of {K : PySem.W.Frag} {h : Heap} {mg : Str → Option Value} (X : K.In h) (N : h.Ns mainGlobals mg) (e : ∀ m ∈ ex8, HereE K m) : Is8 K mg := ⟨fun n hn => by
  obtain ⟨D, a, b, c⟩ := (e n hn).ex
  exact ⟨D, PySem.W.mg_of X N a, b, c⟩⟩
structure HereP (K : PySem.W.Frag) (T n : String) : Prop where
  ex : ∃ D G, PySem.W.nsIn K mainGlobals (Str.ofString n) = some (some (.ref D)) ∧ PySem.W.nsIn K mainGlobals (Str.ofString T) = some (some (.ref G)) ∧ PySem.W.kitOne K (.ref D) (.ref G) = some (decide (n = T))
open PySem.W in
theorem herePe_of {K : Frag} {n : String} {D : Addr} (a : nsIn K mainGlobals (Str.ofString n) = some (some (.ref D))) : HereP K n n := ⟨D, D, a, a, by
  unfold kitOne
  rw [if_pos (by simp), decide_eq_true rfl]⟩
open PySem.W in
theorem hereP_of {K : Frag} {T n : String} {D G : Addr} (a : nsIn K mainGlobals (Str.ofString n) = some (some (.ref D))) (b : nsIn K mainGlobals (Str.ofString T) = some (some (.ref G))) (c : D ≠ G) (h2 : hasDictIn K G = true) (h3 : typeIn K (.ref G) = some (.type "type")) (h4 : subIn K (.ref D) (.ref G) = some false) (hne : n ≠ T) : HereP K T n := ⟨D, G, a, b, by
  unfold kitOne
  rw [if_neg (by intro z; exact c (Value.ref.inj (beq_iff_eq.mp z))), decide_eq_false hne]
  unfold kitCls
  dsimp only
  obtain ⟨cd, hc, _⟩ := any_some h2
  rw [if_pos (by rw [hc, h3]; rfl)]
  exact h4⟩
theorem isT_of {K : PySem.W.Frag} {h : Heap} {mg : Str → Option Value} {T : String} (X : K.In h) (N : h.Ns mainGlobals mg) (e : ∀ m ∈ ex8, HereP K T m) : IsT K mg T := by
  obtain ⟨D, G, a, b, c⟩ := (e "NoSign" (by decide)).ex
  refine ⟨G, PySem.W.mg_of X N b, fun n hn D1 hD => ?_⟩
  obtain ⟨D', G', a', b', c'⟩ := (e n hn).ex
  cases (PySem.W.mg_of X N b).symm.trans (PySem.W.mg_of X N b')
  cases hD.symm.trans (PySem.W.mg_of X N a')
  exact c'
/-! ### an end with a table of code objects -/
structure LamK (K : PySem.W.Frag) (x0 : Str) (c P : Addr) : Prop where
  ex : ∃ (f : Addr) (o : Obj) (fd : FuncData) (e : Value) (dd : Option Addr) (vs : Array Value) (sl : Array (Option Value)), PySem.W.nsIn K mainGlobals x0 = some (some (.ref f)) ∧ K.lookup f = some o ∧ o.data = .func fd ∧ fd.code = .ref c ∧ K.lookup c = some ⟨e, dd, .fields vs, sl⟩ ∧ vs[11]? = some (.ref P) ∧ K.lookup P = none
structure HereL (K : PySem.W.Frag) (x0 : Str) : Prop where
  ex : ∃ c P, LamK K x0 c P
theorem hereL_of {K : PySem.W.Frag} {x0 q : Str} {as : Arguments} {bd : List Stmt} {sc : Scope} {f c P : Addr} {od an dd : Option Addr} {sl sl2 : Array (Option Value)} {oc e kV dc pm ct : Value} {vs : Array Value} (a : PySem.W.nsIn K mainGlobals x0 = some (some (.ref f)))
    (l : K.lookup f = some ⟨oc, od, .func (PySem.W.fnOf x0 q as bd sc .none kV dc pm an (.ref c) ct), sl⟩) (k : K.lookup c = some ⟨e, dd, .fields vs, sl2⟩) (v : vs[11]? = some (.ref P)) (n : K.lookup P = none) : HereL K x0 := ⟨c, P, f, _, _, e, dd, vs, sl2, a, l, rfl, rfl, k, v, n⟩
theorem LamK.code {K : PySem.W.Frag} {x0 q : Str} {st : Stmt} {f c P : Addr} {fd : FuncData} (L : LamK K x0 c P) (u : Fun K x0 q st f fd) (a : PySem.W.nsIn K mainGlobals x0 = some (some (.ref f))) : fd.code = .ref c := by
  obtain ⟨f1, o, fd1, e, dd, vs, sl, h1, h2, h3, h4, _⟩ := L.ex
  obtain ⟨oc, od, kV, doc, pm, an, cdv, ct, osl, rfl, lk, hcd⟩ := u.ex
  rw [a] at h1
  cases h1
  rw [lk] at h2
  cases h2
  cases h3
  exact h4
theorem LamK.lf {K : PySem.W.Frag} {x0 q qual : Str} {st : Stmt} {f c P : Addr} {fd : FuncData} {base : Heap} {mg : Str → Option Value} (L : LamK K x0 c P) (u : Fun K x0 q st f fd) (a : PySem.W.nsIn K mainGlobals x0 = some (some (.ref f))) (TB : LamX.TabB base mg c P) :
    LamF base mg [(P, qual ++ ".<locals>." ++ "<lambda>")] qual fd := ⟨c, P, L.code u a, TB, List.mem_singleton.mpr rfl, fun p hp _ => by rw [List.mem_singleton.mp hp]⟩
theorem walk_tab {l : PySem.W.OpenLaw} {n k : Nat} {q : Program} {loose : List Str} {XP : (Str → Option Value) → Heap → Prop} {YP : World → Heap → Prop} {d : DefRec} {K : Params → PySem.W.Frag} {CX : World → L2.CXT} {x x0 : Str}
    (hn : l.most = some n) (hn2 : n ≤ sizeLine) (hdf : d.params.defaults = []) (hr : Room k callerA) (hrec : ((PyProof.Rows.recsOf q).any fun e => e.name == x0) = true) (hY : ∀ (w : World) (h : Heap), YP w h → (K w.params).In h)
    (F : ∀ (w : World) (mg : Str → Option Value) (fa : Addr) (h : Heap), (K w.params).In h → h.Ns mainGlobals mg → mg d.name = some (.ref fa) →
      ∃ (c P : Addr) (fd : FuncData) (sp : Sp), LamK (K w.params) x0 c P ∧ (∀ (s : Shared) (u : Value), BindsTo s fd ⟨[u], []⟩ [(x, u)]) ∧ (∀ (H : Hp) (a : Addr) (ns : List Int), ns.length ≤ n → H P = some (.tbl #[]) → SqL (K w.params) H a (ns.map V.int) → sp [.ref a] H (fun v _ => v = .bl true) fun _ _ _ => False) ∧
        ∀ base : Heap, (K w.params).In base → base.Ns mainGlobals mg → LamX.TabB base mg c P → FnOk l.prog w (K w.params) mg base (CX w) k fa fd [x] sp)
    (hCX : ∀ (w : World) (H : Hp) (s : Shared) (e : Value) (s' : Shared), CX w [] H s (fun _ _ _ => False) e s' → False) :
    PySem.W.WalkO q loose XP YP l.row.toRowW d [] (fun f vs => PySem.call f vs) := by
  refine Att.attach_callB hn hdf fun w s₀ s₁ mg mb fa o pm cd doc a vs ns G Y ho hd hcd hmg hobj hints hlen hbits hg => ?_
  have KX := hY w _ Y
  obtain ⟨c, P, fd, sp, L, hb, hsp, hF⟩ := F w mg fa _ KX G.T.g hmg
  obtain ⟨f1, o1, fd1, e1, dd, vs1, sl, k0, k1, k2, k3, k4, k5, k6⟩ := L.ex
  obtain ⟨dL, hm, hn1⟩ := List.any_eq_true.mp hrec
  have hn3 : dL.name = x0 := beq_iff_eq.mp hn1
  obtain ⟨a', o', fd', c', P', h1, h2, h3, h4, h5, h6⟩ := G.T.tab dL hm
  rw [hn3, PySem.W.mg_of KX G.T.g k0] at h1
  cases h1
  have g1 := KX _ _ k1
  rw [g1] at h2
  cases h2
  rw [k2] at h3
  cases h3
  rw [k3] at h4
  cases h4
  have hcd2 := PySem.W.CodeHd.of h5 h6
  obtain ⟨⟨oc, vc, e1, _, e3, e4⟩, hP⟩ := h6
  have g2 := KX _ _ k4
  rw [g2] at e1
  cases e1
  cases e3
  rw [k5] at e4
  cases e4
  have one : ∀ p ∈ [(c, P)], p = (c, P) := fun p hp => List.mem_singleton.mp hp
  exact LamX.law_callTs (cs := [(c, P)]) KX G.T.g G.T.b G.T.builtins G.T.nolimit hg (fun p hp => by rw [one p hp]; exact hP) (fun p hp => by rw [one p hp]; exact k6) (fun p hp => by rw [one p hp]; exact hcd2) G.T.bmain hobj hints (Nat.le_trans hlen hn2) hr (fun base b1 b2 b3 => hF base b1 b2 (b3 (c, P) (List.mem_singleton.mpr rfl))) hb
    (fun H hH hS => hsp H a ns hlen (hH (c, P) (List.mem_singleton.mpr rfl)) hS) fun H e s' => hCX w H s₁ e s'
end PL
namespace PL
open PySem L2
noncomputable section
/-! is_number: slots 0:thing 1:least 2:most -/
def g_is_number : SE := (sRet (eOfB (bAnd (bOf (eIsI (rVar 0) "int")) (bAnd (bNot (bOf (eIsI (rVar 0) "bool"))) (bOf (eChain oLe oLe (eVar 1) (eVar 0) (eVar 2)))))))
def F_is_number : FN := runF 3 3 g_is_number
def noDict : PyData → Bool
  | .dict _ => false
  | _ => true
theorem noDict_ne {d : PyData} (h : noDict d = true) : ∀ kvs, d ≠ .dict kvs := fun kvs e => by
  subst e
  cases h
/-- a whole number within bounds -/
def isNum (d : PyData) (lo hi : Int) : Bool := match d with
  | .int i => decide (lo ≤ i ∧ i ≤ hi)
  | _ => false
@[simp] theorem isNum_int {i lo hi : Int} : isNum (.int i) lo hi = decide (lo ≤ i ∧ i ≤ hi) := rfl
@[simp] theorem isNum_none {lo hi : Int} : isNum .none lo hi = false := rfl
@[simp] theorem isNum_bool {b : Bool} {lo hi : Int} : isNum (.bool b) lo hi = false := rfl
@[simp] theorem isNum_str {b : Str} {lo hi : Int} : isNum (.str b) lo hi = false := rfl
@[simp] theorem isNum_list {b : List PyData} {lo hi : Int} : isNum (.list b) lo hi = false := rfl
@[simp] theorem isNum_tuple {b : List PyData} {lo hi : Int} : isNum (.tuple b) lo hi = false := rfl
@[simp] theorem noDict_int {i : Int} : noDict (.int i) = true := rfl
@[simp] theorem noDict_none : noDict .none = true := rfl
@[simp] theorem noDict_bool {b : Bool} : noDict (.bool b) = true := rfl
@[simp] theorem noDict_str {b : Str} : noDict (.str b) = true := rfl
@[simp] theorem noDict_list {b : List PyData} : noDict (.list b) = true := rfl
@[simp] theorem noDict_tuple {b : List PyData} : noDict (.tuple b) = true := rfl
@[simp] theorem noDict_ints (ns : List Int) : (ns.map PyData.int).all noDict = true := by simp
def M_is_number : FN
  | [.fz d, .fz (.int lo), .fz (.int hi)] => if noDict d then .ok (.val (.bool (isNum d lo hi))) else .stuck
  | _ => .stuck
theorem ok_is_number : ∀ as : List SL, as.length = 3 → M_is_number as ≠ .stuck → F_is_number as = M_is_number as := by
  intro as hl h
  clear hl
  unfold M_is_number at h ⊢
  split at h
  · rename_i d lo hi
    try dsimp only
    by_cases hd : noDict d = true
    · rw [if_pos hd]
      have h1 : eIsI (rVar 0) "int" [some (.fz d), some (.fz (.int lo)), some (.fz (.int hi))] = .ok (.bool (isInt d)) := eIsI_ok rfl (kit_int d (noDict_ne hd))
      have h2 : eIsI (rVar 0) "bool" [some (.fz d), some (.fz (.int lo)), some (.fz (.int hi))] = .ok (.bool (isBool d)) := eIsI_ok rfl (kit_bool d (noDict_ne hd))
      cases d with
      | int i =>
        simp [F_is_number, runF, g_is_number, h1, h2, isInt, isBool, isNum, eChain]
        by_cases hl : lo ≤ i
        · simp [hl]
        · simp [hl]
      | bool b => simp [F_is_number, runF, g_is_number, h1, h2, isInt, isBool, isNum]
      | dict kvs => cases hd
      | _ => simp [F_is_number, runF, g_is_number, h1, h2, isInt, isBool, isNum]
    · simp [hd] at h
  · exact absurd rfl h

/-! need_bound: slots 0:bound -/
def g_need_bound : SE := (sIf (bNot (bOf (eX (xCall M_is_number (rV (eVar 0) (rV (eC (.int 1)) (rV (eC (.int 12)) rNil))))))) (sRaise "BadBound") sNext)
def F_need_bound : FN := runF 1 1 g_need_bound
def M_need_bound : FN
  | [.fz d] => if noDict d then (if isNum d 1 12 then .ok (.val .none) else .exc "BadBound") else .stuck
  | _ => .stuck
theorem ok_need_bound : ∀ as : List SL, as.length = 1 → M_need_bound as ≠ .stuck → F_need_bound as = M_need_bound as := by
  intro as hl h
  clear hl
  unfold M_need_bound at h ⊢
  split at h
  · rename_i d
    try dsimp only
    by_cases hd : noDict d = true
    · cases hn : isNum d 1 12 <;> simp [F_need_bound, runF, g_need_bound, eX, M_is_number, hd, hn]
    · simp [hd] at h
  · exact absurd rfl h

/-! need_lengths: slots 0:lengths 1:bound 2:one -/
def g_need_lengths : SE := (sSeq (sDropX (xCall M_need_bound (rV (eVar 1) rNil)))
  (sSeq (sIf (bOf (eOp oGt (eLenV (rVar 0)) (eC (.int 24)))) (sRaise "BadLengths") sNext)
  (sFor (sVar 0) (tgN 2) [2] (sIf (bNot (bOf (eX (xCall M_is_number (rV (eVar 2) (rV (eC (.int 1)) (rV (eVar 1) rNil))))))) (sRaise "BadLengths") sNext))))
def F_need_lengths : FN := runF 2 3 g_need_lengths
/-- what need_lengths says: none, or the class -/
def lensBad (ds : List PyData) (b : PyData) : Option String :=
  match b with
  | .int n => if 1 ≤ n ∧ n ≤ 12 then (if 24 < ds.length then some "BadLengths" else if ds.all (fun d => isNum d 1 n) then none else some "BadLengths") else some "BadBound"
  | _ => some "BadBound"
def M_need_lengths : FN
  | [.bw ds, .fz b] => if noDict b && ds.all noDict then (match lensBad ds b with
    | none => .ok (.val .none)
    | some n => .exc n) else .stuck
  | _ => .stuck
/-- a loop over a list whose items are asked one by one -/
theorem ask_loop {tg : TGT} {ws : List Nat} {body : SE} {ρ : Env} {n : String} (p : PyData → Bool) (ds : List PyData) (hs : ∀ d ∈ ds, ∃ ρ', turn tg ws body d ρ = if p d then .nx ρ else .ex n ρ') :
    (ds.all p = true ∧ forGo tg ws body ds ρ = .nx ρ) ∨ (ds.all p = false ∧ ∃ ρ', forGo tg ws body ds ρ = .ex n ρ') := by
  induction ds with
  | nil => exact .inl ⟨rfl, rfl⟩
  | cons d r ih =>
    obtain ⟨ρ', h⟩ := hs d List.mem_cons_self
    rw [forGo_cons, h, List.all_cons]
    cases p d with
    | true =>
      rw [if_pos rfl, Bool.true_and]
      exact ih fun d hd => hs d (List.mem_cons_of_mem _ hd)
    | false =>
      rw [if_neg Bool.false_ne_true, Bool.false_and]
      exact .inr ⟨rfl, ρ', rfl⟩
theorem ok_need_lengths : ∀ as : List SL, as.length = 2 → M_need_lengths as ≠ .stuck → F_need_lengths as = M_need_lengths as := by
  intro as hl h
  clear hl
  unfold M_need_lengths at h ⊢
  split at h
  · rename_i ds b
    try dsimp only
    by_cases hd : (noDict b && ds.all noDict) = true
    · rw [if_pos hd]
      rw [Bool.and_eq_true] at hd
      obtain ⟨hb, hds⟩ := hd
      unfold lensBad
      cases b with
      | int n =>
        by_cases hn : 1 ≤ n ∧ n ≤ 12
        · by_cases hlen : 24 < ds.length
          · have h24 : (24 : Int) < (ds.length : Int) := by omega
            simp [F_need_lengths, runF, g_need_lengths, M_need_bound, hn, hlen, h24]
          · have h24 : ¬ (24 : Int) < (ds.length : Int) := by omega
            have hs := ask_loop (tg := tgN 2) (ws := [2]) (n := "BadLengths") (body := sIf (bNot (bOf (eX (xCall M_is_number (rV (eVar 2) (rV (eC (.int 1)) (rV (eVar 1) rNil))))))) (sRaise "BadLengths") sNext) (ρ := [some (.bw ds), some (.fz (.int n)), none])
              (fun d => isNum d 1 n) ds (fun d hm => ⟨[some (.bw ds), some (.fz (.int n)), some (.fz d)], by
                have hnd : noDict d = true := List.all_eq_true.mp hds d hm
                cases hb : isNum d 1 n <;> simp [turn, M_is_number, eX, hnd, hb]⟩)
            rcases hs with ⟨h1, h2⟩ | ⟨h1, ρ', h2⟩
            · try dsimp only
              rw [if_pos hn, if_neg hlen, h1]
              simp [F_need_lengths, runF, g_need_lengths, M_need_bound, hn, hlen, h24, h2]
            · try dsimp only
              rw [if_pos hn, if_neg hlen, h1]
              simp [F_need_lengths, runF, g_need_lengths, M_need_bound, hn, hlen, h24, h2]
        · simp [F_need_lengths, runF, g_need_lengths, M_need_bound, hn]
      | dict kvs => cases hb
      | _ => simp [F_need_lengths, runF, g_need_lengths, M_need_bound]
    · simp [hd] at h
  · exact absurd rfl h

/-! need_weights: slots 0:weights 1:one -/
def g_need_weights : SE := (sSeq (sIf (bOf (eOp oGt (eLenV (rVar 0)) (eC (.int 24)))) (sRaise "NoWeights") sNext)
  (sFor (sVar 0) (tgN 1) [1] (sIf (bNot (bOf (eX (xCall M_is_number (rV (eVar 1) (rV (eC (.int 0)) (rV (eC (.int 1000000000000)) rNil))))))) (sRaise "BadWeight") sNext)))
def F_need_weights : FN := runF 1 2 g_need_weights
/-- what need_weights says: none, or the class -/
def wBad (ds : List PyData) : Option String := if 24 < ds.length then some "NoWeights" else if ds.all (fun d => isNum d 0 1000000000000) then none else some "BadWeight"
def M_need_weights : FN
  | [.bw ds] => if ds.all noDict then (match wBad ds with
    | none => .ok (.val .none)
    | some n => .exc n) else .stuck
  | _ => .stuck
theorem ok_need_weights : ∀ as : List SL, as.length = 1 → M_need_weights as ≠ .stuck → F_need_weights as = M_need_weights as := by
  intro as hl h
  clear hl
  unfold M_need_weights at h ⊢
  split at h
  · rename_i ds
    try dsimp only
    by_cases hds : ds.all noDict = true
    · rw [if_pos hds]
      unfold wBad
      by_cases hlen : 24 < ds.length
      · have h24 : (24 : Int) < (ds.length : Int) := by omega
        simp [F_need_weights, runF, g_need_weights, hlen, h24]
      · have h24 : ¬ (24 : Int) < (ds.length : Int) := by omega
        have hs := ask_loop (tg := tgN 1) (ws := [1]) (n := "BadWeight") (body := sIf (bNot (bOf (eX (xCall M_is_number (rV (eVar 1) (rV (eC (.int 0)) (rV (eC (.int 1000000000000)) rNil))))))) (sRaise "BadWeight") sNext) (ρ := [some (.bw ds), none])
          (fun d => isNum d 0 1000000000000) ds (fun d hm => ⟨[some (.bw ds), some (.fz d)], by
            have hnd : noDict d = true := List.all_eq_true.mp hds d hm
            cases hb : isNum d 0 1000000000000 <;> simp [turn, M_is_number, eX, hnd, hb]⟩)
        rcases hs with ⟨h1, h2⟩ | ⟨h1, ρ', h2⟩
        · rw [if_neg hlen, h1]
          simp [F_need_weights, runF, g_need_weights, hlen, h24, h2]
        · rw [if_neg hlen, h1]
          simp [F_need_weights, runF, g_need_weights, hlen, h24, h2]
    · simp [hds] at h
  · exact absurd rfl h

/-! doubled: slots 0:times 1:found 2:turn -/
def g_doubled : SE := (sSeq (sSet 1 (eC (.int 1)))
  (sSeq (sFor (wRange1 (eVar 0)) (tgN 2) [2] (sSet 1 (eOp oMul (eVar 1) (eC (.int 2)))))
  (sRet (eVar 1))))
def F_doubled : FN := runF 1 3 g_doubled
/-- the loop that doubles -/
theorem doubles (tg : TGT) (body : SE) (mk : Int → Env) (ws : List Nat) (h : ∀ (a : Int) (k : Int), -(2 ^ 64) < a ∧ a < 2 ^ 64 → turn tg ws body (.int k) (mk a) = .nx (mk (a * 2))) (n : Nat) (hn : n ≤ 60) : forGo tg ws body (rngD 0 n 1) (mk 1) = .nx (mk ((2 : Int) ^ n)) := by
  obtain ⟨ρ', h1, h2⟩ := forGo_inv (tg := tg) (ws := ws) (body := body) (ρ := mk 1) (fun pre ρ => pre.length ≤ n ∧ ρ = mk ((2 : Int) ^ pre.length)) (rngD 0 n 1) ⟨Nat.zero_le _, rfl⟩ (fun pre d post ρ e ⟨hl, hr⟩ => by
    have hlen := congrArg List.length e
    rw [List.length_append, List.length_cons] at hlen
    have hln : (rngD 0 n 1).length = n := by unfold rngD; rw [List.length_map, List.length_range]
    rw [hln] at hlen
    have hd : ∃ k : Int, d = .int k := by
      have hm : d ∈ rngD 0 n 1 := by rw [e]; exact List.mem_append_right _ List.mem_cons_self
      unfold rngD at hm
      obtain ⟨k, _, hk⟩ := List.mem_map.mp hm
      exact ⟨_, hk.symm⟩
    obtain ⟨k, rfl⟩ := hd
    subst hr
    have hb : (2 : Int) ^ pre.length ≤ 2 ^ 60 := by
      have : (2 : Nat) ^ pre.length ≤ 2 ^ 60 := Nat.pow_le_pow_right (by decide) (by omega)
      exact_mod_cast this
    have hp : (0 : Int) < 2 ^ pre.length := Int.pow_pos (by decide)
    refine ⟨mk ((2 : Int) ^ (pre.length + 1)), ?_, by rw [List.length_append]; exact ⟨by show pre.length + 1 ≤ n; omega, rfl⟩⟩
    rw [h _ k ⟨by omega, by omega⟩, Int.pow_succ])
  rw [h1]
  have hln : (rngD 0 n 1).length = n := by unfold rngD; rw [List.length_map, List.length_range]
  rw [h2.2, hln]
def M_doubled : FN
  | [.fz (.int n)] => if n ≤ 60 ∧ -1000 ≤ n then .ok (.val (.int (2 ^ n.toNat))) else .stuck
  | _ => .stuck
theorem ok_doubled : ∀ as : List SL, as.length = 1 → M_doubled as ≠ .stuck → F_doubled as = M_doubled as := by
  intro as hl h
  clear hl
  unfold M_doubled at h ⊢
  split at h
  · rename_i n
    try dsimp only
    by_cases hn : n ≤ 60 ∧ -1000 ≤ n
    · rw [if_pos hn]
      have hl := doubles (tgN 2) (sSet 1 (eOp oMul (eVar 1) (eC (.int 2)))) (fun a => [some (.fz (.int n)), some (.fz (.int a)), none]) [2] (fun a k ha => by simp [turn, oMul_l ha]) n.toNat (by omega)
      have hw : wRange1 (eVar 0) [some (.fz (.int n)), some (.fz (.int 1)), none] = .ok (rngD 0 n.toNat 1) := wRange1_ok rfl ⟨by omega, by omega⟩
      simp [F_doubled, runF, g_doubled, hw, hl]
    · simp [hn] at h
  · exact absurd rfl h

/-! barred: slots 0:weights 1:bound -/
def g_barred : SE := (sSeq (sDropX (xCall M_need_weights (rL (lVar 0) rNil)))
  (sSeq (sDropX (xCall M_need_bound (rV (eVar 1) rNil)))
  (sSeq (sIf (bOf (eOp oGt (eLenV (rVar 0)) (eX (xCall M_doubled (rV (eVar 1) rNil))))) (sRet (eTup [(eLenV (rVar 0)), (eX (xCall M_doubled (rV (eVar 1) rNil)))])) sNext)
  (sRet (eC .none)))))
def F_barred : FN := runF 2 2 g_barred
/-- what barred says of a bound -/
def boundBad (b : PyData) : Option String := match b with
  | .int n => if 1 ≤ n ∧ n ≤ 12 then none else some "BadBound"
  | _ => some "BadBound"
theorem boundBad_none {b : PyData} (h : boundBad b = none) : ∃ n : Int, b = .int n ∧ 1 ≤ n ∧ n ≤ 12 := by
  cases b with
  | int n =>
    unfold boundBad at h
    dsimp only at h
    by_cases hn : 1 ≤ n ∧ n ≤ 12
    · exact ⟨n, rfl, hn⟩
    · rw [if_neg hn] at h; cases h
  | _ => cases h
theorem M_need_bound_eq {b : PyData} (hb : noDict b = true) : M_need_bound [.fz b] = match boundBad b with
    | some c => .exc c
    | none => .ok (.val .none) := by
  unfold M_need_bound boundBad
  cases b with
  | int n =>
    dsimp only
    by_cases hn : 1 ≤ n ∧ n ≤ 12
    · simp [hn]
    · simp [hn]
  | dict kvs => cases hb
  | _ => rfl
/-- what goes first of all that is barred -/
def inBad (ds : List PyData) (b : PyData) : Option String := match wBad ds with
  | some c => some c
  | none => boundBad b
def M_barred : FN
  | [.bw ds, .fz b] => if ds.all noDict && noDict b then (match inBad ds b with
    | some c => .exc c
    | none => (match b with
      | .int n => if 2 ^ n.toNat < ds.length then .ok (.val (.tuple [.int ds.length, .int (2 ^ n.toNat)])) else .ok (.val .none)
      | _ => .stuck)) else .stuck
  | _ => .stuck
theorem ok_barred : ∀ as : List SL, as.length = 2 → M_barred as ≠ .stuck → F_barred as = M_barred as := by
  intro as hl h
  clear hl
  unfold M_barred at h ⊢
  split at h
  · rename_i ds b
    try dsimp only
    by_cases hd : (ds.all noDict && noDict b) = true
    · rw [if_pos hd]
      rw [Bool.and_eq_true] at hd
      obtain ⟨hds, hb⟩ := hd
      unfold inBad
      cases hw : wBad ds with
      | some c => simp [F_barred, runF, g_barred, M_need_weights, hds, hw]
      | none =>
        dsimp only
        cases hbb : boundBad b with
        | some c => simp [F_barred, runF, g_barred, M_need_weights, hds, hw, M_need_bound_eq hb, hbb]
        | none =>
          obtain ⟨n, rfl, h1, h2⟩ := boundBad_none hbb
          have hn : n ≤ 60 ∧ -1000 ≤ n := by omega
          by_cases hlt : 2 ^ n.toNat < ds.length
          · have hlt2 : (2 : Int) ^ n.toNat < (ds.length : Int) := by exact_mod_cast hlt
            simp [F_barred, runF, g_barred, M_need_weights, hds, hw, M_need_bound_eq hb, hbb, M_doubled, hn, hlt, hlt2]
          · have hlt2 : ¬ (2 : Int) ^ n.toNat < (ds.length : Int) := by exact_mod_cast hlt
            simp [F_barred, runF, g_barred, M_need_weights, hds, hw, M_need_bound_eq hb, hbb, M_doubled, hn, hlt, hlt2]
    · rw [if_neg hd] at h; exact absurd rfl h
  · exact absurd rfl h

/-! need_room: slots 0:weights 1:bound -/
def g_need_room : SE := (sIf (bOf (eNotN (eX (xCall M_barred (rL (lVar 0) (rV (eVar 1) rNil)))))) (sRaise "NoRoom") sNext)
def F_need_room : FN := runF 2 2 g_need_room
/-- what need_room says: none, or the class that goes first -/
def roomBad (ds : List PyData) (b : PyData) : Option String := match inBad ds b with
  | some c => some c
  | none => (match b with
    | .int n => if 2 ^ n.toNat < ds.length then some "NoRoom" else none
    | _ => none)
def M_need_room : FN
  | [.bw ds, .fz b] => if ds.all noDict && noDict b then (match roomBad ds b with
    | some c => .exc c
    | none => .ok (.val .none)) else .stuck
  | _ => .stuck
theorem ok_need_room : ∀ as : List SL, as.length = 2 → M_need_room as ≠ .stuck → F_need_room as = M_need_room as := by
  intro as hl h
  clear hl
  unfold M_need_room at h ⊢
  split at h
  · rename_i ds b
    try dsimp only
    by_cases hd : (ds.all noDict && noDict b) = true
    · rw [if_pos hd]
      rw [Bool.and_eq_true] at hd
      obtain ⟨hds, hb⟩ := hd
      unfold roomBad
      cases hw : inBad ds b with
      | some c => simp [F_need_room, runF, g_need_room, M_barred, hds, hb, hw]
      | none =>
        have hbb : boundBad b = none := by
          unfold inBad at hw
          cases hx : wBad ds with
          | some c => rw [hx] at hw; cases hw
          | none => rw [hx] at hw; exact hw
        obtain ⟨n, rfl, h1, h2⟩ := boundBad_none hbb
        by_cases hlt : 2 ^ n.toNat < ds.length
        · simp [F_need_room, runF, g_need_room, M_barred, hds, hb, hw, hlt]
        · simp [F_need_room, runF, g_need_room, M_barred, hds, hb, hw, hlt]
    · rw [if_neg hd] at h; exact absurd rfl h
  · exact absurd rfl h

/-! weight_of: slots 0:packet -/
def g_weight_of : SE := (sRet (eIxT (eVar 0) (eC (.int 0))))
def F_weight_of : FN := runF 1 1 g_weight_of
theorem ex_weight_of : ∃ M : FN, M = F_weight_of := ⟨_, rfl⟩
def M_weight_of : FN := ex_weight_of.choose
theorem M_weight_of_eq : M_weight_of = F_weight_of := ex_weight_of.choose_spec
theorem ok_weight_of : ∀ as : List SL, as.length = 1 → M_weight_of as ≠ .stuck → F_weight_of as = M_weight_of as := fun _ _ _ => by rw [M_weight_of_eq]

/-! ### sorting by a whole number: just one list -/
section
variable {α : Type} (key : α → Int)
def leBy (a b : α) : Bool := decide (key a ≤ key b)
/-- what is sorted, and has each key's items in the same order, is the same -/
theorem sort_uniq : ∀ (l m : List α), l.Pairwise (fun a b => key a ≤ key b) → m.Pairwise (fun a b => key a ≤ key b) → (∀ v, l.filter (fun x => decide (key x = v)) = m.filter fun x => decide (key x = v)) → l = m
  | [], [], _, _, _ => rfl
  | [], y :: m, _, _, h => by
    have := h (key y)
    rw [List.filter_nil, List.filter_cons, if_pos (decide_eq_true rfl)] at this
    cases this
  | x :: l, [], _, _, h => by
    have := h (key x)
    rw [List.filter_nil, List.filter_cons, if_pos (decide_eq_true rfl)] at this
    cases this
  | x :: l, y :: m, hl, hm, h => by
    have hx : x ∈ (y :: m) := by
      have h1 : x ∈ (x :: l).filter (fun z => decide (key z = key x)) := List.mem_filter.mpr ⟨List.mem_cons_self, decide_eq_true rfl⟩
      rw [h] at h1
      exact (List.mem_filter.mp h1).1
    have hy : y ∈ (x :: l) := by
      have h1 : y ∈ (y :: m).filter (fun z => decide (key z = key y)) := List.mem_filter.mpr ⟨List.mem_cons_self, decide_eq_true rfl⟩
      rw [← h] at h1
      exact (List.mem_filter.mp h1).1
    have e1 : key x ≤ key y := by
      rcases List.mem_cons.mp hy with e | e
      · rw [e]; exact Int.le_refl _
      · exact (List.pairwise_cons.mp hl).1 y e
    have e2 : key y ≤ key x := by
      rcases List.mem_cons.mp hx with e | e
      · rw [e]; exact Int.le_refl _
      · exact (List.pairwise_cons.mp hm).1 x e
    have ek : key y = key x := by omega
    have hv := h (key x)
    rw [List.filter_cons, List.filter_cons, if_pos (decide_eq_true rfl), if_pos (decide_eq_true ek)] at hv
    have exy : x = y := (List.cons.inj hv).1
    subst exy
    rw [sort_uniq l m (List.pairwise_cons.mp hl).2 (List.pairwise_cons.mp hm).2 fun v => by
      have := h v
      rw [List.filter_cons, List.filter_cons] at this
      by_cases e : key x = v
      · rw [if_pos (decide_eq_true e), if_pos (decide_eq_true e)] at this
        exact (List.cons.inj this).2
      · have ne : ¬ decide (key x = v) = true := by rw [decide_eq_true_iff]; exact e
        rw [if_neg ne, if_neg ne] at this
        exact this]
theorem leBy_trans (a b c : α) (h1 : leBy key a b = true) (h2 : leBy key b c = true) : leBy key a c = true := by
  unfold leBy at *
  rw [decide_eq_true_iff] at *
  omega
theorem leBy_total (a b : α) : (leBy key a b || leBy key b a) = true := by
  unfold leBy
  rw [Bool.or_eq_true, decide_eq_true_iff, decide_eq_true_iff]
  omega
theorem sort_sorted (l : List α) : (l.mergeSort (leBy key)).Pairwise (fun a b => key a ≤ key b) :=
  (List.pairwise_mergeSort (leBy_trans key) (leBy_total key) l).imp fun h => of_decide_eq_true h
theorem sort_filter (l : List α) (v : Int) : (l.mergeSort (leBy key)).filter (fun x => decide (key x = v)) = l.filter fun x => decide (key x = v) := by
  have hp : (l.filter fun x => decide (key x = v)).Pairwise (fun a b => leBy key a b = true) := by
    refine List.pairwise_of_forall_mem_list fun a ha b hb => ?_
    have h1 := of_decide_eq_true (List.mem_filter.mp ha).2
    have h2 := of_decide_eq_true (List.mem_filter.mp hb).2
    exact decide_eq_true (by omega)
  have hs : (l.filter fun x => decide (key x = v)).Sublist (l.mergeSort (leBy key)) := List.sublist_mergeSort (leBy_trans key) (leBy_total key) hp List.filter_sublist
  have hs2 := hs.filter fun x => decide (key x = v)
  rw [List.filter_filter] at hs2
  have e : (fun a => decide (key a = v) && decide (key a = v)) = fun a => decide (key a = v) := by
    funext a
    rw [Bool.and_self]
  rw [e] at hs2
  exact (hs2.eq_of_length (((List.mergeSort_perm l (leBy key)).filter _).length_eq.symm)).symm
/-- THE sorted list -/
theorem sort_is {l m : List α} (hs : m.Pairwise (fun a b => key a ≤ key b)) (hf : ∀ v, m.filter (fun x => decide (key x = v)) = l.filter fun x => decide (key x = v)) : l.mergeSort (leBy key) = m :=
  sort_uniq key _ _ (sort_sorted key l) hs fun v => (sort_filter key l v).trans (hf v).symm
/-- two sorted lists put together: the first one's first -/
def mrg : List α → List α → List α
  | [], bs => bs
  | as, [] => as
  | a :: as, b :: bs => if key a ≤ key b then a :: mrg as (b :: bs) else b :: mrg (a :: as) bs
  termination_by as bs => as.length + bs.length
theorem mrg_nil (as : List α) : mrg key as [] = as := by
  cases as <;> simp [mrg]
theorem nil_mrg (bs : List α) : mrg key [] bs = bs := by
  simp [mrg]
theorem mrg_cons (a b : α) (as bs : List α) : mrg key (a :: as) (b :: bs) = if key a ≤ key b then a :: mrg key as (b :: bs) else b :: mrg key (a :: as) bs := by
  conv => lhs; unfold mrg
theorem mrg_perm : ∀ (as bs : List α), (mrg key as bs).Perm (as ++ bs)
  | [], bs => by rw [nil_mrg]; exact List.Perm.refl _
  | a :: as, [] => by rw [mrg_nil, List.append_nil]
  | a :: as, b :: bs => by
    rw [mrg_cons]
    by_cases h : key a ≤ key b
    · rw [if_pos h]
      exact (mrg_perm as (b :: bs)).cons a
    · rw [if_neg h]
      refine ((mrg_perm (a :: as) bs).cons b).trans ?_
      exact (List.perm_middle (a := b) (l₁ := a :: as) (l₂ := bs)).symm
  termination_by as bs => as.length + bs.length
theorem mrg_sorted : ∀ (as bs : List α), as.Pairwise (fun a b => key a ≤ key b) → bs.Pairwise (fun a b => key a ≤ key b) → (mrg key as bs).Pairwise (fun a b => key a ≤ key b)
  | [], bs, _, h => by rw [nil_mrg]; exact h
  | a :: as, [], h, _ => by rw [mrg_nil]; exact h
  | a :: as, b :: bs, h1, h2 => by
    rw [mrg_cons]
    have p1 := List.pairwise_cons.mp h1
    have p2 := List.pairwise_cons.mp h2
    by_cases h : key a ≤ key b
    · rw [if_pos h]
      refine List.pairwise_cons.mpr ⟨fun x hx => ?_, mrg_sorted as (b :: bs) p1.2 h2⟩
      rcases List.mem_append.mp ((mrg_perm key as (b :: bs)).mem_iff.mp hx) with hx | hx
      · exact p1.1 x hx
      · rcases List.mem_cons.mp hx with rfl | hx
        · exact h
        · have := p2.1 x hx; omega
    · rw [if_neg h]
      refine List.pairwise_cons.mpr ⟨fun x hx => ?_, mrg_sorted (a :: as) bs h1 p2.2⟩
      rcases List.mem_append.mp ((mrg_perm key (a :: as) bs).mem_iff.mp hx) with hx | hx
      · rcases List.mem_cons.mp hx with rfl | hx
        · omega
        · have := p1.1 x hx; omega
      · exact p2.1 x hx
  termination_by as bs => as.length + bs.length
theorem mrg_filter (v : Int) : ∀ (as bs : List α), as.Pairwise (fun a b => key a ≤ key b) → (mrg key as bs).filter (fun x => decide (key x = v)) = (as ++ bs).filter fun x => decide (key x = v)
  | [], bs, _ => by rw [nil_mrg]; rfl
  | a :: as, [], _ => by rw [mrg_nil, List.append_nil]
  | a :: as, b :: bs, h1 => by
    rw [mrg_cons]
    have p1 := List.pairwise_cons.mp h1
    by_cases h : key a ≤ key b
    · rw [if_pos h, List.filter_cons, mrg_filter v as (b :: bs) p1.2, List.cons_append, List.filter_cons]
    · rw [if_neg h, List.filter_cons, mrg_filter v (a :: as) bs h1]
      by_cases e : key b = v
      · rw [if_pos (decide_eq_true e), List.filter_append, List.filter_append]
        have hn : (a :: as).filter (fun x => decide (key x = v)) = [] := List.filter_eq_nil_iff.mpr fun x hx => by
          rw [decide_eq_true_iff]
          rcases List.mem_cons.mp hx with rfl | hx
          · omega
          · have := p1.1 x hx; omega
        rw [hn, List.nil_append, List.nil_append, List.filter_cons, if_pos (decide_eq_true e)]
      · have ne : ¬ decide (key b = v) = true := by rw [decide_eq_true_iff]; exact e
        rw [if_neg ne, List.filter_append, List.filter_append, List.filter_cons (x := b), if_neg ne]
  termination_by as bs => as.length + bs.length
theorem sort_mrg {as bs : List α} (h1 : as.Pairwise (fun a b => key a ≤ key b)) (h2 : bs.Pairwise (fun a b => key a ≤ key b)) : (as ++ bs).mergeSort (leBy key) = mrg key as bs :=
  sort_is key (mrg_sorted key as bs h1 h2) fun v => mrg_filter key v as bs h1
end

/-! ### packets -/
abbrev Pk := Int × List Int
def pkW : Pk → Int := fun p => p.1
/-- the pairs of a row -/
def pairsV : List Pk → List Pk
  | a :: b :: r => (a.1 + b.1, (a.2 ++ b.2).mergeSort leI) :: pairsV r
  | _ => []
/-- the packets of single signs, the first sign numbered from k -/
def signsV : Nat → List Int → List Pk
  | _, [] => []
  | k, w :: r => (w, [(k : Int)]) :: signsV (k + 1) r
def singlesV (ws : List Int) : List Pk := (signsV 0 ws).mergeSort (leBy pkW)
/-- the rows -/
def rowV (ws : List Int) : Nat → List Pk
  | 0 => singlesV ws
  | j + 1 => (singlesV ws ++ pairsV (rowV ws j)).mergeSort (leBy pkW)
theorem pairsV_len : ∀ r : List Pk, (pairsV r).length = r.length / 2
  | [] => by simp [pairsV]
  | [_] => by simp [pairsV]
  | a :: b :: r => by
    show (pairsV r).length + 1 = (r.length + 1 + 1) / 2
    rw [pairsV_len r]
    omega
theorem signsV_len : ∀ (k : Nat) (ws : List Int), (signsV k ws).length = ws.length
  | _, [] => rfl
  | k, w :: r => by
    show (signsV (k + 1) r).length + 1 = r.length + 1
    rw [signsV_len]
theorem singlesV_len (ws : List Int) : (singlesV ws).length = ws.length := by
  unfold singlesV
  rw [List.length_mergeSort, signsV_len]
theorem singlesV_sorted (ws : List Int) : (singlesV ws).Pairwise (fun a b => pkW a ≤ pkW b) := sort_sorted pkW _
theorem rowV_sorted (ws : List Int) : ∀ j, (rowV ws j).Pairwise (fun a b => pkW a ≤ pkW b)
  | 0 => singlesV_sorted ws
  | j + 1 => sort_sorted pkW _
theorem pairsV_sorted : ∀ r : List Pk, r.Pairwise (fun a b => pkW a ≤ pkW b) → (pairsV r).Pairwise (fun a b => pkW a ≤ pkW b) ∧ ∀ a b, r = a :: b :: r.drop 2 → ∀ p ∈ pairsV (r.drop 2), a.1 + b.1 ≤ p.1
  | [], _ => ⟨List.Pairwise.nil, fun a b e => by cases e⟩
  | [x], _ => ⟨List.Pairwise.nil, fun a b e => by cases e⟩
  | x :: y :: r, h => by
    have hx := List.pairwise_cons.mp h
    have hy := List.pairwise_cons.mp hx.2
    have ih := pairsV_sorted r hy.2
    have hge : ∀ p ∈ pairsV r, x.1 + y.1 ≤ p.1 := by
      have key : ∀ (s : List Pk), (∀ z ∈ s, x.1 ≤ z.1 ∧ y.1 ≤ z.1) → ∀ p ∈ pairsV s, x.1 + y.1 ≤ p.1 := by
        intro s
        induction s using pairsV.induct with
        | case1 a b r ih =>
          intro hz p hp
          rcases List.mem_cons.mp hp with rfl | hp
          · have h1 := hz a List.mem_cons_self
            have h2 := hz b (List.mem_cons_of_mem _ List.mem_cons_self)
            show x.1 + y.1 ≤ a.1 + b.1
            omega
          · exact ih (fun z hz2 => hz z (List.mem_cons_of_mem _ (List.mem_cons_of_mem _ hz2))) p hp
        | case2 s hs =>
          intro _ p hp
          unfold pairsV at hp
          split at hp
          · exact absurd rfl (hs _ _ _)
          · cases hp
      refine key r fun z hz => ⟨hx.1 z (List.mem_cons_of_mem _ hz), hy.1 z hz⟩
    refine ⟨List.pairwise_cons.mpr ⟨fun p hp => hge p hp, ih.1⟩, fun a b e p hp => ?_⟩
    cases e
    exact hge p hp
theorem rowV_mrg (ws : List Int) (j : Nat) : rowV ws (j + 1) = mrg pkW (singlesV ws) (pairsV (rowV ws j)) := sort_mrg pkW (singlesV_sorted ws) (pairsV_sorted _ (rowV_sorted ws j)).1
/-- the first ones of two sorted lists put together -/
theorem mrg_take {α : Type} (key : α → Int) : ∀ (as bs : List α), as.Pairwise (fun a b => key a ≤ key b) → bs.Pairwise (fun a b => key a ≤ key b) → ∀ m, m ≤ as.length + bs.length →
    ∃ s q, s + q = m ∧ s ≤ as.length ∧ q ≤ bs.length ∧ ((mrg key as bs).take m).Perm (as.take s ++ bs.take q) ∧ (∀ i j x y, j < q → as[i]? = some x → bs[j]? = some y → key x ≤ key y → i < s) ∧ (∀ i j x y, i < s → as[i]? = some x → bs[j]? = some y → key y < key x → j < q)
  | [], bs, _, _, m, hm => by
    refine ⟨0, m, by omega, Nat.zero_le _, by simpa using hm, ?_, fun i j x y _ h => ?_, fun i j x y h => by omega⟩
    · rw [nil_mrg]; simp
    · simp at h
  | a :: as, [], _, _, m, hm => by
    refine ⟨m, 0, by omega, by simpa using hm, Nat.zero_le _, ?_, fun i j x y h => by omega, fun i j x y _ _ h => ?_⟩
    · rw [mrg_nil]; simp
    · simp at h
  | a :: as, b :: bs, h1, h2, m, hm => by
    have p1 := List.pairwise_cons.mp h1
    have p2 := List.pairwise_cons.mp h2
    cases m with
    | zero => exact ⟨0, 0, rfl, Nat.zero_le _, Nat.zero_le _, by simp, fun i j x y h => by omega, fun i j x y h => by omega⟩
    | succ m =>
      rw [mrg_cons]
      by_cases hab : key a ≤ key b
      · rw [if_pos hab]
        obtain ⟨s, q, e1, e2, e3, e4, e5, e6⟩ := mrg_take key as (b :: bs) p1.2 h2 m (by simp at hm ⊢; omega)
        refine ⟨s + 1, q, by omega, by simp; omega, e3, ?_, fun i j x y hj hx hy hk => ?_, fun i j x y hi hx hy hk => ?_⟩
        · rw [List.take_succ_cons, List.take_succ_cons, List.cons_append]
          exact e4.cons a
        · cases i with
          | zero => omega
          | succ i => have := e5 i j x y hj (by simpa using hx) hy hk; omega
        · cases i with
          | zero =>
            have hx : a = x := by simpa using hx
            subst hx
            have : key b ≤ key y := by
              cases j with
              | zero => have : b = y := by simpa using hy
                        subst this; exact Int.le_refl _
              | succ j => exact p2.1 y (List.mem_of_getElem? (i := j) (by simpa using hy))
            omega
          | succ i => exact e6 i j x y (by omega) (by simpa using hx) hy hk
      · rw [if_neg hab]
        obtain ⟨s, q, e1, e2, e3, e4, e5, e6⟩ := mrg_take key (a :: as) bs h1 p2.2 m (by simp at hm ⊢; omega)
        refine ⟨s, q + 1, by omega, e2, by simp; omega, ?_, fun i j x y hj hx hy hk => ?_, fun i j x y hi hx hy hk => ?_⟩
        · rw [List.take_succ_cons, List.take_succ_cons]
          exact (e4.cons b).trans (List.perm_middle).symm
        · cases j with
          | zero =>
            have hy : b = y := by simpa using hy
            subst hy
            have : key a ≤ key x := by
              cases i with
              | zero => have : a = x := by simpa using hx
                        subst this; exact Int.le_refl _
              | succ i => exact p1.1 x (List.mem_of_getElem? (i := i) (by simpa using hx))
            omega
          | succ j => exact e5 i j x y (by omega) hx (by simpa using hy) hk
        · cases j with
          | zero => omega
          | succ j => have := e6 i j x y hi hx (by simpa using hy) hk; omega
  termination_by as bs => as.length + bs.length

/-! singles: slots 0:weights 1:sign 2:weight -/
def g_singles : SE := (sRetL (lSortK (lComp (wEnum (lVar 0)) (tgP 1 2) [1, 2] bYes (eTup [(eVar 2), (eTup [(eVar 1)])]))))
def F_singles : FN := runF 1 3 g_singles
theorem ex_singles : ∃ M : FN, M = F_singles := ⟨_, rfl⟩
def M_singles : FN := ex_singles.choose
theorem M_singles_eq : M_singles = F_singles := ex_singles.choose_spec
theorem ok_singles : ∀ as : List SL, as.length = 1 → M_singles as ≠ .stuck → F_singles as = M_singles as := fun _ _ _ => by rw [M_singles_eq]
def pkD (p : Pk) : PyData := .tuple [.int p.1, .tuple (p.2.map PyData.int)]
theorem leK_pk (a b : Pk) : leK (pkD a) (pkD b) = leBy pkW a b := rfl
theorem sort_pk (l : List Pk) : (l.map pkD).mergeSort leK = (l.mergeSort (leBy pkW)).map pkD :=
  (List.map_mergeSort (f := pkD) (r := leBy pkW) (s := leK) (fun a _ b _ => (leK_pk a b).symm)).symm
theorem heads_pk (l : List Pk) : (l.map pkD).all (fun d => (headI d).isSome) = true := by
  rw [List.all_eq_true]
  intro d hd
  obtain ⟨p, _, rfl⟩ := List.mem_map.mp hd
  rfl
theorem sortK_pk {l : LE} {ρ : Env} {ps : List Pk} (h : l ρ = .ok (ps.map pkD)) : lSortK l ρ = .ok ((ps.mergeSort (leBy pkW)).map pkD) := by
  unfold lSortK
  rw [h, Out.bind_ok, if_pos (heads_pk ps), sort_pk]
def mkPk : PyData → PyData
  | .tuple [.int k, .int w] => pkD (w, [k])
  | d => d
theorem enum_pk : ∀ (k : Nat) (ws : List Int), ((List.range' k ws.length).zipWith (fun k d => PyData.tuple [.int (k : Nat), d]) (ws.map PyData.int)).map mkPk = (signsV k ws).map pkD
  | _, [] => rfl
  | k, w :: r => by
    rw [List.length_cons, List.range'_succ, List.map_cons, List.zipWith_cons_cons, List.map_cons, enum_pk (k + 1) r]
    rfl
theorem M_singles_ok {ws : List Int} (hn : ws.length ≤ 1000) : M_singles [.bw (ws.map PyData.int)] = .ok (.fresh ((singlesV ws).map pkD)) := by
  rw [M_singles_eq]
  unfold F_singles
  refine runF_rt [some (.bw (ws.map PyData.int)), none, none] rfl rfl (ρ' := [some (.bw (ws.map PyData.int)), none, none]) ?_
  unfold g_singles
  have hc : lComp (wEnum (lVar 0)) (tgP 1 2) [1, 2] bYes (eTup [(eVar 2), (eTup [(eVar 1)])]) [some (.bw (ws.map PyData.int)), none, none] = .ok ((signsV 0 ws).map pkD) := by
    rw [lComp_map mkPk (ds := enumD (ws.map PyData.int)) rfl (by unfold enumD; rw [List.length_zipWith, List.length_range, List.length_map]; omega) (fun d hd => by
      unfold enumD at hd
      obtain ⟨i, hi⟩ := List.getElem?_of_mem hd
      rw [List.getElem?_zipWith] at hi
      by_cases hlt : i < ws.length
      · rw [List.getElem?_range (by rw [List.length_map]; exact hlt), List.getElem?_map, List.getElem?_eq_getElem hlt] at hi
        cases hi
        exact ⟨_, rfl, rfl, rfl⟩
      · rw [List.getElem?_eq_none (by rw [List.length_range, List.length_map]; omega)] at hi
        cases hi)]
    unfold enumD
    rw [List.length_map, List.range_eq_range', enum_pk]
  rw [sRetL_ap, sortK_pk hc]
  rfl

/-! pairs_of: slots 0:row 1:found 2:at 3:one 4:other -/
def g_pairs_of : SE := (sSeq (sSetL 1 (lLst []))
  (sSeq (sFor (wRange3 (eC (.int 0)) (eOp oSub (eLenV (rVar 0)) (eC (.int 1))) (eC (.int 2))) (tgN 2) [2, 3, 4] (sSeq (sPar 3 4 (eIx (lVar 0) (eVar 2)) (eIx (lVar 0) (eOp oAdd (eVar 2) (eC (.int 1)))))
  (sApp 1 (eTup [(eOp oAdd (eIxT (eVar 3) (eC (.int 0))) (eIxT (eVar 4) (eC (.int 0)))), (eTupL (lSortT (eOp oCatT (eIxT (eVar 3) (eC (.int 1))) (eIxT (eVar 4) (eC (.int 1))))))]))))
  (sRetO 1)))
def F_pairs_of : FN := runF 1 5 g_pairs_of
theorem ex_pairs_of : ∃ M : FN, M = F_pairs_of := ⟨_, rfl⟩
def M_pairs_of : FN := ex_pairs_of.choose
theorem M_pairs_of_eq : M_pairs_of = F_pairs_of := ex_pairs_of.choose_spec
theorem ok_pairs_of : ∀ as : List SL, as.length = 1 → M_pairs_of as ≠ .stuck → F_pairs_of as = M_pairs_of as := fun _ _ _ => by rw [M_pairs_of_eq]
/-- each packet has signs, not too many -/
def Few (n : Nat) (r : List Pk) : Prop := ∀ p ∈ r, p.2 ≠ [] ∧ p.2.length ≤ n
theorem pairs_few {n : Nat} {r : List Pk} (h : Few n r) : Few (2 * n) (pairsV r) := by
  induction r using pairsV.induct with
  | case1 a b r ih =>
    intro p hp
    have ha := h a List.mem_cons_self
    have hb := h b (List.mem_cons_of_mem _ List.mem_cons_self)
    rcases List.mem_cons.mp hp with rfl | hp
    · constructor
      · intro z
        have := congrArg List.length z
        rw [List.length_mergeSort, List.length_append] at this
        rw [List.length_nil] at this
        exact ha.1 (List.length_eq_zero_iff.mp (by omega))
      · show ((a.2 ++ b.2).mergeSort leI).length ≤ 2 * n
        rw [List.length_mergeSort, List.length_append]
        omega
    · exact ih (fun q hq => h q (List.mem_cons_of_mem _ (List.mem_cons_of_mem _ hq))) p hp
  | case2 s hs =>
    intro p hp
    unfold pairsV at hp
    split at hp
    · exact absurd rfl (hs _ _ _)
    · cases hp
theorem signs_few : ∀ (k : Nat) (ws : List Int), Few 1 (signsV k ws)
  | _, [] => fun p hp => nomatch hp
  | k, w :: r => fun p hp => by
    rcases List.mem_cons.mp hp with rfl | hp
    · exact ⟨nofun, Nat.le_refl _⟩
    · exact signs_few (k + 1) r p hp
theorem singles_few (ws : List Int) : Few 1 (singlesV ws) := fun p hp => signs_few 0 ws p ((List.mergeSort_perm _ _).mem_iff.mp hp)
theorem row_few (ws : List Int) : ∀ j, Few (2 ^ j) (rowV ws j)
  | 0 => singles_few ws
  | j + 1 => fun p hp => by
    have hp1 : 1 ≤ 2 ^ (j + 1) := Nat.one_le_two_pow
    rcases List.mem_append.mp ((List.mergeSort_perm _ _).mem_iff.mp hp) with hp | hp
    · have := singles_few ws p hp
      exact ⟨this.1, by omega⟩
    · have := pairs_few (row_few ws j) p hp
      rw [Nat.pow_succ, Nat.mul_comm]
      exact this
theorem forGo_stepsG {tg : TGT} {ws : List Nat} {body : SE} (g : Nat → PyData) : ∀ (n a : Nat) (st : Nat → Env), (∀ j, j < n → turn tg ws body (g (a + j)) (st j) = .nx (st (j + 1))) → forGo tg ws body ((List.range' a n).map g) (st 0) = .nx (st n)
  | 0, _, _, _ => rfl
  | n + 1, a, st, h => by
    have h0 := h 0 (by omega)
    rw [Nat.add_zero] at h0
    rw [List.range'_succ, List.map_cons, forGo_cons, h0]
    exact forGo_stepsG g n (a + 1) (fun j => st (j + 1)) (fun j hj => by
      have := h (j + 1) (by omega)
      rw [show a + (j + 1) = a + 1 + j by omega] at this
      exact this)
theorem pairs_at : ∀ (r : List Pk) (q : Nat) (a b : Pk), r[2 * q]? = some a → r[2 * q + 1]? = some b → (pairsV r)[q]? = some (a.1 + b.1, (a.2 ++ b.2).mergeSort leI)
  | [], q, a, b, h, _ => by simp at h
  | [x], q, a, b, _, h => by simp at h
  | x :: y :: r, 0, a, b, h1, h2 => by
    have : x = a := by simpa using h1
    subst this
    have : y = b := by simpa using h2
    subst this
    rfl
  | x :: y :: r, q + 1, a, b, h1, h2 => by
    rw [show 2 * (q + 1) = 2 * q + 1 + 1 by omega] at h1 h2
    show (pairsV r)[q]? = _
    exact pairs_at r q a b (by simpa using h1) (by simpa using h2)
theorem asIntsT_DI : ∀ ns : List Int, asIntsT (ns.map PyData.int) = some ns
  | [] => rfl
  | n :: r => by
    have ih := asIntsT_DI r
    unfold asIntsT at ih ⊢
    rw [List.map_cons, List.mapM_cons, ih]
    rfl
abbrev bodyPs : SE := (sSeq (sPar 3 4 (eIx (lVar 0) (eVar 2)) (eIx (lVar 0) (eOp oAdd (eVar 2) (eC (.int 1)))))
  (sApp 1 (eTup [(eOp oAdd (eIxT (eVar 3) (eC (.int 0))) (eIxT (eVar 4) (eC (.int 0)))), (eTupL (lSortT (eOp oCatT (eIxT (eVar 3) (eC (.int 1))) (eIxT (eVar 4) (eC (.int 1))))))])))
abbrev envPs (r : List Pk) (j : Nat) : Env := [some (.bw (r.map pkD)), some (.ow (((pairsV r).take j).map pkD)), none, none, none]
theorem turnPs {n : Nat} {r : List Pk} (hf : Few n r) (hn : n ≤ 100000) (hr : r.length ≤ 1000) {j : Nat} (hj : 2 * j + 1 < r.length) : turn (tgN 2) [2, 3, 4] bodyPs (.int (0 + ((0 + j : Nat) : Int) * 2)) (envPs r j) = .nx (envPs r (j + 1)) := by
  have ha := List.getElem?_eq_getElem (show 2 * j < r.length by omega)
  have hb := List.getElem?_eq_getElem hj
  have fa := hf _ (List.mem_of_getElem? ha)
  have fb := hf _ (List.mem_of_getElem? hb)
  have hp := pairs_at r j _ _ ha hb
  have ht : (pairsV r).take (j + 1) = (pairsV r).take j ++ [(r[2 * j].1 + r[2 * j + 1].1, (r[2 * j].2 ++ r[2 * j + 1].2).mergeSort leI)] := by
    rw [List.take_add_one, hp]
    rfl
  unfold envPs
  rw [ht, List.map_append]
  have ia : atI (r.map pkD) ((2 * j : Nat) : Int) = some (pkD r[2 * j]) := atI_nat (by rw [List.getElem?_map, ha]; rfl)
  have ib : atI (r.map pkD) ((2 * j + 1 : Nat) : Int) = some (pkD r[2 * j + 1]) := atI_nat (by rw [List.getElem?_map, hb]; rfl)
  have hlen : (((pairsV r).take j).map pkD).length < 1000000 := by
    rw [List.length_map, List.length_take, pairsV_len]
    omega
  generalize ((pairsV r).take j).map pkD = acc at hlen ⊢
  rw [show (0 : Int) + ((0 + j : Nat) : Int) * 2 = ((2 * j : Nat) : Int) by omega]
  generalize r[2 * j] = a at ia fa ⊢
  generalize r[2 * j + 1] = b at ib fb ⊢
  have hi : ((2 * j + 1 : Nat) : Int) = ((2 * j : Nat) : Int) + 1 := by omega
  rw [hi] at ib
  generalize ((2 * j : Nat) : Int) = i at ia ib ⊢
  generalize r.map pkD = R at ia ib ⊢
  have x1 : eIx (lVar 0) (eVar 2) [some (.bw R), some (.ow acc), some (.fz (.int i)), none, none] = .ok (pkD a) := eIx_ok rfl rfl ia
  have x2 : eIx (lVar 0) (eOp oAdd (eVar 2) (eC (.int 1))) [some (.bw R), some (.ow acc), some (.fz (.int i)), none, none] = .ok (pkD b) := eIx_ok rfl rfl ib
  have y1 : eIxT (eVar 3) (eC (.int 0)) [some (.bw R), some (.ow acc), some (.fz (.int i)), some (.fz (pkD a)), some (.fz (pkD b))] = .ok (.int a.1) := eIxT_ok (ds := [.int a.1, .tuple (a.2.map PyData.int)]) rfl rfl rfl
  have y2 : eIxT (eVar 4) (eC (.int 0)) [some (.bw R), some (.ow acc), some (.fz (.int i)), some (.fz (pkD a)), some (.fz (pkD b))] = .ok (.int b.1) := eIxT_ok (ds := [.int b.1, .tuple (b.2.map PyData.int)]) rfl rfl rfl
  have y3 : eIxT (eVar 3) (eC (.int 1)) [some (.bw R), some (.ow acc), some (.fz (.int i)), some (.fz (pkD a)), some (.fz (pkD b))] = .ok (.tuple (a.2.map PyData.int)) := eIxT_ok (ds := [.int a.1, .tuple (a.2.map PyData.int)]) rfl rfl rfl
  have y4 : eIxT (eVar 4) (eC (.int 1)) [some (.bw R), some (.ow acc), some (.fz (.int i)), some (.fz (pkD a)), some (.fz (pkD b))] = .ok (.tuple (b.2.map PyData.int)) := eIxT_ok (ds := [.int b.1, .tuple (b.2.map PyData.int)]) rfl rfl rfl
  have hcat : oCatT (.tuple (a.2.map PyData.int)) (.tuple (b.2.map PyData.int)) = .ok (.tuple ((a.2 ++ b.2).map PyData.int)) := by
    rw [List.map_append]
    refine if_pos ⟨fun z => fa.1 (List.map_eq_nil_iff.mp z), ?_⟩
    rw [List.length_map, List.length_map]
    omega
  have hs : lSortT (eOp oCatT (eIxT (eVar 3) (eC (.int 1))) (eIxT (eVar 4) (eC (.int 1)))) [some (.bw R), some (.ow acc), some (.fz (.int i)), some (.fz (pkD a)), some (.fz (pkD b))] = .ok (((a.2 ++ b.2).mergeSort leI).map PyData.int) := by
    unfold lSortT
    rw [eOp_ap, y3, Out.bind_ok, y4, Out.bind_ok, hcat, Out.bind_ok]
    dsimp only
    rw [asIntsT_DI]
  have ht2 : eTupL (lSortT (eOp oCatT (eIxT (eVar 3) (eC (.int 1))) (eIxT (eVar 4) (eC (.int 1))))) [some (.bw R), some (.ow acc), some (.fz (.int i)), some (.fz (pkD a)), some (.fz (pkD b))] = .ok (.tuple (((a.2 ++ b.2).mergeSort leI).map PyData.int)) := by
    unfold eTupL
    rw [hs, Out.bind_ok]
  refine (turn_nx (ρ1 := [some (.bw R), some (.ow acc), some (.fz (.int i)), none, none]) (ρ2 := [some (.bw R), some (.ow (acc ++ [pkD (a.1 + b.1, (a.2 ++ b.2).mergeSort leI)])), some (.fz (.int i)), some (.fz (pkD a)), some (.fz (pkD b))]) rfl ?_).trans rfl
  unfold bodyPs
  rw [seq_nx (ρ' := [some (.bw R), some (.ow acc), some (.fz (.int i)), some (.fz (pkD a)), some (.fz (pkD b))]) (by
    unfold sPar
    rw [x1, wOut_ok, x2, wOut_ok]
    rfl)]
  have happ : ∀ f : VE, sApp 1 f [some (.bw R), some (.ow acc), some (.fz (.int i)), some (.fz (pkD a)), some (.fz (pkD b))] = wOut (f [some (.bw R), some (.ow acc), some (.fz (.int i)), some (.fz (pkD a)), some (.fz (pkD b))]) [some (.bw R), some (.ow acc), some (.fz (.int i)), some (.fz (pkD a)), some (.fz (pkD b))] fun d => if acc.length < 1000000 then .nx [some (.bw R), some (.ow (acc ++ [d])), some (.fz (.int i)), some (.fz (pkD a)), some (.fz (pkD b))] else .stuck := fun _ => rfl
  rw [happ, eTup_ap, aAll_cons, eOp_ap, y1, Out.bind_ok, y2, Out.bind_ok, oAdd_i, Out.bind_ok, aAll_cons, ht2, Out.bind_ok, aAll_nil, Out.bind_ok, Out.bind_ok, Out.bind_ok, wOut_ok, if_pos hlen]
  rfl
theorem M_pairs_of_ok {n : Nat} {r : List Pk} (hf : Few n r) (hn : n ≤ 100000) (hr : r.length ≤ 1000) : M_pairs_of [.bw (r.map pkD)] = .ok (.fresh ((pairsV r).map pkD)) := by
  rw [M_pairs_of_eq]
  unfold F_pairs_of
  refine runF_rt [some (.bw (r.map pkD)), none, none, none, none] rfl rfl (ρ' := envPs r (r.length / 2)) ?_
  have hs := forGo_stepsG (tg := tgN 2) (ws := [2, 3, 4]) (body := bodyPs) (fun k => .int (0 + ((k : Nat) : Int) * 2)) (r.length / 2) 0 (fun j => envPs r j) (fun j hj => turnPs hf hn hr (by omega))
  have hw : wRange3 (eC (.int 0)) (eOp oSub (eLenV (rVar 0)) (eC (.int 1))) (eC (.int 2)) (envPs r 0) = .ok ((List.range' 0 (r.length / 2)).map fun k => PyData.int (0 + ((k : Nat) : Int) * 2)) := by
    unfold wRange3
    simp only [eC_ap, Out.bind_ok, eOp_ap, eLenV_ap, rVar_0b, lenOf_l, List.length_map, oSub_i]
    rw [if_pos ⟨trivial, by omega, by omega, by omega, by omega⟩]
    unfold rngD
    rw [List.range_eq_range', show (((r.length : Int) - 1 - 0 + 1) / 2).toNat = r.length / 2 by omega]
  have hg : g_pairs_of = sSeq (sSetL 1 (lLst [])) (sSeq (sFor (wRange3 (eC (.int 0)) (eOp oSub (eLenV (rVar 0)) (eC (.int 1))) (eC (.int 2))) (tgN 2) [2, 3, 4] bodyPs) (sRetO 1)) := rfl
  have h0 : sSetL 1 (lLst []) [some (.bw (r.map pkD)), none, none, none, none] = .nx (envPs r 0) := rfl
  have ht : (pairsV r).take (r.length / 2) = pairsV r := List.take_of_length_le (by rw [pairsV_len]; omega)
  rw [hg, seq_nx h0, seq_nx ((for_of hw).trans hs)]
  unfold envPs
  rw [ht]
  rfl

/-! ### the table's values -/
def optD : Option Int → PyData
  | none => .none
  | some i => .int i
@[simp] theorem isN_optD (o : Option Int) : isN (optD o) = o.isNone := by cases o <;> rfl
def psum (V : Nat → Nat → Option Int) (f m l : Nat) : Option Int := match V f m, V m l with
  | some a, some b => some (a + b)
  | _, _ => none
def stepB (V : Nat → Nat → Option Int) (f l : Nat) (best : Option (Int × Nat)) (m : Nat) : Option (Int × Nat) := match psum V f m l with
  | none => best
  | some h => match best with
    | none => some (h, m)
    | some b => if h < b.1 then some (h, m) else some b
/-- the places between f and l -/
def mids (f l : Nat) : List Nat := List.range' (f + 1) (l - (f + 1))
theorem mem_mids {f l m : Nat} : m ∈ mids f l ↔ f < m ∧ m < l := by
  unfold mids
  rw [List.mem_range'_1]
  omega
def leastB (V : Nat → Nat → Option Int) (f l : Nat) : Option (Int × Nat) := (mids f l).foldl (stepB V f l) none
def bestD : Option (Int × Nat) → PyData
  | none => .none
  | some (a, m) => .tuple [.int a, .int (m : Nat)]
def runW (ws : List Int) (f l : Nat) : Int := ((ws.drop f).take (l - f)).sum
/-- the value of a run at a depth -/
def tval (ws : List Int) : Nat → Nat → Nat → Option Int
  | 0, f, l => if l - f = 1 then some 0 else none
  | d + 1, f, l => if l - f = 1 then some 0 else if 2 ^ (d + 1) < l - f then none else match leastB (tval ws d) f l with
    | some b => some (runW ws f l + b.1)
    | none => none
/-- what holds of the best so far: tried are the places ms, in their order -/
structure BestOf (V : Nat → Nat → Option Int) (f l : Nat) (ms : List Nat) (o : Option (Int × Nat)) : Prop where
  no : o = none → ∀ m ∈ ms, psum V f m l = none
  yes : ∀ a m, o = some (a, m) → m ∈ ms ∧ psum V f m l = some a ∧ ∀ m' ∈ ms, ∀ b, psum V f m' l = some b → a ≤ b ∧ (b = a → m ≤ m')
theorem best_fold (V : Nat → Nat → Option Int) (f l : Nat) : ∀ (rest ms : List Nat) (o : Option (Int × Nat)), (ms ++ rest).Pairwise (· < ·) → BestOf V f l ms o → BestOf V f l (ms ++ rest) (rest.foldl (stepB V f l) o) := by
  intro rest
  induction rest with
  | nil => intro ms o _ h; rw [List.append_nil]; exact h
  | cons x r ih =>
    intro ms o hs h
    have e : ms ++ x :: r = (ms ++ [x]) ++ r := by rw [List.append_assoc]; rfl
    rw [e] at hs ⊢
    refine ih (ms ++ [x]) _ hs ?_
    have hlt : ∀ m ∈ ms, m < x := fun m hm => by
      have h1 := (List.pairwise_append.mp hs).1
      exact (List.pairwise_append.mp h1).2.2 m hm x List.mem_cons_self
    unfold stepB
    cases hp : psum V f x l with
    | none =>
      refine ⟨fun ho m hm => ?_, fun a m ho => ?_⟩
      · rcases List.mem_append.mp hm with hm | hm
        · exact h.no ho m hm
        · rw [List.mem_singleton.mp hm]; exact hp
      · obtain ⟨h1, h2, h3⟩ := h.yes a m ho
        refine ⟨List.mem_append_left _ h1, h2, fun m' hm b hb => ?_⟩
        rcases List.mem_append.mp hm with hm | hm
        · exact h3 m' hm b hb
        · rw [List.mem_singleton.mp hm, hp] at hb; cases hb
    | some v =>
      cases o with
      | none =>
        refine ⟨fun ho => (nomatch ho), fun a m ho => ?_⟩
        cases ho
        refine ⟨List.mem_append_right _ List.mem_cons_self, hp, fun m' hm b hb => ?_⟩
        rcases List.mem_append.mp hm with hm | hm
        · rw [h.no rfl m' hm] at hb; cases hb
        · have := List.mem_singleton.mp hm
          subst this
          rw [hp] at hb
          cases hb
          exact ⟨Int.le_refl _, fun _ => Nat.le_refl _⟩
      | some q =>
        obtain ⟨a0, m0⟩ := q
        obtain ⟨h1, h2, h3⟩ := h.yes a0 m0 rfl
        dsimp only
        by_cases hlt2 : v < a0
        · rw [if_pos hlt2]
          refine ⟨fun ho => (nomatch ho), fun a m ho => ?_⟩
          cases ho
          refine ⟨List.mem_append_right _ List.mem_cons_self, hp, fun m' hm b hb => ?_⟩
          rcases List.mem_append.mp hm with hm | hm
          · have := (h3 m' hm b hb).1
            exact ⟨by omega, fun e => by omega⟩
          · have := List.mem_singleton.mp hm
            subst this
            rw [hp] at hb
            cases hb
            exact ⟨Int.le_refl _, fun _ => Nat.le_refl _⟩
        · rw [if_neg hlt2]
          refine ⟨fun ho => (nomatch ho), fun a m ho => ?_⟩
          cases ho
          refine ⟨List.mem_append_left _ h1, h2, fun m' hm b hb => ?_⟩
          rcases List.mem_append.mp hm with hm | hm
          · exact h3 m' hm b hb
          · have := List.mem_singleton.mp hm
            subst this
            rw [hp] at hb
            cases hb
            have := hlt m0 h1
            exact ⟨by omega, fun _ => by omega⟩
theorem leastB_best (V : Nat → Nat → Option Int) (f l : Nat) : BestOf V f l (mids f l) (leastB V f l) := by
  have := best_fold V f l (mids f l) [] none (by
    rw [List.nil_append]
    unfold mids
    exact List.pairwise_lt_range' ..) ⟨fun _ m hm => (nomatch hm), fun a m ho => (nomatch ho)⟩
  rw [List.nil_append] at this
  exact this
theorem leastB_isSome {V : Nat → Nat → Option Int} {f l m : Nat} (hm : f < m ∧ m < l) (h : psum V f m l ≠ none) : ∃ a m', leastB V f l = some (a, m') ∧ f < m' ∧ m' < l := by
  cases e : leastB V f l with
  | none => exact absurd ((leastB_best V f l).no e m (mem_mids.mpr hm)) h
  | some q =>
    obtain ⟨a, m'⟩ := q
    have := mem_mids.mp ((leastB_best V f l).yes a m' e).1
    exact ⟨a, m', rfl, this⟩
theorem tval_some (ws : List Int) : ∀ (d f l : Nat), f < l → (tval ws d f l ≠ none ↔ l - f ≤ 2 ^ d)
  | 0, f, l, h => by
    unfold tval
    by_cases e : l - f = 1
    · rw [if_pos e]
      exact ⟨fun _ => by omega, fun _ => nofun⟩
    · rw [if_neg e]
      exact ⟨fun z => absurd rfl z, fun z => by omega⟩
  | d + 1, f, l, h => by
    unfold tval
    have hp : 1 ≤ 2 ^ (d + 1) := Nat.one_le_two_pow
    have hp2 : 2 ^ (d + 1) = 2 * 2 ^ d := by rw [Nat.pow_succ, Nat.mul_comm]
    have hpd : 1 ≤ 2 ^ d := Nat.one_le_two_pow
    by_cases e : l - f = 1
    · rw [if_pos e]
      exact ⟨fun _ => by omega, fun _ => nofun⟩
    · rw [if_neg e]
      by_cases h2 : 2 ^ (d + 1) < l - f
      · rw [if_pos h2]
        exact ⟨fun z => absurd rfl z, fun z => by omega⟩
      · rw [if_neg h2]
        have hm : f < f + (l - f) / 2 ∧ f + (l - f) / 2 < l := by omega
        have s1 := (tval_some ws d f (f + (l - f) / 2) hm.1).mpr (by omega)
        have s2 := (tval_some ws d (f + (l - f) / 2) l hm.2).mpr (by omega)
        obtain ⟨a, m', e1, _⟩ := leastB_isSome (V := tval ws d) hm (by
          unfold psum
          cases q1 : tval ws d f (f + (l - f) / 2) with
          | none => exact absurd q1 s1
          | some x =>
            cases q2 : tval ws d (f + (l - f) / 2) l with
            | none => exact absurd q2 s2
            | some y => nofun)
        rw [e1]
        exact ⟨fun _ => by omega, fun _ => nofun⟩
theorem leastB_some {ws : List Int} {d f l : Nat} (h : 2 ≤ l - f) (h2 : l - f ≤ 2 ^ (d + 1)) : ∃ a m, leastB (tval ws d) f l = some (a, m) ∧ f < m ∧ m < l ∧ tval ws (d + 1) f l = some (runW ws f l + a) := by
  have hs := (tval_some ws (d + 1) f l (by omega)).mpr h2
  unfold tval at hs
  rw [if_neg (by omega), if_neg (by omega)] at hs
  cases e : leastB (tval ws d) f l with
  | none => rw [e] at hs; exact absurd rfl hs
  | some q =>
    obtain ⟨a, m⟩ := q
    have := mem_mids.mp ((leastB_best (tval ws d) f l).yes a m e).1
    refine ⟨a, m, rfl, this.1, this.2, ?_⟩
    unfold tval
    rw [if_neg (by omega), if_neg (by omega), e]
/-! ### ranges of naturals -/
theorem rng_nat (a n : Nat) : rngD (a : Int) n 1 = (List.range' a n).map fun k => PyData.int ((k : Nat) : Int) := by
  unfold rngD
  rw [List.range'_eq_map_range, List.map_map]
  congr 1
  funext k
  show PyData.int ((a : Int) + (k : Int) * 1) = PyData.int ((a + k : Nat) : Int)
  congr 1
  omega
theorem rng_mids (f l : Nat) : rngD ((f : Int) + 1) (((l : Int) - ((f : Int) + 1)).toNat) 1 = (mids f l).map fun k => PyData.int ((k : Nat) : Int) := by
  have := rng_nat (f + 1) (l - (f + 1))
  rw [show ((f + 1 : Nat) : Int) = (f : Int) + 1 by omega] at this
  rw [show ((l : Int) - ((f : Int) + 1)).toNat = l - (f + 1) by omega, this]
  rfl
theorem forGo_foldN {α : Type} {tg : TGT} {ws : List Nat} {body : SE} (mk : α → Env) (step : α → Nat → α) (ms : List Nat) (hs : ∀ a, ∀ m ∈ ms, turn tg ws body (.int ((m : Nat) : Int)) (mk a) = .nx (mk (step a m))) (a : α) : forGo tg ws body (ms.map fun k => PyData.int ((k : Nat) : Int)) (mk a) = .nx (mk (ms.foldl step a)) := by
  induction ms generalizing a with
  | nil => rfl
  | cons m r ih =>
    rw [List.map_cons, forGo_cons, hs a m List.mem_cons_self]
    exact ih (fun a k hk => hs a k (List.mem_cons_of_mem _ hk)) (step a m)
/-! ### the table as a dict -/
abbrev Trip := Nat × Nat × Nat
/-- first, last, depth -/
def tkey (t : Trip) : List Int := [(t.1 : Int), (t.2.1 : Int), (t.2.2 : Int)]
def tent (ws : List Int) (t : Trip) : List Int × PyData := (tkey t, optD (tval ws t.2.2 t.1 t.2.1))
theorem tkey_inj {t u : Trip} (h : tkey t = tkey u) : t = u := by
  obtain ⟨a, b, c⟩ := t
  obtain ⟨x, y, z⟩ := u
  unfold tkey at h
  simp only [List.cons.injEq, Int.natCast_inj, and_true] at h
  obtain ⟨h1, h2, h3⟩ := h
  subst h1 h2 h3
  rfl
theorem dGet_tent (ws : List Int) (t : Trip) : ∀ ks : List Trip, dGet (ks.map (tent ws)) (tkey t) = if t ∈ ks then some (optD (tval ws t.2.2 t.1 t.2.1)) else none
  | [] => rfl
  | u :: r => by
    have ih := dGet_tent ws t r
    unfold dGet at ih ⊢
    rw [List.map_cons, List.find?_cons]
    by_cases h : tkey u = tkey t
    · have := tkey_inj h
      subst this
      rw [show decide ((tent ws u).1 = tkey u) = true from decide_eq_true rfl]
      rw [if_pos List.mem_cons_self]
      rfl
    · rw [show decide ((tent ws u).1 = tkey t) = false from decide_eq_false h]
      rw [show (if t ∈ u :: r then some (optD (tval ws t.2.2 t.1 t.2.1)) else none) = if t ∈ r then some (optD (tval ws t.2.2 t.1 t.2.1)) else none by
        by_cases hr : t ∈ r
        · rw [if_pos hr, if_pos (List.mem_cons_of_mem _ hr)]
        · rw [if_neg hr, if_neg (fun z => by
            rcases List.mem_cons.mp z with z | z
            · exact h (by rw [z])
            · exact hr z)]]
      exact ih
theorem dPut_new {kvs : List (List Int × PyData)} {k : List Int} {d : PyData} (h : dGet kvs k = none) : dPut kvs k d = kvs ++ [(k, d)] := by
  unfold dPut
  have : (kvs.any fun p => decide (p.1 = k)) = false := by
    unfold dGet at h
    rw [Option.map_eq_none_iff, List.find?_eq_none] at h
    rw [List.any_eq_false]
    exact h
  rw [this]
  rfl

/-! parts_sum: slots 0:table 1:first 2:middle 3:last 4:depth 5:one 6:other -/
def g_parts_sum : SE := (sSeq (sSet 5 (eDGet 0 [(eVar 1), (eVar 2), (eVar 4)]))
  (sSeq (sSet 6 (eDGet 0 [(eVar 2), (eVar 3), (eVar 4)]))
  (sSeq (sIf (bOr (bOf (eIsN (rVar 5))) (bOf (eIsN (rVar 6)))) (sRet (eC .none)) sNext)
  (sRet (eOp oAdd (eVar 5) (eVar 6))))))
def F_parts_sum : FN := runF 5 7 g_parts_sum
theorem ex_parts_sum : ∃ M : FN, M = F_parts_sum := ⟨_, rfl⟩
def M_parts_sum : FN := ex_parts_sum.choose
theorem M_parts_sum_eq : M_parts_sum = F_parts_sum := ex_parts_sum.choose_spec
theorem ok_parts_sum : ∀ as : List SL, as.length = 5 → M_parts_sum as ≠ .stuck → F_parts_sum as = M_parts_sum as := fun _ _ _ => by rw [M_parts_sum_eq]
def addO : Option Int → Option Int → Option Int
  | some a, some b => some (a + b)
  | _, _ => none
theorem psum_eq {V : Nat → Nat → Option Int} {f m l : Nat} : psum V f m l = addO (V f m) (V m l) := by
  unfold psum addO
  cases V f m <;> cases V m l <;> rfl
theorem M_parts_sum_ok {kvs : List (List Int × PyData)} {f m l d : Int} {a b : Option Int} (h1 : dGet kvs [f, m, d] = some (optD a)) (h2 : dGet kvs [m, l, d] = some (optD b)) : M_parts_sum [.dbw kvs, .fz (.int f), .fz (.int m), .fz (.int l), .fz (.int d)] = .ok (.val (optD (addO a b))) := by
  cases a <;> cases b <;> simp [M_parts_sum_eq, F_parts_sum, runF, g_parts_sum, h1, h2, optD, addO]

/-! least_parts: slots 0:table 1:first 2:last 3:depth 4:best 5:middle 6:here -/
def g_least_parts : SE := (sSeq (sSet 4 (eC .none))
  (sSeq (sFor (wRange2 (eOp oAdd (eVar 1) (eC (.int 1))) (eVar 2)) (tgN 5) [5, 6] (sSeq (sSet 6 (eX (xCall M_parts_sum (rD 0 (rV (eVar 1) (rV (eVar 5) (rV (eVar 2) (rV (eVar 3) rNil))))))))
  (sIf (bAnd (bOf (eNotN (rVar 6))) (bOr (bOf (eIsN (rVar 4))) (bOf (eOp oLt (eVar 6) (eIxT (eVar 4) (eC (.int 0))))))) (sSet 4 (eTup [(eVar 6), (eVar 5)])) sNext)))
  (sRet (eVar 4))))
def F_least_parts : FN := runF 4 7 g_least_parts
theorem ex_least_parts : ∃ M : FN, M = F_least_parts := ⟨_, rfl⟩
def M_least_parts : FN := ex_least_parts.choose
theorem M_least_parts_eq : M_least_parts = F_least_parts := ex_least_parts.choose_spec
theorem ok_least_parts : ∀ as : List SL, as.length = 4 → M_least_parts as ≠ .stuck → F_least_parts as = M_least_parts as := fun _ _ _ => by rw [M_least_parts_eq]
def bodyLP : SE := (sSeq (sSet 6 (eX (xCall M_parts_sum (rD 0 (rV (eVar 1) (rV (eVar 5) (rV (eVar 2) (rV (eVar 3) rNil))))))))
  (sIf (bAnd (bOf (eNotN (rVar 6))) (bOr (bOf (eIsN (rVar 4))) (bOf (eOp oLt (eVar 6) (eIxT (eVar 4) (eC (.int 0))))))) (sSet 4 (eTup [(eVar 6), (eVar 5)])) sNext))
theorem isN_bestD (b : Option (Int × Nat)) : isN (bestD b) = b.isNone := by
  cases b <;> rfl
theorem turnLP {kvs : List (List Int × PyData)} {f l m : Nat} {d : Int} (V : Nat → Nat → Option Int) (b : Option (Int × Nat)) (h1 : dGet kvs [(f : Int), (m : Int), d] = some (optD (V f m))) (h2 : dGet kvs [(m : Int), (l : Int), d] = some (optD (V m l))) :
    turn (tgN 5) [5, 6] bodyLP (.int (m : Int)) [some (.dbw kvs), some (.fz (.int (f : Int))), some (.fz (.int (l : Int))), some (.fz (.int d)), some (.fz (bestD b)), none, none] = .nx [some (.dbw kvs), some (.fz (.int (f : Int))), some (.fz (.int (l : Int))), some (.fz (.int d)), some (.fz (bestD (stepB V f l b m))), none, none] := by
  have hp := M_parts_sum_ok h1 h2
  rw [← psum_eq] at hp
  cases e : psum V f m l with
  | none =>
    have : stepB V f l b m = b := by unfold stepB; rw [e]
    rw [this]
    rw [e] at hp
    simp [turn, bodyLP, hp, optD]
  | some h =>
    rw [e] at hp
    cases b with
    | none =>
      have : stepB V f l none m = some (h, m) := by unfold stepB; rw [e]
      rw [this]
      simp [turn, bodyLP, hp, optD, isN_bestD, bestD]
    | some q =>
      have hx : ∀ z0 z1 z2 z3 z5 z6 : Option SL, eIxT (eVar 4) (eC (.int 0)) [z0, z1, z2, z3, some (.fz (bestD (some q))), z5, z6] = .ok (.int q.1) := fun _ _ _ _ _ _ => eIxT_ok (ds := [.int q.1, .int (q.2 : Int)]) rfl rfl rfl
      by_cases hlt : h < q.1
      · have : stepB V f l (some q) m = some (h, m) := by unfold stepB; rw [e]; exact if_pos hlt
        rw [this]
        simp [turn, bodyLP, hp, optD, isN_bestD, hx, hlt]
        rfl
      · have : stepB V f l (some q) m = some q := by unfold stepB; rw [e]; exact if_neg hlt
        rw [this]
        simp [turn, bodyLP, hp, optD, isN_bestD, hx, hlt]
theorem M_least_parts_ok {kvs : List (List Int × PyData)} {f l : Nat} {d : Int} (V : Nat → Nat → Option Int) (hl : l < 1000000) (hf : f < 1000000) (h : ∀ m : Nat, f < m → m < l → dGet kvs [(f : Int), (m : Int), d] = some (optD (V f m)) ∧ dGet kvs [(m : Int), (l : Int), d] = some (optD (V m l))) :
    M_least_parts [.dbw kvs, .fz (.int (f : Int)), .fz (.int (l : Int)), .fz (.int d)] = .ok (.val (bestD (leastB V f l))) := by
  have hs := forGo_foldN (tg := tgN 5) (ws := [5, 6]) (body := bodyLP)
    (fun b => [some (.dbw kvs), some (.fz (.int (f : Int))), some (.fz (.int (l : Int))), some (.fz (.int d)), some (.fz (bestD b)), none, none]) (stepB V f l) (mids f l) (fun b m hm => turnLP V b (h m (mem_mids.mp hm).1 (mem_mids.mp hm).2).1 (h m (mem_mids.mp hm).1 (mem_mids.mp hm).2).2) none
  have hw : wRange2 (eOp oAdd (eVar 1) (eC (.int 1))) (eVar 2) [some (.dbw kvs), some (.fz (.int (f : Int))), some (.fz (.int (l : Int))), some (.fz (.int d)), some (.fz .none), none, none] = .ok ((mids f l).map fun k => PyData.int ((k : Nat) : Int)) := by
    rw [← rng_mids]
    exact wRange2_ok rfl rfl ⟨by omega, by omega⟩ ⟨by omega, by omega⟩
  have hg : g_least_parts = sSeq (sSet 4 (eC .none)) (sSeq (sFor (wRange2 (eOp oAdd (eVar 1) (eC (.int 1))) (eVar 2)) (tgN 5) [5, 6] bodyLP) (sRet (eVar 4))) := rfl
  have hs2 : forGo (tgN 5) [5, 6] bodyLP ((mids f l).map fun k => PyData.int ((k : Nat) : Int)) [some (.dbw kvs), some (.fz (.int (f : Int))), some (.fz (.int (l : Int))), some (.fz (.int d)), some (.fz .none), none, none] = .nx [some (.dbw kvs), some (.fz (.int (f : Int))), some (.fz (.int (l : Int))), some (.fz (.int d)), some (.fz (bestD (leastB V f l))), none, none] := hs
  rw [M_least_parts_eq]
  unfold F_least_parts
  refine runF_rt [some (.dbw kvs), some (.fz (.int (f : Int))), some (.fz (.int (l : Int))), some (.fz (.int d)), none, none, none] rfl rfl (ρ' := [some (.dbw kvs), some (.fz (.int (f : Int))), some (.fz (.int (l : Int))), some (.fz (.int d)), some (.fz (bestD (leastB V f l))), none, none]) ?_
  rw [hg, seq_nx (show sSet 4 (eC .none) _ = .nx [some (.dbw kvs), some (.fz (.int (f : Int))), some (.fz (.int (l : Int))), some (.fz (.int d)), some (.fz .none), none, none] from rfl), seq_nx (by rw [for_of hw]; exact hs2)]
  rfl

/-! entry: slots 0:weights 1:table 2:first 3:last 4:depth -/
def g_entry : SE := (sSeq (sIf (bOf (eOp oEq (eOp oSub (eVar 3) (eVar 2)) (eC (.int 1)))) (sRet (eC (.int 0))) sNext)
  (sSeq (sIf (bOf (eOp oGt (eOp oSub (eVar 3) (eVar 2)) (eX (xCall M_doubled (rV (eVar 4) rNil))))) (sRet (eC .none)) sNext)
  (sRet (eOp oAdd (eSum (lSl (lVar 0) (oPart (eVar 2)) (oPart (eVar 3)))) (eIxT (eX (xCall M_least_parts (rD 1 (rV (eVar 2) (rV (eVar 3) (rV (eOp oSub (eVar 4) (eC (.int 1))) rNil)))))) (eC (.int 0)))))))
def F_entry : FN := runF 5 5 g_entry
theorem ex_entry : ∃ M : FN, M = F_entry := ⟨_, rfl⟩
def M_entry : FN := ex_entry.choose
theorem M_entry_eq : M_entry = F_entry := ex_entry.choose_spec
theorem ok_entry : ∀ as : List SL, as.length = 5 → M_entry as ≠ .stuck → F_entry as = M_entry as := fun _ _ _ => by rw [M_entry_eq]
theorem eSum_run {ws : List Int} {f l : Nat} {a : LE} {p q : OE} {ρ : Env} (ha : a ρ = .ok (ws.map PyData.int)) (hp : p ρ = .ok (some (f : Int))) (hq : q ρ = .ok (some (l : Int))) (hl : l ≤ ws.length) : eSum (lSl a p q) ρ = .ok (.int (runW ws f l)) := by
  refine eSum_ok (ds := ((ws.drop f).take (l - f)).map PyData.int) ?_ (asInts_DI _)
  rw [lSl_ap, ha, Out.bind_ok, hp, Out.bind_ok, hq, Out.bind_ok, cutD_mid _ _ _ (by rw [List.length_map]; exact hl), List.map_take, List.map_drop]
theorem M_entry_ok {ws : List Int} {kvs : List (List Int × PyData)} {f l d : Nat} (h0 : f < l) (hl : l ≤ ws.length) (hw : ws.length ≤ 24) (hd : d ≤ 12)
    (h : ∀ d', d = d' + 1 → ∀ m : Nat, f < m → m < l → dGet kvs [(f : Int), (m : Int), (d' : Int)] = some (optD (tval ws d' f m)) ∧ dGet kvs [(m : Int), (l : Int), (d' : Int)] = some (optD (tval ws d' m l))) :
    M_entry [.bw (ws.map PyData.int), .dbw kvs, .fz (.int (f : Int)), .fz (.int (l : Int)), .fz (.int (d : Int))] = .ok (.val (optD (tval ws d f l))) := by
  rw [M_entry_eq]
  unfold F_entry
  refine runF_rt [some (.bw (ws.map PyData.int)), some (.dbw kvs), some (.fz (.int (f : Int))), some (.fz (.int (l : Int))), some (.fz (.int (d : Int)))] rfl rfl (ρ' := [some (.bw (ws.map PyData.int)), some (.dbw kvs), some (.fz (.int (f : Int))), some (.fz (.int (l : Int))), some (.fz (.int (d : Int)))]) ?_
  unfold g_entry
  by_cases h1 : l - f = 1
  · have h2 : (l : Int) - (f : Int) = 1 := by omega
    have h3 : tval ws d f l = some 0 := by
      cases d with
      | zero => unfold tval; rw [if_pos h1]
      | succ d => unfold tval; rw [if_pos h1]
    rw [h3]
    simp [h2, optD]
  · have h2 : ¬ (l : Int) - (f : Int) = 1 := by omega
    have hdd : (d : Int) ≤ 60 ∧ -1000 ≤ (d : Int) := by omega
    by_cases h3 : 2 ^ d < l - f
    · have h4 : (2 : Int) ^ d < (l : Int) - (f : Int) := by
        have : ((2 ^ d : Nat) : Int) < ((l - f : Nat) : Int) := by exact_mod_cast h3
        rw [Int.natCast_pow] at this
        have e : ((l - f : Nat) : Int) = (l : Int) - (f : Int) := by omega
        rw [e] at this
        exact this
      have h5 : tval ws d f l = none := by
        cases d with
        | zero => unfold tval; rw [if_neg h1]
        | succ d => unfold tval; rw [if_neg h1, if_pos h3]
      rw [h5]
      simp [h2, M_doubled, hdd, h4, optD]
    · have h4 : ¬ (2 : Int) ^ d < (l : Int) - (f : Int) := by
        intro z
        apply h3
        have : ((2 ^ d : Nat) : Int) < ((l - f : Nat) : Int) := by
          rw [Int.natCast_pow]
          have e : ((l - f : Nat) : Int) = (l : Int) - (f : Int) := by omega
          rw [e]
          exact z
        exact_mod_cast this
      cases d with
      | zero => exact absurd (show 2 ^ 0 < l - f by omega) h3
      | succ d =>
        generalize hD : ((d + 1 : Nat) : Int) = D at hdd h4 ⊢
        obtain ⟨a, m, e1, e2, e3, e4⟩ := leastB_some (ws := ws) (d := d) (f := f) (l := l) (by omega) (by omega)
        have hp := M_least_parts_ok (kvs := kvs) (f := f) (l := l) (d := (d : Int)) (tval ws d) (by omega) (by omega) (h d rfl)
        rw [e1] at hp
        have hs : eSum (lSl (lVar 0) (oPart (eVar 2)) (oPart (eVar 3))) [some (.bw (ws.map PyData.int)), some (.dbw kvs), some (.fz (.int (f : Int))), some (.fz (.int (l : Int))), some (.fz (.int D))] = .ok (.int (runW ws f l)) := eSum_run rfl rfl rfl hl
        have hx : eIxT (eX (xCall M_least_parts (rD 1 (rV (eVar 2) (rV (eVar 3) (rV (eOp oSub (eVar 4) (eC (.int 1))) rNil)))))) (eC (.int 0)) [some (.bw (ws.map PyData.int)), some (.dbw kvs), some (.fz (.int (f : Int))), some (.fz (.int (l : Int))), some (.fz (.int D))] = .ok (.int a) := by
          have hc : D - 1 = (d : Int) := by omega
          refine eIxT_ok (ds := [.int a, .int (m : Int)]) (eX_val ?_) rfl rfl
          simp only [bestD] at hp
          simp only [xCall_ap, rD_ap, rV_ap, rNil_ap, dVar_s, dVar_0b, eVar_s, eVar_0, eOp_ap, eC_ap, oSub_i, Out.bind_ok, hc, hp]
        rw [e4]
        have hdt : D.toNat = d + 1 := by omega
        have hmd : M_doubled [.fz (.int D)] = .ok (.val (.int (2 ^ (d + 1)))) := by
          unfold M_doubled
          dsimp only
          rw [if_pos hdd, hdt]
        simp only [sSeq_ap, sIf_ap, bOf_ap, eOp_ap, eVar_s, eVar_0, Out.bind_ok, oSub_i, eC_ap, oEq_i, h2, decide_false, wOut_ok, Bool.false_eq_true, if_false, sNext_ap, SO.then_nx, oGt_i, sRet_ap, hs, hx, oAdd_i, optD]
        rw [eX_val (show xCall M_doubled (rV (eVar 4) rNil) [some (.bw (ws.map PyData.int)), some (.dbw kvs), some (.fz (.int (f : Int))), some (.fz (.int (l : Int))), some (.fz (.int D))] = .ok (.val (.int (2 ^ (d + 1)))) by simp only [xCall_ap, rV_ap, rNil_ap, eVar_s, eVar_0, Out.bind_ok, hmd])]
        simp [h4, hs, hx, optD]

/-! least_table: slots 0:weights 1:bound 2:table 3:depth 4:first 5:last -/
def g_least_table : SE := (sSeq (sDropX (xCall M_need_room (rL (lVar 0) (rV (eVar 1) rNil))))
  (sSeq (sSetD 2)
  (sSeq (sFor (wRange1 (eOp oAdd (eVar 1) (eC (.int 1)))) (tgN 3) [3, 4, 5] (sFor (wRange1 (eLenV (rVar 0))) (tgN 4) [4, 5] (sFor (wRange2 (eOp oAdd (eVar 4) (eC (.int 1))) (eOp oAdd (eLenV (rVar 0)) (eC (.int 1)))) (tgN 5) [5] (sDPutE 2 [(eVar 4), (eVar 5), (eVar 3)] (eX (xCall M_entry (rL (lVar 0) (rD 2 (rV (eVar 4) (rV (eVar 5) (rV (eVar 3) rNil)))))))))))
  (sRetO 2))))
def F_least_table : FN := runF 2 6 g_least_table
theorem ex_least_table : ∃ M : FN, M = F_least_table := ⟨_, rfl⟩
def M_least_table : FN := ex_least_table.choose
theorem M_least_table_eq : M_least_table = F_least_table := ex_least_table.choose_spec
theorem ok_least_table : ∀ as : List SL, as.length = 2 → M_least_table as ≠ .stuck → F_least_table as = M_least_table as := fun _ _ _ => by rw [M_least_table_eq]
theorem forGo_steps {tg : TGT} {ws : List Nat} {body : SE} : ∀ (n a : Nat) (st : Nat → Env), (∀ j, j < n → turn tg ws body (.int ((a + j : Nat) : Int)) (st j) = .nx (st (j + 1))) → forGo tg ws body ((List.range' a n).map fun k => PyData.int ((k : Nat) : Int)) (st 0) = .nx (st n)
  | 0, _, _, _ => rfl
  | n + 1, a, st, h => by
    have h0 := h 0 (by omega)
    rw [Nat.add_zero] at h0
    rw [List.range'_succ, List.map_cons, forGo_cons, h0]
    have ih := forGo_steps n (a + 1) (fun j => st (j + 1)) (fun j hj => by
      have := h (j + 1) (by omega)
      rw [show a + (j + 1) = a + 1 + j by omega] at this
      exact this)
    exact ih
/-- the keys put in, in their order -/
def T1 (d f j : Nat) : List Trip := (List.range' (f + 1) j).map fun l => (f, l, d)
def T2 (n d j : Nat) : List Trip := (List.range j).flatMap fun f => T1 d f (n - f)
def T3 (n j : Nat) : List Trip := (List.range j).flatMap fun d => T2 n d n
theorem T1_s (d f j : Nat) : T1 d f (j + 1) = T1 d f j ++ [(f, f + 1 + j, d)] := by
  unfold T1
  rw [List.range'_concat, List.map_append, Nat.one_mul]
  rfl
theorem T2_s (n d j : Nat) : T2 n d (j + 1) = T2 n d j ++ T1 d j (n - j) := by
  unfold T2
  rw [List.range_succ, List.flatMap_append]
  simp
theorem T3_s (n j : Nat) : T3 n (j + 1) = T3 n j ++ T2 n j n := by
  unfold T3
  rw [List.range_succ, List.flatMap_append]
  simp
theorem mem_T1 {d f j : Nat} {t : Trip} : t ∈ T1 d f j ↔ t.1 = f ∧ t.2.2 = d ∧ f < t.2.1 ∧ t.2.1 < f + 1 + j := by
  unfold T1
  rw [List.mem_map]
  constructor
  · rintro ⟨l, hl, rfl⟩
    rw [List.mem_range'_1] at hl
    dsimp only
    omega
  · rintro ⟨h1, h2, h3, h4⟩
    refine ⟨t.2.1, by rw [List.mem_range'_1]; omega, ?_⟩
    obtain ⟨x, y, z⟩ := t
    dsimp only at h1 h2
    subst h1 h2
    rfl
theorem mem_T2 {n d j : Nat} {t : Trip} : t ∈ T2 n d j ↔ t.1 < j ∧ t.2.2 = d ∧ t.1 < t.2.1 ∧ t.2.1 < t.1 + 1 + (n - t.1) := by
  unfold T2
  rw [List.mem_flatMap]
  constructor
  · rintro ⟨f, hf, ht⟩
    rw [List.mem_range] at hf
    have := mem_T1.mp ht
    obtain ⟨h1, h2, h3, h4⟩ := this
    subst h1
    exact ⟨hf, h2, h3, h4⟩
  · rintro ⟨h1, h2, h3, h4⟩
    exact ⟨t.1, List.mem_range.mpr h1, mem_T1.mpr ⟨rfl, h2, h3, h4⟩⟩
theorem mem_T3 {n j : Nat} {t : Trip} : t ∈ T3 n j ↔ t.2.2 < j ∧ t.1 < t.2.1 ∧ t.2.1 ≤ n := by
  unfold T3
  rw [List.mem_flatMap]
  constructor
  · rintro ⟨d, hd, ht⟩
    rw [List.mem_range] at hd
    obtain ⟨h1, h2, h3, h4⟩ := mem_T2.mp ht
    omega
  · rintro ⟨h1, h2, h3⟩
    exact ⟨t.2.2, List.mem_range.mpr h1, mem_T2.mpr ⟨by omega, rfl, h2, by omega⟩⟩
theorem len_T1 (d f j : Nat) : (T1 d f j).length = j := by
  unfold T1
  rw [List.length_map, List.length_range']
theorem len_T2 (n d : Nat) : ∀ j, j ≤ n → 2 * (T2 n d j).length + (n - j) * (n - j + 1) = n * (n + 1)
  | 0, _ => by
    show 2 * 0 + _ = _
    rw [Nat.sub_zero]
    omega
  | j + 1, h => by
    have ih := len_T2 n d j (by omega)
    rw [T2_s, List.length_append, len_T1]
    obtain ⟨m, hm⟩ : ∃ m, n - j = m + 1 := ⟨n - j - 1, by omega⟩
    have hm2 : n - (j + 1) = m := by omega
    rw [hm] at ih ⊢
    rw [hm2]
    have e : (m + 1) * (m + 1 + 1) = m * (m + 1) + 2 * (m + 1) := by
      rw [Nat.mul_comm (m + 1) (m + 1 + 1), Nat.add_mul (m + 1) 1, Nat.add_mul m 1]
      omega
    omega
theorem len_T2n (n d : Nat) : (T2 n d n).length = n * (n + 1) / 2 := by
  have := len_T2 n d n (Nat.le_refl _)
  rw [Nat.sub_self, Nat.zero_mul] at this
  omega
theorem len_T3 (n : Nat) : ∀ j, (T3 n j).length = j * (n * (n + 1) / 2)
  | 0 => by
    rw [Nat.zero_mul]
    rfl
  | j + 1 => by rw [T3_s, List.length_append, len_T3 n j, len_T2n, Nat.succ_mul]
theorem len_T2_le {n d j : Nat} (hn : n ≤ 24) (hj : j ≤ n) : (T2 n d j).length ≤ 300 := by
  have := len_T2 n d j hj
  have : n * (n + 1) ≤ 24 * 25 := Nat.mul_le_mul hn (by omega)
  omega
theorem len_T3_le {n j : Nat} (hn : n ≤ 24) (hj : j ≤ 13) : (T3 n j).length ≤ 3900 := by
  rw [len_T3]
  have : n * (n + 1) ≤ 24 * 25 := Nat.mul_le_mul hn (by omega)
  have h2 : n * (n + 1) / 2 ≤ 300 := by omega
  calc j * (n * (n + 1) / 2) ≤ 13 * 300 := Nat.mul_le_mul hj h2
    _ = 3900 := rfl
/-- the table of a list of weights -/
def tabOf (ws : List Int) (b : Nat) : List (List Int × PyData) := (T3 ws.length (b + 1)).map (tent ws)
theorem tab_get {ws : List Int} {b f l d : Nat} (h1 : f < l) (h2 : l ≤ ws.length) (h3 : d ≤ b) : dGet (tabOf ws b) [(f : Int), (l : Int), (d : Int)] = some (optD (tval ws d f l)) := by
  have := dGet_tent ws (f, l, d) (T3 ws.length (b + 1))
  rw [if_pos (mem_T3.mpr ⟨by show d < b + 1; omega, h1, h2⟩)] at this
  exact this
abbrev bodyLT3 : SE := sDPutE 2 [(eVar 4), (eVar 5), (eVar 3)] (eX (xCall M_entry (rL (lVar 0) (rD 2 (rV (eVar 4) (rV (eVar 5) (rV (eVar 3) rNil)))))))
abbrev bodyLT2 : SE := sFor (wRange2 (eOp oAdd (eVar 4) (eC (.int 1))) (eOp oAdd (eLenV (rVar 0)) (eC (.int 1)))) (tgN 5) [5] bodyLT3
abbrev bodyLT1 : SE := sFor (wRange1 (eLenV (rVar 0))) (tgN 4) [4, 5] bodyLT2
section
variable {ws : List Int} {b : Int}
abbrev envLT (ws : List Int) (b : Int) (K : List Trip) (x y z : Option SL) : Env := [some (.bw (ws.map PyData.int)), some (.fz (.int b)), some (.dow (K.map (tent ws))), x, y, z]
theorem turnLT3 {d f j : Nat} {x : Option SL} (hn : ws.length ≤ 24) (hf : f < ws.length) (hd : d ≤ 12) (hj : j < ws.length - f) :
    turn (tgN 5) [5] bodyLT3 (.int ((f + 1 + j : Nat) : Int)) (envLT ws b (T3 ws.length d ++ T2 ws.length d f ++ T1 d f j) (some (.fz (.int (d : Int)))) (some (.fz (.int (f : Int)))) x)
      = .nx (envLT ws b (T3 ws.length d ++ T2 ws.length d f ++ T1 d f (j + 1)) (some (.fz (.int (d : Int)))) (some (.fz (.int (f : Int)))) none) := by
  have he := M_entry_ok (ws := ws) (kvs := (T3 ws.length d ++ T2 ws.length d f ++ T1 d f j).map (tent ws)) (f := f) (l := f + 1 + j) (d := d) (by omega) (by omega) hn hd (fun d' e m h1 h2 => by
    have g1 := dGet_tent ws (f, m, d') (T3 ws.length d ++ T2 ws.length d f ++ T1 d f j)
    have g2 := dGet_tent ws (m, f + 1 + j, d') (T3 ws.length d ++ T2 ws.length d f ++ T1 d f j)
    rw [if_pos (List.mem_append_left _ (List.mem_append_left _ (mem_T3.mpr ⟨by show d' < d; omega, h1, by show m ≤ ws.length; omega⟩)))] at g1
    rw [if_pos (List.mem_append_left _ (List.mem_append_left _ (mem_T3.mpr ⟨by show d' < d; omega, h2, by show f + 1 + j ≤ ws.length; omega⟩)))] at g2
    exact ⟨g1, g2⟩)
  have hnew := dGet_tent ws (f, f + 1 + j, d) (T3 ws.length d ++ T2 ws.length d f ++ T1 d f j)
  rw [if_neg (fun z => by
    rcases List.mem_append.mp z with z | z
    · rcases List.mem_append.mp z with z | z
      · have := (mem_T3.mp z).1; dsimp only at this; omega
      · have := (mem_T2.mp z).1; dsimp only at this; omega
    · have := (mem_T1.mp z).2.2.2; dsimp only at this; omega)] at hnew
  have hput := dPut_new (d := optD (tval ws d f (f + 1 + j))) hnew
  have hlen : ((T3 ws.length d ++ T2 ws.length d f ++ T1 d f j).map (tent ws)).length < 1000000 := by
    rw [List.length_map, List.length_append, List.length_append, len_T1]
    have := len_T3_le (n := ws.length) (j := d) hn (by omega)
    have := len_T2_le (n := ws.length) (d := d) (j := f) hn (by omega)
    omega
  rw [T1_s, ← List.append_assoc]
  unfold envLT
  rw [show (T3 ws.length d ++ T2 ws.length d f ++ T1 d f j ++ [(f, f + 1 + j, d)]).map (tent ws) = (T3 ws.length d ++ T2 ws.length d f ++ T1 d f j).map (tent ws) ++ [tent ws (f, f + 1 + j, d)] by rw [List.map_append]; rfl]
  generalize (T3 ws.length d ++ T2 ws.length d f ++ T1 d f j).map (tent ws) = kvs at *
  have hp2 : dPut kvs [(f : Int), ((f + 1 + j : Nat) : Int), (d : Int)] (optD (tval ws d f (f + 1 + j))) = kvs ++ [tent ws (f, f + 1 + j, d)] := hput
  generalize ((f + 1 + j : Nat) : Int) = L at he hp2 ⊢
  simp [turn, sDPutE, he, hp2, hlen]
theorem turnLT2 {d f : Nat} {x : Option SL} (hn : ws.length ≤ 24) (hf : f < ws.length) (hd : d ≤ 12) :
    turn (tgN 4) [4, 5] bodyLT2 (.int ((0 + f : Nat) : Int)) (envLT ws b (T3 ws.length d ++ T2 ws.length d f) (some (.fz (.int (d : Int)))) x none)
      = .nx (envLT ws b (T3 ws.length d ++ T2 ws.length d (f + 1)) (some (.fz (.int (d : Int)))) none none) := by
  have hs := forGo_steps (tg := tgN 5) (ws := [5]) (body := bodyLT3) (ws.length - f) (f + 1) (fun j => envLT ws b (T3 ws.length d ++ T2 ws.length d f ++ T1 d f j) (some (.fz (.int (d : Int)))) (some (.fz (.int (f : Int)))) none) (fun j hj => turnLT3 hn hf hd hj)
  rw [show T3 ws.length d ++ T2 ws.length d f ++ T1 d f 0 = T3 ws.length d ++ T2 ws.length d f by rw [show T1 d f 0 = [] from rfl, List.append_nil]] at hs
  rw [T2_s, ← List.append_assoc]
  generalize T3 ws.length d ++ T2 ws.length d f = K at hs ⊢
  have hw : wRange2 (eOp oAdd (eVar 4) (eC (.int 1))) (eOp oAdd (eLenV (rVar 0)) (eC (.int 1))) (envLT ws b K (some (.fz (.int (d : Int)))) (some (.fz (.int (f : Int)))) none) = .ok ((List.range' (f + 1) (ws.length - f)).map fun k => PyData.int ((k : Nat) : Int)) := by
    have := rng_nat (f + 1) (ws.length - f)
    rw [← this]
    rw [wRange2_ok (n := (f : Int) + 1) (m := (ws.length : Int) + 1) (by simp) (by simp) ⟨by omega, by omega⟩ ⟨by omega, by omega⟩]
    rw [show ((ws.length : Int) + 1 - ((f : Int) + 1)).toNat = ws.length - f by omega]
    rfl
  rw [Nat.zero_add]
  exact (turn_nx (ρ1 := envLT ws b K (some (.fz (.int (d : Int)))) (some (.fz (.int (f : Int)))) none) (ρ2 := envLT ws b (K ++ T1 d f (ws.length - f)) (some (.fz (.int (d : Int)))) (some (.fz (.int (f : Int)))) none) rfl ((for_of hw).trans hs)).trans rfl
theorem turnLT1 {d : Nat} {x : Option SL} (hn : ws.length ≤ 24) (hd : d ≤ 12) :
    turn (tgN 3) [3, 4, 5] bodyLT1 (.int ((0 + d : Nat) : Int)) (envLT ws b (T3 ws.length d) x none none)
      = .nx (envLT ws b (T3 ws.length (d + 1)) none none none) := by
  have hs := forGo_steps (tg := tgN 4) (ws := [4, 5]) (body := bodyLT2) ws.length 0 (fun j => envLT ws b (T3 ws.length d ++ T2 ws.length d j) (some (.fz (.int (d : Int)))) none none) (fun j hj => turnLT2 hn hj hd)
  rw [show T3 ws.length d ++ T2 ws.length d 0 = T3 ws.length d by rw [show T2 ws.length d 0 = [] from rfl, List.append_nil], ← T3_s] at hs
  have hw : wRange1 (eLenV (rVar 0)) (envLT ws b (T3 ws.length d) (some (.fz (.int (d : Int)))) none none) = .ok ((List.range' 0 ws.length).map fun k => PyData.int ((k : Nat) : Int)) := by
    rw [← rng_nat 0 ws.length]
    rw [wRange1_ok (n := (ws.length : Int)) (by simp) ⟨by omega, by omega⟩]
    rfl
  rw [Nat.zero_add]
  exact (turn_nx (ρ1 := envLT ws b (T3 ws.length d) (some (.fz (.int (d : Int)))) none none) (ρ2 := envLT ws b (T3 ws.length (d + 1)) (some (.fz (.int (d : Int)))) none none) rfl ((for_of hw).trans hs)).trans rfl
end
theorem g_least_table_eq : g_least_table = sSeq (sDropX (xCall M_need_room (rL (lVar 0) (rV (eVar 1) rNil)))) (sSeq (sSetD 2) (sSeq (sFor (wRange1 (eOp oAdd (eVar 1) (eC (.int 1)))) (tgN 3) [3, 4, 5] bodyLT1) (sRetO 2))) := rfl
theorem noDict_DI (ns : List Int) : (ns.map PyData.int).all noDict = true := by
  rw [List.all_eq_true]
  intro d hd
  obtain ⟨k, _, rfl⟩ := List.mem_map.mp hd
  rfl
theorem M_least_table_ok {ws : List Int} {b : Nat} (hn : ws.length ≤ 24) (hb : b ≤ 12) (hr : roomBad (ws.map PyData.int) (.int (b : Int)) = none) : M_least_table [.bw (ws.map PyData.int), .fz (.int (b : Int))] = .ok (.dfresh (tabOf ws b)) := by
  rw [M_least_table_eq]
  unfold F_least_table
  refine runF_rt [some (.bw (ws.map PyData.int)), some (.fz (.int (b : Int))), none, none, none, none] rfl rfl (ρ' := envLT ws (b : Int) (T3 ws.length (b + 1)) none none none) ?_
  have hm : M_need_room [.bw (ws.map PyData.int), .fz (.int (b : Int))] = .ok (.val .none) := by
    unfold M_need_room
    dsimp only
    rw [if_pos (by rw [noDict_DI]; rfl), hr]
  have hs := forGo_steps (tg := tgN 3) (ws := [3, 4, 5]) (body := bodyLT1) (b + 1) 0 (fun j => envLT ws (b : Int) (T3 ws.length j) none none none) (fun j hj => turnLT1 hn (by omega))
  have hw : wRange1 (eOp oAdd (eVar 1) (eC (.int 1))) (envLT ws (b : Int) [] none none none) = .ok ((List.range' 0 (b + 1)).map fun k => PyData.int ((k : Nat) : Int)) := by
    rw [← rng_nat 0 (b + 1)]
    rw [wRange1_ok (n := (b : Int) + 1) (by simp) ⟨by omega, by omega⟩]
    rfl
  rw [g_least_table_eq]
  rw [seq_nx (ρ' := [some (.bw (ws.map PyData.int)), some (.fz (.int (b : Int))), none, none, none, none]) (by simp [hm])]
  rw [seq_nx (show sSetD 2 [some (.bw (ws.map PyData.int)), some (.fz (.int (b : Int))), none, none, none, none] = .nx (envLT ws (b : Int) [] none none none) from rfl)]
  rw [seq_nx (ρ' := envLT ws (b : Int) (T3 ws.length (b + 1)) none none none) (by rw [for_of hw]; exact hs)]
  rfl

theorem roomBad_ok {ws : List Int} {b : Nat} (hw : ∀ w ∈ ws, 0 ≤ w ∧ w ≤ 1000000000000) (hn : ws.length ≤ 24) (h1 : 1 ≤ b) (h2 : b ≤ 12) (h3 : ws.length ≤ 2 ^ b) : roomBad (ws.map PyData.int) (.int (b : Int)) = none := by
  have e1 : wBad (ws.map PyData.int) = none := by
    unfold wBad
    rw [if_neg (by rw [List.length_map]; omega), if_pos]
    rw [List.all_eq_true]
    intro d hd
    obtain ⟨k, hk, rfl⟩ := List.mem_map.mp hd
    exact decide_eq_true (hw k hk)
  have e2 : boundBad (.int (b : Int)) = none := by
    unfold boundBad
    dsimp only
    rw [if_pos (by omega)]
  unfold roomBad inBad
  rw [e1]
  dsimp only
  rw [e2]
  dsimp only
  rw [if_neg (by rw [List.length_map, show ((b : Int)).toNat = b by omega]; omega)]
/-- a loop over naturals that changes nothing -/
theorem pass_nat {tg : TGT} {ws : List Nat} {body : SE} {ρ : Env} {w : LE} {a n : Nat} (hw : w ρ = .ok (rngD (a : Int) n 1)) (h : ∀ k, a ≤ k → k < a + n → turn tg ws body (.int ((k : Nat) : Int)) ρ = .nx ρ) : sFor w tg ws body ρ = .nx ρ := by
  rw [for_of hw, rng_nat]
  refine forGo_pass _ fun d hd => ?_
  obtain ⟨k, hk, rfl⟩ := List.mem_map.mp hd
  rw [List.mem_range'_1] at hk
  exact h k hk.1 hk.2

/-! packet_rows: slots 0:weights 1:bound 2:rows -/
def g_packet_rows : SE := (sSeq (sDropX (xCall M_need_room (rL (lVar 0) (rV (eVar 1) rNil))))
  (sSeq (sSetL 2 (lLst [(eOfL (lX (xCall M_singles (rL (lVar 0) rNil))))]))
  (sSeq (sWhile 20 (bOf (eOp oLt (eLenV (rVar 2)) (eVar 1))) [] (sApp 2 (eOfL (lSortK (lCat (lX (xCall M_singles (rL (lVar 0) rNil))) (lX (xCall M_pairs_of (rL (lOfV (eIx (lVar 2) (eNeg (eC (.int 1))))) rNil))))))))
  (sRetO 2))))
def F_packet_rows : FN := runF 2 3 g_packet_rows
theorem ex_packet_rows : ∃ M : FN, M = F_packet_rows := ⟨_, rfl⟩
def M_packet_rows : FN := ex_packet_rows.choose
theorem M_packet_rows_eq : M_packet_rows = F_packet_rows := ex_packet_rows.choose_spec
theorem ok_packet_rows : ∀ as : List SL, as.length = 2 → M_packet_rows as ≠ .stuck → F_packet_rows as = M_packet_rows as := fun _ _ _ => by rw [M_packet_rows_eq]
theorem row_short (ws : List Int) : ∀ j, (rowV ws j).length ≤ 2 * ws.length
  | 0 => by
    have : (rowV ws 0).length = ws.length := singlesV_len ws
    omega
  | j + 1 => by
    have := row_short ws j
    have e : (rowV ws (j + 1)).length = ws.length + (rowV ws j).length / 2 := by
      rw [rowV_mrg, (mrg_perm pkW _ _).length_eq, List.length_append, singlesV_len, pairsV_len]
    omega
def rowD (ws : List Int) (j : Nat) : PyData := .list ((rowV ws j).map pkD)
abbrev rowsD (ws : List Int) (b : Nat) : List PyData := (List.range b).map (rowD ws)
abbrev envPr (ws : List Int) (b : Nat) (j : Nat) : Env := [some (.bw (ws.map PyData.int)), some (.fz (.int (b : Int))), some (.ow (rowsD ws (j + 1)))]
abbrev condPr : BE := bOf (eOp oLt (eLenV (rVar 2)) (eVar 1))
abbrev bodyPr : SE := sApp 2 (eOfL (lSortK (lCat (lX (xCall M_singles (rL (lVar 0) rNil))) (lX (xCall M_pairs_of (rL (lOfV (eIx (lVar 2) (eNeg (eC (.int 1))))) rNil))))))
theorem body_pr {ws : List Int} {b j : Nat} (hn : ws.length ≤ 24) (hj : j ≤ 12) : bodyPr (envPr ws b j) = .nx (envPr ws b (j + 1)) := by
  have hrow := row_short ws j
  have hfew := row_few ws j
  have h2 : 2 ^ j ≤ 100000 := Nat.le_trans (Nat.pow_le_pow_right (by decide) hj) (by decide)
  have hsing := M_singles_ok (ws := ws) (by omega)
  have hpair := M_pairs_of_ok hfew h2 (by omega)
  have hlast : atI (rowsD ws (j + 1)) (-1) = some (.list ((rowV ws j).map pkD)) := by
    unfold rowsD
    rw [List.range_succ, List.map_append]
    exact atI_last _ _
  have hix : lOfV (eIx (lVar 2) (eNeg (eC (.int 1)))) (envPr ws b j) = .ok ((rowV ws j).map pkD) := lOfV_ok (eIx_ok rfl (eNeg_ok rfl) hlast)
  have hx1 : lX (xCall M_singles (rL (lVar 0) rNil)) (envPr ws b j) = .ok ((singlesV ws).map pkD) := lX_fresh (by rw [xCall_ap]; exact hsing)
  have hx2 : lX (xCall M_pairs_of (rL (lOfV (eIx (lVar 2) (eNeg (eC (.int 1))))) rNil)) (envPr ws b j) = .ok ((pairsV (rowV ws j)).map pkD) := lX_fresh (by rw [xCall_ap, rL_ap, hix, Out.bind_ok, rNil_ap, Out.bind_ok, Out.bind_ok]; exact hpair)
  have hcat : lCat (lX (xCall M_singles (rL (lVar 0) rNil))) (lX (xCall M_pairs_of (rL (lOfV (eIx (lVar 2) (eNeg (eC (.int 1))))) rNil))) (envPr ws b j) = .ok ((singlesV ws ++ pairsV (rowV ws j)).map pkD) := by
    unfold lCat
    rw [hx1, hx2, Out.bind_ok, Out.bind_ok, if_pos (by rw [List.length_map, List.length_map, singlesV_len, pairsV_len]; omega), List.map_append]
  have hs := sortK_pk hcat
  have happ : ∀ f : VE, sApp 2 f (envPr ws b j) = wOut (f (envPr ws b j)) (envPr ws b j) fun d => if (rowsD ws (j + 1)).length < 1000000 then .nx [some (.bw (ws.map PyData.int)), some (.fz (.int (b : Int))), some (.ow (rowsD ws (j + 1) ++ [d]))] else .stuck := fun _ => rfl
  unfold bodyPr
  rw [happ, eOfL_ap, hs, Out.bind_ok, wOut_ok, if_pos (by unfold rowsD; rw [List.length_map, List.length_range]; omega)]
  have e : rowsD ws (j + 1 + 1) = rowsD ws (j + 1) ++ [rowD ws (j + 1)] := by
    unfold rowsD
    rw [List.range_succ (n := j + 1), List.map_append]
    rfl
  unfold envPr
  rw [e]
  rfl
theorem while_pr {ws : List Int} {b : Nat} (hn : ws.length ≤ 24) (hb : b ≤ 12) : ∀ (d j k : Nat), j + 1 + d = b → whGo condPr [] bodyPr (d + 1 + k) (envPr ws b j) = .nx (envPr ws b (b - 1))
  | 0, j, k, h => by
    have hc : condPr (envPr ws b j) = .ok false := by
      have hl : (rowsD ws (j + 1)).length = j + 1 := by unfold rowsD; rw [List.length_map, List.length_range]
      have : ¬ ((j + 1 : Nat) : Int) < (b : Int) := by omega
      show (Out.ok (PyData.bool (decide (((rowsD ws (j + 1)).length : Int) < (b : Int))))).bind _ = _
      rw [hl, decide_eq_false this]
      rfl
    rw [show 0 + 1 + k = k + 1 by omega]
    unfold whGo
    rw [hc, wOut_ok, show b - 1 = j by omega]
    rfl
  | d + 1, j, k, h => by
    have hc : condPr (envPr ws b j) = .ok true := by
      have hl : (rowsD ws (j + 1)).length = j + 1 := by unfold rowsD; rw [List.length_map, List.length_range]
      have : ((j + 1 : Nat) : Int) < (b : Int) := by omega
      show (Out.ok (PyData.bool (decide (((rowsD ws (j + 1)).length : Int) < (b : Int))))).bind _ = _
      rw [hl, decide_eq_true this]
      rfl
    rw [show d + 1 + 1 + k = (d + 1 + k) + 1 by omega]
    unfold whGo
    rw [hc, wOut_ok, if_pos rfl, body_pr hn (by omega)]
    exact while_pr hn hb d (j + 1) k (by omega)
theorem M_packet_rows_ok {ws : List Int} {b : Nat} (hw : ∀ w ∈ ws, 0 ≤ w ∧ w ≤ 1000000000000) (hn : ws.length ≤ 24) (h1 : 1 ≤ b) (h2 : b ≤ 12) (h3 : ws.length ≤ 2 ^ b) : M_packet_rows [.bw (ws.map PyData.int), .fz (.int (b : Int))] = .ok (.fresh (rowsD ws b)) := by
  rw [M_packet_rows_eq]
  unfold F_packet_rows
  refine runF_rt [some (.bw (ws.map PyData.int)), some (.fz (.int (b : Int))), none] rfl rfl (ρ' := envPr ws b (b - 1)) ?_
  have hm : M_need_room [.bw (ws.map PyData.int), .fz (.int (b : Int))] = .ok (.val .none) := by
    unfold M_need_room
    dsimp only
    rw [if_pos (by rw [noDict_DI]; rfl), roomBad_ok hw hn h1 h2 h3]
  have hg : g_packet_rows = sSeq (sDropX (xCall M_need_room (rL (lVar 0) (rV (eVar 1) rNil)))) (sSeq (sSetL 2 (lLst [(eOfL (lX (xCall M_singles (rL (lVar 0) rNil))))])) (sSeq (sWhile 20 condPr [] bodyPr) (sRetO 2))) := rfl
  have hsing := M_singles_ok (ws := ws) (by omega)
  have hx1 : lX (xCall M_singles (rL (lVar 0) rNil)) [some (.bw (ws.map PyData.int)), some (.fz (.int (b : Int))), none] = .ok ((singlesV ws).map pkD) := lX_fresh (by rw [xCall_ap]; exact hsing)
  rw [hg, seq_nx (ρ' := [some (.bw (ws.map PyData.int)), some (.fz (.int (b : Int))), none]) (by simp [hm])]
  rw [seq_nx (ρ' := envPr ws b 0) (by
    rw [sSetL_ap, lLst_ap, aAll_cons, eOfL_ap, hx1, Out.bind_ok, Out.bind_ok, aAll_nil, Out.bind_ok, wOut_ok]
    rfl)]
  have hwh : sWhile 20 condPr [] bodyPr (envPr ws b 0) = .nx (envPr ws b (b - 1)) := by
    have := while_pr (ws := ws) hn h2 (b - 1) 0 (20 - b) (by omega)
    rw [show b - 1 + 1 + (20 - b) = 20 by omega] at this
    exact this
  rw [seq_nx hwh]
  unfold envPr
  rw [show b - 1 + 1 = b by omega]
  rfl

/-! packet_rows_2: slots 0:weights 1:bound 2:rows -/
def g_packet_rows_2 : SE := (sSeq (sDropX (xCall M_need_room (rL (lVar 0) (rV (eVar 1) rNil))))
  (sSeq (sSetG 2 (lX (xCall M_singles (rL (lVar 0) rNil))))
  (sSeq (sWhile 20 (bOf (eOp oLt (eLenV (rVar 2)) (eVar 1))) [] (sAppG 2 (lSortK (lCat (lX (xCall M_singles (rL (lVar 0) rNil))) (lX (xCall M_pairs_of (rL (lOfV (eIx (lVar 2) (eNeg (eC (.int 1))))) rNil)))))))
  (sRetO 2))))
def F_packet_rows_2 : FN := runF 2 3 g_packet_rows_2
theorem ex_packet_rows_2 : ∃ M : FN, M = F_packet_rows_2 := ⟨_, rfl⟩
def M_packet_rows_2 : FN := ex_packet_rows_2.choose
theorem M_packet_rows_2_eq : M_packet_rows_2 = F_packet_rows_2 := ex_packet_rows_2.choose_spec
theorem ok_packet_rows_2 : ∀ as : List SL, as.length = 2 → M_packet_rows_2 as ≠ .stuck → F_packet_rows_2 as = M_packet_rows_2 as := fun _ _ _ => by rw [M_packet_rows_2_eq]
abbrev rowsL (ws : List Int) (b : Nat) : List (List PyData) := (List.range b).map fun j => (rowV ws j).map pkD
theorem rowsL_D (ws : List Int) (b : Nat) : (rowsL ws b).map PyData.list = rowsD ws b := by
  unfold rowsL rowsD
  rw [List.map_map]
  rfl
abbrev envPg (ws : List Int) (b : Nat) (j : Nat) : Env := [some (.bw (ws.map PyData.int)), some (.fz (.int (b : Int))), some (.og (rowsL ws (j + 1)))]
abbrev condPg : BE := bOf (eOp oLt (eLenV (rVar 2)) (eVar 1))
abbrev bodyPg : SE := sAppG 2 (lSortK (lCat (lX (xCall M_singles (rL (lVar 0) rNil))) (lX (xCall M_pairs_of (rL (lOfV (eIx (lVar 2) (eNeg (eC (.int 1))))) rNil)))))
theorem body_pg {ws : List Int} {b j : Nat} (hn : ws.length ≤ 24) (hj : j ≤ 12) : bodyPg (envPg ws b j) = .nx (envPg ws b (j + 1)) := by
  have hrow := row_short ws j
  have hfew := row_few ws j
  have h2 : 2 ^ j ≤ 100000 := Nat.le_trans (Nat.pow_le_pow_right (by decide) hj) (by decide)
  have hsing := M_singles_ok (ws := ws) (by omega)
  have hpair := M_pairs_of_ok hfew h2 (by omega)
  have hlast : atI (rowsD ws (j + 1)) (-1) = some (.list ((rowV ws j).map pkD)) := by
    unfold rowsD
    rw [List.range_succ, List.map_append]
    exact atI_last _ _
  have hix : lOfV (eIx (lVar 2) (eNeg (eC (.int 1)))) (envPg ws b j) = .ok ((rowV ws j).map pkD) := lOfV_ok (eIx_ok (show lVar 2 (envPg ws b j) = .ok (rowsD ws (j + 1)) from congrArg Out.ok (rowsL_D ws (j + 1))) (eNeg_ok rfl) hlast)
  have hx1 : lX (xCall M_singles (rL (lVar 0) rNil)) (envPg ws b j) = .ok ((singlesV ws).map pkD) := lX_fresh (by rw [xCall_ap]; exact hsing)
  have hx2 : lX (xCall M_pairs_of (rL (lOfV (eIx (lVar 2) (eNeg (eC (.int 1))))) rNil)) (envPg ws b j) = .ok ((pairsV (rowV ws j)).map pkD) := lX_fresh (by rw [xCall_ap, rL_ap, hix, Out.bind_ok, rNil_ap, Out.bind_ok, Out.bind_ok]; exact hpair)
  have hcat : lCat (lX (xCall M_singles (rL (lVar 0) rNil))) (lX (xCall M_pairs_of (rL (lOfV (eIx (lVar 2) (eNeg (eC (.int 1))))) rNil))) (envPg ws b j) = .ok ((singlesV ws ++ pairsV (rowV ws j)).map pkD) := by
    unfold lCat
    rw [hx1, hx2, Out.bind_ok, Out.bind_ok, if_pos (by rw [List.length_map, List.length_map, singlesV_len, pairsV_len]; omega), List.map_append]
  have hs := sortK_pk hcat
  have happ : ∀ f : LE, sAppG 2 f (envPg ws b j) = wOut (f (envPg ws b j)) (envPg ws b j) fun d => if (rowsL ws (j + 1)).length < 1000000 then .nx [some (.bw (ws.map PyData.int)), some (.fz (.int (b : Int))), some (.og (rowsL ws (j + 1) ++ [d]))] else .stuck := fun _ => rfl
  unfold bodyPg
  rw [happ, hs, wOut_ok, if_pos (by unfold rowsL; rw [List.length_map, List.length_range]; omega)]
  have e : rowsL ws (j + 1 + 1) = rowsL ws (j + 1) ++ [(rowV ws (j + 1)).map pkD] := by
    unfold rowsL
    rw [List.range_succ (n := j + 1), List.map_append]
    rfl
  unfold envPg
  rw [e]
  rfl
theorem while_pg {ws : List Int} {b : Nat} (hn : ws.length ≤ 24) (hb : b ≤ 12) : ∀ (d j k : Nat), j + 1 + d = b → whGo condPg [] bodyPg (d + 1 + k) (envPg ws b j) = .nx (envPg ws b (b - 1))
  | 0, j, k, h => by
    have hc : condPg (envPg ws b j) = .ok false := by
      have hl : ((rowsL ws (j + 1)).map PyData.list).length = j + 1 := by unfold rowsL; rw [List.length_map, List.length_map, List.length_range]
      have : ¬ ((j + 1 : Nat) : Int) < (b : Int) := by omega
      show (Out.ok (PyData.bool (decide ((((rowsL ws (j + 1)).map PyData.list).length : Int) < (b : Int))))).bind _ = _
      rw [hl, decide_eq_false this]
      rfl
    rw [show 0 + 1 + k = k + 1 by omega]
    unfold whGo
    rw [hc, wOut_ok, show b - 1 = j by omega]
    rfl
  | d + 1, j, k, h => by
    have hc : condPg (envPg ws b j) = .ok true := by
      have hl : ((rowsL ws (j + 1)).map PyData.list).length = j + 1 := by unfold rowsL; rw [List.length_map, List.length_map, List.length_range]
      have : ((j + 1 : Nat) : Int) < (b : Int) := by omega
      show (Out.ok (PyData.bool (decide ((((rowsL ws (j + 1)).map PyData.list).length : Int) < (b : Int))))).bind _ = _
      rw [hl, decide_eq_true this]
      rfl
    rw [show d + 1 + 1 + k = (d + 1 + k) + 1 by omega]
    unfold whGo
    rw [hc, wOut_ok, if_pos rfl, body_pg hn (by omega)]
    exact while_pg hn hb d (j + 1) k (by omega)
theorem M_packet_rows_2_ok {ws : List Int} {b : Nat} (hw : ∀ w ∈ ws, 0 ≤ w ∧ w ≤ 1000000000000) (hn : ws.length ≤ 24) (h1 : 1 ≤ b) (h2 : b ≤ 12) (h3 : ws.length ≤ 2 ^ b) : M_packet_rows_2 [.bw (ws.map PyData.int), .fz (.int (b : Int))] = .ok (.gfresh (rowsL ws b)) := by
  rw [M_packet_rows_2_eq]
  unfold F_packet_rows_2
  refine runF_rt [some (.bw (ws.map PyData.int)), some (.fz (.int (b : Int))), none] rfl rfl (ρ' := envPg ws b (b - 1)) ?_
  have hm : M_need_room [.bw (ws.map PyData.int), .fz (.int (b : Int))] = .ok (.val .none) := by
    unfold M_need_room
    dsimp only
    rw [if_pos (by rw [noDict_DI]; rfl), roomBad_ok hw hn h1 h2 h3]
  have hg : g_packet_rows_2 = sSeq (sDropX (xCall M_need_room (rL (lVar 0) (rV (eVar 1) rNil)))) (sSeq (sSetG 2 (lX (xCall M_singles (rL (lVar 0) rNil)))) (sSeq (sWhile 20 condPg [] bodyPg) (sRetO 2))) := rfl
  have hsing := M_singles_ok (ws := ws) (by omega)
  have hx1 : lX (xCall M_singles (rL (lVar 0) rNil)) [some (.bw (ws.map PyData.int)), some (.fz (.int (b : Int))), none] = .ok ((singlesV ws).map pkD) := lX_fresh (by rw [xCall_ap]; exact hsing)
  rw [hg, seq_nx (ρ' := [some (.bw (ws.map PyData.int)), some (.fz (.int (b : Int))), none]) (by simp [hm])]
  rw [seq_nx (ρ' := envPg ws b 0) (by
    unfold sSetG
    rw [hx1, wOut_ok]
    rfl)]
  have hwh : sWhile 20 condPg [] bodyPg (envPg ws b 0) = .nx (envPg ws b (b - 1)) := by
    have := while_pg (ws := ws) hn h2 (b - 1) 0 (20 - b) (by omega)
    rw [show b - 1 + 1 + (20 - b) = 20 by omega] at this
    exact this
  rw [seq_nx hwh]
  unfold envPg
  rw [show b - 1 + 1 = b by omega]
  rfl

/-! law_cell: slots 0:_law_script 1:_law_k 2:_law_number -/
def g_law_cell : SE := (sSeq (sIf (bOf (eOp oLt (eVar 1) (eLenV (rVar 0)))) (sRet (eIx (lVar 0) (eVar 1))) sNext)
  (sSeq (sSet 2 (eOp oAdd (eOp oMul (eVar 1) (eC (.int 7919))) (eC (.int 5))))
  (sSeq (sIf (bOf (eOp oGt (eLenV (rVar 0)) (eC (.int 0)))) (sSet 2 (eOp oMod (eOp oAdd (eOp oMul (eIx (lVar 0) (eOp oMod (eOp oMul (eVar 1) (eC (.int 7))) (eLenV (rVar 0)))) (eC (.int 48271))) (eOp oMul (eVar 1) (eC (.int 7919)))) (eC (.int 2147483647)))) sNext)
  (sRet (eOp oMod (eOp oMul (eVar 2) (eVar 2)) (eC (.int 2147483629)))))))
def F_law_cell : FN := runF 2 3 g_law_cell
/-- the k-th cell of a script -/
def cellV (ns : List Int) (k : Int) : Int :=
  if k < ns.length then ns.getD k.toNat 0
  else
    let n := if 0 < ns.length then (ns.getD (k * 7 % ns.length).toNat 0 * 48271 + k * 7919) % 2147483647 else k * 7919 + 5
    n * n % 2147483629
def M_law_cell : FN
  | [.bw ds, .fz (.int k)] => match asInts ds with
    | some ns => if 0 ≤ k ∧ k < 1000000 then .ok (.val (.int (cellV ns k))) else .stuck
    | none => .stuck
  | _ => .stuck
theorem ok_law_cell : ∀ as : List SL, as.length = 2 → M_law_cell as ≠ .stuck → F_law_cell as = M_law_cell as := by
  intro as hl h
  clear hl
  unfold M_law_cell at h ⊢
  split at h
  · rename_i ds k
    try dsimp only
    cases ha : asInts ds with
    | none => simp [ha] at h
    | some ns =>
      try dsimp only
      by_cases hc : 0 ≤ k ∧ k < 1000000
      · rw [if_pos hc]
        obtain ⟨h0, h1⟩ := hc
        have hds := asInts_some ha
        subst hds
        by_cases hk : k < ns.length
        · have hx : eIx (lVar 0) (eVar 1) [some (.bw (ns.map PyData.int)), some (.fz (.int k)), none] = .ok (.int (ns.getD k.toNat 0)) := eIx_ok rfl rfl (atI_intsZ h0 hk)
          simp [F_law_cell, runF, g_law_cell, hk, hx, cellV]
        · have m1 : oMul (.int k) (.int 7919) = .ok (.int (k * 7919)) := oMul_r (by omega)
          by_cases hn : 0 < ns.length
          · have m2 : oMul (.int k) (.int 7) = .ok (.int (k * 7)) := oMul_r (by omega)
            have hl0 : (0 : Int) < (ns.length : Int) := by omega
            have m3 : oMod (.int (k * 7)) (.int (ns.length : Int)) = .ok (.int (k * 7 % ns.length)) := oMod_i hl0
            have m4 : atI (ns.map PyData.int) (k * 7 % ns.length) = some (.int (ns.getD (k * 7 % ns.length).toNat 0)) := atI_intsZ (Int.emod_nonneg _ (by omega)) (Int.emod_lt_of_pos _ hl0)
            have m5 : ∀ z : Int, oMul (.int z) (.int 48271) = .ok (.int (z * 48271)) := fun z => oMul_r (by omega)
            have m6 : ∀ z : Int, oMod (.int z) (.int 2147483647) = .ok (.int (z % 2147483647)) := fun z => oMod_i (by omega)
            have m7 : ∀ z : Int, oMod (.int z) (.int 2147483629) = .ok (.int (z % 2147483629)) := fun z => oMod_i (by omega)
            have m8 : ∀ z : Int, oMul (.int (z % 2147483647)) (.int (z % 2147483647)) = .ok (.int (z % 2147483647 * (z % 2147483647))) := fun z => oMul_l (by
              have := Int.emod_nonneg z (b := 2147483647) (by omega)
              have := Int.emod_lt_of_pos z (b := 2147483647) (by omega)
              omega)
            have hx : ∀ x : Option SL, eIx (lVar 0) (eOp oMod (eOp oMul (eVar 1) (eC (.int 7))) (eLenV (rVar 0))) [some (.bw (ns.map PyData.int)), some (.fz (.int k)), x] = .ok (.int (ns.getD (k * 7 % ns.length).toNat 0)) := fun x => eIx_ok rfl (by simp [m2, m3]) m4
            simp [F_law_cell, runF, g_law_cell, hk, hn, hl0, m1, hx, m5, m6, m7, m8, cellV]
          · have hn0 : ¬ (0 : Int) < (ns.length : Int) := by omega
            have m7 : ∀ z : Int, oMod (.int z) (.int 2147483629) = .ok (.int (z % 2147483629)) := fun z => oMod_i (by omega)
            have m8 : oMul (.int (k * 7919 + 5)) (.int (k * 7919 + 5)) = .ok (.int ((k * 7919 + 5) * (k * 7919 + 5))) := oMul_l (by omega)
            simp [F_law_cell, runF, g_law_cell, hk, hn, hn0, m1, m7, m8, cellV]
      · rw [ha] at h
        exact absurd (if_neg hc) h
  · exact absurd rfl h
@[simp] theorem M_law_cell_ok (ns : List Int) {k : Int} (h0 : 0 ≤ k) (h1 : k < 1000000) : M_law_cell [.bw (ns.map PyData.int), .fz (.int k)] = .ok (.val (.int (cellV ns k))) := by
  unfold M_law_cell
  dsimp only
  rw [asInts_DI]
  exact if_pos ⟨h0, h1⟩
theorem cell_pm {m x : Int} (h : 0 < m) : 1 ≤ 1 + x % m ∧ 1 + x % m ≤ m := by
  have := Int.emod_nonneg x (b := m) (by omega)
  have := Int.emod_lt_of_pos x h
  omega

/-! law_whole: slots 0:_law_found -/
def g_law_whole : SE := (sRet (eOfB (bAnd (bOf (eIsI (rVar 0) "int")) (bNot (bOf (eIsI (rVar 0) "bool"))))))
def F_law_whole : FN := runF 1 1 g_law_whole
def isWhole : PyData → Bool
  | .int _ => true
  | _ => false
def M_law_whole : FN
  | [.fz d] => if noDict d then .ok (.val (.bool (isWhole d))) else .stuck
  | _ => .stuck
theorem ok_law_whole : ∀ as : List SL, as.length = 1 → M_law_whole as ≠ .stuck → F_law_whole as = M_law_whole as := by
  intro as hl h
  clear hl
  unfold M_law_whole at h ⊢
  split at h
  · rename_i d
    try dsimp only
    by_cases hd : noDict d = true
    · have h1 : eIsI (rVar 0) "int" [some (.fz d)] = .ok (.bool (isInt d)) := eIsI_ok rfl (kit_int d (noDict_ne hd))
      have h2 : eIsI (rVar 0) "bool" [some (.fz d)] = .ok (.bool (isBool d)) := eIsI_ok rfl (kit_bool d (noDict_ne hd))
      cases d with
      | dict kvs => cases hd
      | _ => simp [F_law_whole, runF, g_law_whole, h1, h2, isInt, isBool, isWhole]
    · simp [hd] at h
  · exact absurd rfl h

/-! law_doubled: slots 0:_law_times 1:_law_found 2:_law_turn -/
def g_law_doubled : SE := (sSeq (sSet 1 (eC (.int 1)))
  (sSeq (sFor (wRange1 (eVar 0)) (tgN 2) [2] (sSet 1 (eOp oMul (eVar 1) (eC (.int 2)))))
  (sRet (eVar 1))))
def F_law_doubled : FN := runF 1 3 g_law_doubled
abbrev M_law_doubled : FN := M_doubled
theorem ok_law_doubled : ∀ as : List SL, as.length = 1 → M_law_doubled as ≠ .stuck → F_law_doubled as = M_law_doubled as := ok_doubled

/-! law_weights: slots 0:_law_script 1:_law_first 2:_law_many_here 3:_law_kind 4:_law_weights_here 5:_law_k 6:_law_cell_here 7:_law_step -/
def g_law_weights : SE := (sSeq (sSetL 4 (lLst []))
  (sSeq (sFor (wRange1 (eVar 2)) (tgN 5) [5, 6, 7] (sSeq (sSet 6 (eX (xCall M_law_cell (rL (lVar 0) (rV (eOp oAdd (eVar 1) (eVar 5)) rNil)))))
  (sSeq (sIf (bOf (eOp oEq (rVar 3) (eC (.int 0)))) (sApp 4 (eOp oMod (eVar 6) (eC (.int 4)))) sNext)
  (sSeq (sIf (bOf (eOp oEq (rVar 3) (eC (.int 1)))) (sApp 4 (eOp oMod (eVar 6) (eC (.int 100)))) sNext)
  (sSeq (sIf (bOf (eOp oEq (rVar 3) (eC (.int 2)))) (sApp 4 (eOp oMod (eVar 6) (eC (.int 1000000000001)))) sNext)
  (sSeq (sIf (bOf (eOp oEq (rVar 3) (eC (.int 3)))) (sSeq (sSet 7 (eOp oAdd (eC (.int 1)) (eOp oMod (eOp oFdiv (eX (xCall M_law_cell (rL (lVar 0) (rV (eC (.int 2)) rNil)))) (eC (.int 4))) (eC (.int 23)))))
  (sApp 4 (eOp oMul (eOp oAdd (eC (.int 1)) (eOp oMod (eVar 6) (eC (.int 3)))) (eX (xCall M_law_doubled (rV (eOp oMod (eOp oMul (eVar 5) (eVar 7)) (eOp oAdd (eVar 2) (eC (.int 1)))) rNil)))))) sNext)
  (sIf (bOf (eOp oEq (rVar 3) (eC (.int 4)))) (sApp 4 (eOp oSub (eC (.int 1000000000000)) (eOp oMod (eVar 6) (eC (.int 3))))) sNext)))))))
  (sRetO 4)))
def F_law_weights : FN := runF 4 8 g_law_weights
theorem ex_law_weights : ∃ M : FN, M = F_law_weights := ⟨_, rfl⟩
def M_law_weights : FN := ex_law_weights.choose
theorem M_law_weights_eq : M_law_weights = F_law_weights := ex_law_weights.choose_spec
theorem ok_law_weights : ∀ as : List SL, as.length = 4 → M_law_weights as ≠ .stuck → F_law_weights as = M_law_weights as := fun _ _ _ => by rw [M_law_weights_eq]
/-- the k-th weight -/
def wOf (ns : List Int) (first n kind : Int) (k : Nat) : Int :=
  let c := cellV ns (first + k)
  if kind = 0 then c % 4 else if kind = 1 then c % 100 else if kind = 2 then c % 1000000000001
  else if kind = 3 then (1 + c % 3) * 2 ^ ((k : Int) * (1 + cellV ns 2 / 4 % 23) % (n + 1)).toNat
  else 1000000000000 - c % 3
theorem wOf_ok (ns : List Int) {first n kind : Int} (k : Nat) (hn : 0 ≤ n ∧ n ≤ 24) : 0 ≤ wOf ns first n kind k ∧ wOf ns first n kind k ≤ 1000000000000 := by
  unfold wOf
  dsimp only
  generalize cellV ns (first + k) = c
  split
  · omega
  · split
    · omega
    · split
      · omega
      · split
        · have h1 : 0 ≤ c % 3 ∧ c % 3 < 3 := by omega
          have e0 := Int.emod_nonneg ((k : Int) * (1 + cellV ns 2 / 4 % 23)) (b := n + 1) (by omega)
          have e1 := Int.emod_lt_of_pos ((k : Int) * (1 + cellV ns 2 / 4 % 23)) (b := n + 1) (by omega)
          generalize ((k : Int) * (1 + cellV ns 2 / 4 % 23) % (n + 1)) = e at e0 e1
          have hp : (2 : Nat) ^ e.toNat ≤ 2 ^ 24 := Nat.pow_le_pow_right (by decide) (by omega)
          have hp2 : (2 : Int) ^ e.toNat ≤ 2 ^ 24 := by exact_mod_cast hp
          have hp3 : (0 : Int) < 2 ^ e.toNat := Int.pow_pos (by decide)
          generalize (2 : Int) ^ e.toNat = p at hp2 hp3
          have : c % 3 = 0 ∨ c % 3 = 1 ∨ c % 3 = 2 := by omega
          rcases this with h | h | h <;> rw [h] <;> omega
        · omega
abbrev bodyW : SE := (sSeq (sSet 6 (eX (xCall M_law_cell (rL (lVar 0) (rV (eOp oAdd (eVar 1) (eVar 5)) rNil)))))
  (sSeq (sIf (bOf (eOp oEq (rVar 3) (eC (.int 0)))) (sApp 4 (eOp oMod (eVar 6) (eC (.int 4)))) sNext)
  (sSeq (sIf (bOf (eOp oEq (rVar 3) (eC (.int 1)))) (sApp 4 (eOp oMod (eVar 6) (eC (.int 100)))) sNext)
  (sSeq (sIf (bOf (eOp oEq (rVar 3) (eC (.int 2)))) (sApp 4 (eOp oMod (eVar 6) (eC (.int 1000000000001)))) sNext)
  (sSeq (sIf (bOf (eOp oEq (rVar 3) (eC (.int 3)))) (sSeq (sSet 7 (eOp oAdd (eC (.int 1)) (eOp oMod (eOp oFdiv (eX (xCall M_law_cell (rL (lVar 0) (rV (eC (.int 2)) rNil)))) (eC (.int 4))) (eC (.int 23)))))
  (sApp 4 (eOp oMul (eOp oAdd (eC (.int 1)) (eOp oMod (eVar 6) (eC (.int 3)))) (eX (xCall M_law_doubled (rV (eOp oMod (eOp oMul (eVar 5) (eVar 7)) (eOp oAdd (eVar 2) (eC (.int 1)))) rNil)))))) sNext)
  (sIf (bOf (eOp oEq (rVar 3) (eC (.int 4)))) (sApp 4 (eOp oSub (eC (.int 1000000000000)) (eOp oMod (eVar 6) (eC (.int 3))))) sNext))))))
abbrev envW (ns : List Int) (first n kind : Int) (j : Nat) : Env := [some (.bw (ns.map PyData.int)), some (.fz (.int first)), some (.fz (.int n)), some (.fz (.int kind)), some (.ow (((List.range j).map (wOf ns first n kind)).map PyData.int)), none, none, none]
theorem turnW (ns : List Int) {first n kind : Int} {j : Nat} (hf : 0 ≤ first ∧ first ≤ 1000) (hn : 0 ≤ n ∧ n ≤ 24) (hk : 0 ≤ kind ∧ kind ≤ 4) (hj : j < 100) : turn (tgN 5) [5, 6, 7] bodyW (.int ((0 + j : Nat) : Int)) (envW ns first n kind j) = .nx (envW ns first n kind (j + 1)) := by
  unfold envW
  rw [List.range_succ, List.map_append, List.map_append, List.map_cons, List.map_nil, List.map_cons, List.map_nil]
  have hlen : (((List.range j).map (wOf ns first n kind)).map PyData.int).length < 1000000 := by
    rw [List.length_map, List.length_map, List.length_range]; omega
  generalize ((List.range j).map (wOf ns first n kind)).map PyData.int = acc at hlen ⊢
  rw [Nat.zero_add]
  have c1 := M_law_cell_ok ns (k := first + (j : Int)) (by omega) (by omega)
  have c2 := M_law_cell_ok ns (k := 2) (by omega) (by omega)
  have m4 : ∀ z : Int, oMod (.int z) (.int 4) = .ok (.int (z % 4)) := fun z => oMod_i (by omega)
  have m3 : ∀ z : Int, oMod (.int z) (.int 3) = .ok (.int (z % 3)) := fun z => oMod_i (by omega)
  have m23 : ∀ z : Int, oMod (.int z) (.int 23) = .ok (.int (z % 23)) := fun z => oMod_i (by omega)
  have m100 : ∀ z : Int, oMod (.int z) (.int 100) = .ok (.int (z % 100)) := fun z => oMod_i (by omega)
  have mb : ∀ z : Int, oMod (.int z) (.int 1000000000001) = .ok (.int (z % 1000000000001)) := fun z => oMod_i (by omega)
  have f4 : ∀ z : Int, oFdiv (.int z) (.int 4) = .ok (.int (z / 4)) := fun z => oFdiv_i (by omega)
  have mn : ∀ z : Int, oMod (.int z) (.int (n + 1)) = .ok (.int (z % (n + 1))) := fun z => oMod_i (by omega)
  have hkk : kind = 0 ∨ kind = 1 ∨ kind = 2 ∨ kind = 3 ∨ kind = 4 := by omega
  rcases hkk with rfl | rfl | rfl | rfl | rfl
  · simp [turn, c1, m4, sApp, hlen, wOf]
  · simp [turn, c1, m100, sApp, hlen, wOf]
  · simp [turn, c1, mb, sApp, hlen, wOf]
  · have mm : ∀ z : Int, oMul (.int (j : Int)) (.int z) = .ok (.int ((j : Int) * z)) := fun z => oMul_l (by omega)
    have e0 := Int.emod_nonneg ((j : Int) * (1 + cellV ns 2 / 4 % 23)) (b := n + 1) (by omega)
    have e1 := Int.emod_lt_of_pos ((j : Int) * (1 + cellV ns 2 / 4 % 23)) (b := n + 1) (by omega)
    have md : M_law_doubled [.fz (.int ((j : Int) * (1 + cellV ns 2 / 4 % 23) % (n + 1)))] = .ok (.val (.int (2 ^ ((j : Int) * (1 + cellV ns 2 / 4 % 23) % (n + 1)).toNat))) := by
      unfold M_law_doubled M_doubled
      dsimp only
      rw [if_pos (by omega)]
    have mp : ∀ z : Int, oMul (.int (1 + cellV ns (first + (j : Int)) % 3)) (.int z) = .ok (.int ((1 + cellV ns (first + (j : Int)) % 3) * z)) := fun z => oMul_l (by omega)
    simp [turn, c1, c2, m3, m23, f4, mn, mm, md, mp, sApp, hlen, wOf]
  · simp [turn, c1, m3, sApp, hlen, wOf]
theorem M_law_weights_ok (ns : List Int) {first kind : Int} {n : Nat} (hf : 0 ≤ first ∧ first ≤ 1000) (hn : n ≤ 24) (hk : 0 ≤ kind ∧ kind ≤ 4) : M_law_weights [.bw (ns.map PyData.int), .fz (.int first), .fz (.int (n : Int)), .fz (.int kind)] = .ok (.fresh (((List.range n).map (wOf ns first n kind)).map PyData.int)) := by
  rw [M_law_weights_eq]
  unfold F_law_weights
  refine runF_rt [some (.bw (ns.map PyData.int)), some (.fz (.int first)), some (.fz (.int (n : Int))), some (.fz (.int kind)), none, none, none, none] rfl rfl (ρ' := envW ns first n kind n) ?_
  have hs := forGo_steps (tg := tgN 5) (ws := [5, 6, 7]) (body := bodyW) n 0 (fun j => envW ns first (n : Int) kind j) (fun j hj => turnW ns hf (by omega) hk (by omega))
  have hw : wRange1 (eVar 2) (envW ns first (n : Int) kind 0) = .ok ((List.range' 0 n).map fun k => PyData.int ((k : Nat) : Int)) := by
    rw [← rng_nat 0 n]
    rw [wRange1_ok (n := (n : Int)) rfl ⟨by omega, by omega⟩]
    rfl
  have hg : g_law_weights = sSeq (sSetL 4 (lLst [])) (sSeq (sFor (wRange1 (eVar 2)) (tgN 5) [5, 6, 7] bodyW) (sRetO 4)) := rfl
  rw [hg, seq_nx (show sSetL 4 (lLst []) _ = .nx (envW ns first (n : Int) kind 0) from rfl), seq_nx ((for_of hw).trans hs)]
  rfl
theorem weights_ok (ns : List Int) (first kind : Int) {n : Nat} (hn : n ≤ 24) : ((List.range n).map (wOf ns first n kind)).length = n ∧ ∀ w ∈ (List.range n).map (wOf ns first n kind), 0 ≤ w ∧ w ≤ 1000000000000 := by
  refine ⟨by rw [List.length_map, List.length_range], fun w hw => ?_⟩
  obtain ⟨k, _, rfl⟩ := List.mem_map.mp hw
  exact wOf_ok ns k (by omega)

/-! law_least_bound: slots 0:_law_many_here 1:_law_bound_here -/
def g_law_least_bound : SE := (sSeq (sSet 1 (eC (.int 1)))
  (sSeq (sWhile 64 (bOf (eOp oLt (eX (xCall M_law_doubled (rV (eVar 1) rNil))) (eVar 0))) [] (sSet 1 (eOp oAdd (eVar 1) (eC (.int 1)))))
  (sRet (eVar 1))))
def F_law_least_bound : FN := runF 1 2 g_law_least_bound
theorem ex_law_least_bound : ∃ M : FN, M = F_law_least_bound := ⟨_, rfl⟩
def M_law_least_bound : FN := ex_law_least_bound.choose
theorem M_law_least_bound_eq : M_law_least_bound = F_law_least_bound := ex_law_least_bound.choose_spec
theorem ok_law_least_bound : ∀ as : List SL, as.length = 1 → M_law_least_bound as ≠ .stuck → F_law_least_bound as = M_law_least_bound as := fun _ _ _ => by rw [M_law_least_bound_eq]
abbrev condLB : BE := bOf (eOp oLt (eX (xCall M_law_doubled (rV (eVar 1) rNil))) (eVar 0))
abbrev bodyLB : SE := sSet 1 (eOp oAdd (eVar 1) (eC (.int 1)))
theorem lb_loop {n : Nat} (hn : n ≤ 24) : ∀ (k b : Nat), 5 ≤ b + k → 1 ≤ b → b ≤ 5 → ∃ b' : Nat, 1 ≤ b' ∧ b' ≤ 5 ∧ n ≤ 2 ^ b' ∧ whGo condLB [] bodyLB (k + 1) [some (.fz (.int (n : Int))), some (.fz (.int (b : Int)))] = .nx [some (.fz (.int (n : Int))), some (.fz (.int (b' : Int)))] := by
  intro k
  induction k with
  | zero =>
    intro b h1 h0 h2
    have : b = 5 := by omega
    subst this
    refine ⟨5, by omega, by omega, by omega, ?_⟩
    have hb : ¬ (32 : Int) < (n : Int) := by omega
    simp [whGo, M_law_doubled, M_doubled, hb]
  | succ k ih =>
    intro b h1 h0 h2
    have hd : (b : Int) ≤ 60 ∧ -1000 ≤ (b : Int) := by omega
    by_cases hb : 2 ^ b < n
    · have hb2 : (2 : Int) ^ b < (n : Int) := by exact_mod_cast hb
      have hb5 : b ≠ 5 := fun z => by subst z; omega
      obtain ⟨b', g0, g1, g2, g3⟩ := ih (b + 1) (by omega) (by omega) (by omega)
      refine ⟨b', g0, g1, g2, ?_⟩
      have e : ((b + 1 : Nat) : Int) = (b : Int) + 1 := by omega
      rw [e] at g3
      rw [← g3]
      conv => lhs; unfold whGo
      simp [M_law_doubled, M_doubled, hd, hb2]
    · have hb2 : ¬ (2 : Int) ^ b < (n : Int) := fun z => hb (by exact_mod_cast z)
      refine ⟨b, h0, h2, by omega, ?_⟩
      conv => lhs; unfold whGo
      simp [M_law_doubled, M_doubled, hd, hb2]
theorem M_law_least_bound_ok {n : Nat} (hn : n ≤ 24) : ∃ b : Nat, 1 ≤ b ∧ b ≤ 5 ∧ n ≤ 2 ^ b ∧ M_law_least_bound [.fz (.int (n : Int))] = .ok (.val (.int (b : Int))) := by
  obtain ⟨b, g0, g1, g2, g3⟩ := lb_loop hn 63 1 (by omega) (by omega) (by omega)
  refine ⟨b, g0, g1, g2, ?_⟩
  rw [M_law_least_bound_eq]
  unfold F_law_least_bound
  refine runF_rt [some (.fz (.int (n : Int))), none] rfl rfl (ρ' := [some (.fz (.int (n : Int))), some (.fz (.int (b : Int)))]) ?_
  have hg : g_law_least_bound = sSeq (sSet 1 (eC (.int 1))) (sSeq (sWhile 64 condLB [] bodyLB) (sRet (eVar 1))) := rfl
  have g4 : sWhile 64 condLB [] bodyLB [some (.fz (.int (n : Int))), some (.fz (.int ((1 : Nat) : Int)))] = .nx [some (.fz (.int (n : Int))), some (.fz (.int (b : Int)))] := g3
  rw [hg, seq_nx (show sSet 1 (eC (.int 1)) _ = .nx [some (.fz (.int (n : Int))), some (.fz (.int ((1 : Nat) : Int)))] from rfl), seq_nx g4]
  rfl

/-! law_many_3: slots 0:_law_script 1:_law_many_here -/
def g_law_many_3 : SE := (sSeq (sSet 1 (eOp oMod (eX (xCall M_law_cell (rL (lVar 0) (rV (eC (.int 0)) rNil)))) (eC (.int 9))))
  (sSeq (sIf (bOf (eOp oEq (eOp oMod (eOp oFdiv (eX (xCall M_law_cell (rL (lVar 0) (rV (eC (.int 0)) rNil)))) (eC (.int 9))) (eC (.int 8))) (eC (.int 1)))) (sSet 1 (eOp oMod (eOp oFdiv (eX (xCall M_law_cell (rL (lVar 0) (rV (eC (.int 0)) rNil)))) (eC (.int 72))) (eC (.int 25)))) sNext)
  (sRet (eVar 1))))
def F_law_many_3 : FN := runF 1 2 g_law_many_3
theorem ex_law_many_3 : ∃ M : FN, M = F_law_many_3 := ⟨_, rfl⟩
def M_law_many_3 : FN := ex_law_many_3.choose
theorem M_law_many_3_eq : M_law_many_3 = F_law_many_3 := ex_law_many_3.choose_spec
theorem ok_law_many_3 : ∀ as : List SL, as.length = 1 → M_law_many_3 as ≠ .stuck → F_law_many_3 as = M_law_many_3 as := fun _ _ _ => by rw [M_law_many_3_eq]
theorem M_law_many_3_ok (ns : List Int) : ∃ n : Nat, n ≤ 24 ∧ M_law_many_3 [.bw (ns.map PyData.int)] = .ok (.val (.int (n : Int))) := by
  have c0 := M_law_cell_ok ns (k := 0) (by omega) (by omega)
  have m9 : ∀ z : Int, oMod (.int z) (.int 9) = .ok (.int (z % 9)) := fun z => oMod_i (by omega)
  have m8 : ∀ z : Int, oMod (.int z) (.int 8) = .ok (.int (z % 8)) := fun z => oMod_i (by omega)
  have m25 : ∀ z : Int, oMod (.int z) (.int 25) = .ok (.int (z % 25)) := fun z => oMod_i (by omega)
  have f9 : ∀ z : Int, oFdiv (.int z) (.int 9) = .ok (.int (z / 9)) := fun z => oFdiv_i (by omega)
  have f72 : ∀ z : Int, oFdiv (.int z) (.int 72) = .ok (.int (z / 72)) := fun z => oFdiv_i (by omega)
  generalize cellV ns 0 = c at c0
  have key : ∃ r : Int, 0 ≤ r ∧ r ≤ 24 ∧ M_law_many_3 [.bw (ns.map PyData.int)] = .ok (.val (.int r)) := by
    rw [M_law_many_3_eq]
    by_cases h1 : c / 9 % 8 = 1
    · exact ⟨c / 72 % 25, by omega, by omega, by simp [F_law_many_3, runF, g_law_many_3, c0, m8, m9, m25, f9, f72, h1]⟩
    · exact ⟨c % 9, by omega, by omega, by simp [F_law_many_3, runF, g_law_many_3, c0, m8, m9, m25, f9, f72, h1]⟩
  obtain ⟨r, h0, h1, h2⟩ := key
  exact ⟨r.toNat, by omega, by rw [h2, show ((r.toNat : Nat) : Int) = r by omega]⟩

/-! law_bound_2: slots 0:_law_script 1:_law_many_here 2:_law_least -/
def g_law_bound_2 : SE := (sSeq (sSet 2 (eX (xCall M_law_least_bound (rV (eVar 1) rNil))))
  (sSeq (sIf (bOf (eOp oEq (eOp oMod (eOp oFdiv (eX (xCall M_law_cell (rL (lVar 0) (rV (eC (.int 1)) rNil)))) (eC (.int 4))) (eC (.int 4))) (eC (.int 1)))) (sRet (eOp oAdd (eVar 2) (eOp oMod (eOp oFdiv (eX (xCall M_law_cell (rL (lVar 0) (rV (eC (.int 1)) rNil)))) (eC (.int 16))) (eOp oSub (eC (.int 13)) (eVar 2))))) sNext)
  (sRet (eOp oAdd (eVar 2) (eOp oMod (eX (xCall M_law_cell (rL (lVar 0) (rV (eC (.int 1)) rNil)))) (eC (.int 4)))))))
def F_law_bound_2 : FN := runF 2 3 g_law_bound_2
theorem ex_law_bound_2 : ∃ M : FN, M = F_law_bound_2 := ⟨_, rfl⟩
def M_law_bound_2 : FN := ex_law_bound_2.choose
theorem M_law_bound_2_eq : M_law_bound_2 = F_law_bound_2 := ex_law_bound_2.choose_spec
theorem ok_law_bound_2 : ∀ as : List SL, as.length = 2 → M_law_bound_2 as ≠ .stuck → F_law_bound_2 as = M_law_bound_2 as := fun _ _ _ => by rw [M_law_bound_2_eq]
theorem M_law_bound_2_ok (ns : List Int) {n : Nat} (hn : n ≤ 24) : ∃ b : Nat, 1 ≤ b ∧ b ≤ 12 ∧ n ≤ 2 ^ b ∧ M_law_bound_2 [.bw (ns.map PyData.int), .fz (.int (n : Int))] = .ok (.val (.int (b : Int))) := by
  obtain ⟨l, l0, l1, l2, l3⟩ := M_law_least_bound_ok hn
  have c0 := M_law_cell_ok ns (k := 1) (by omega) (by omega)
  have m4 : ∀ z : Int, oMod (.int z) (.int 4) = .ok (.int (z % 4)) := fun z => oMod_i (by omega)
  have f4 : ∀ z : Int, oFdiv (.int z) (.int 4) = .ok (.int (z / 4)) := fun z => oFdiv_i (by omega)
  have f16 : ∀ z : Int, oFdiv (.int z) (.int 16) = .ok (.int (z / 16)) := fun z => oFdiv_i (by omega)
  have ml : ∀ z : Int, oMod (.int z) (.int (13 - (l : Int))) = .ok (.int (z % (13 - (l : Int)))) := fun z => oMod_i (by omega)
  generalize cellV ns 1 = c at c0
  have key : ∃ r : Int, (l : Int) ≤ r ∧ r ≤ 12 ∧ M_law_bound_2 [.bw (ns.map PyData.int), .fz (.int (n : Int))] = .ok (.val (.int r)) := by
    rw [M_law_bound_2_eq]
    have e0 := Int.emod_nonneg (c / 16) (b := 13 - (l : Int)) (by omega)
    have e1 := Int.emod_lt_of_pos (c / 16) (b := 13 - (l : Int)) (by omega)
    by_cases h3 : c / 4 % 4 = 1
    · exact ⟨(l : Int) + c / 16 % (13 - (l : Int)), by omega, by omega, by simp [F_law_bound_2, runF, g_law_bound_2, c0, l3, m4, f4, f16, ml, h3]⟩
    · exact ⟨(l : Int) + c % 4, by omega, by omega, by simp [F_law_bound_2, runF, g_law_bound_2, c0, l3, m4, f4, f16, ml, h3]⟩
  obtain ⟨r, h0, h1, h2⟩ := key
  refine ⟨r.toNat, by omega, by omega, ?_, by rw [h2, show ((r.toNat : Nat) : Int) = r by omega]⟩
  exact Nat.le_trans l2 (Nat.pow_le_pow_right (by decide) (by omega))

section
variable {α : Type} (key : α → Int)
/-- put behind all that are no greater -/
def insBy (l : List α) (p : α) : List α := l.filter (fun x => decide (key x ≤ key p)) ++ p :: l.filter (fun x => decide (key p < key x))
theorem ins_sort (l : List α) (p : α) : insBy key (l.mergeSort (leBy key)) p = (l ++ [p]).mergeSort (leBy key) := by
  refine (sort_is key ?_ fun v => ?_).symm
  · have hs := sort_sorted key l
    unfold insBy
    rw [List.pairwise_append]
    refine ⟨hs.filter _, List.pairwise_cons.mpr ⟨fun x hx => ?_, hs.filter _⟩, fun x hx y hy => ?_⟩
    · have := of_decide_eq_true (List.mem_filter.mp hx).2
      omega
    · have h1 := of_decide_eq_true (List.mem_filter.mp hx).2
      rcases List.mem_cons.mp hy with rfl | hy
      · exact h1
      · have h2 := of_decide_eq_true (List.mem_filter.mp hy).2
        omega
  · have hf := sort_filter key l v
    unfold insBy
    rw [List.filter_append, List.filter_cons, List.filter_append, List.filter_filter, List.filter_filter, ← hf]
    generalize l.mergeSort (leBy key) = m
    by_cases e : key p = v
    · have e1 : m.filter (fun x => decide (key x = v) && decide (key x ≤ key p)) = m.filter fun x => decide (key x = v) := List.filter_congr fun x _ => by
        by_cases h : key x = v
        · simp [h]; omega
        · simp [h]
      have e2 : m.filter (fun x => decide (key x = v) && decide (key p < key x)) = [] := by
        rw [List.filter_eq_nil_iff]
        intro x _
        rw [Bool.and_eq_true, decide_eq_true_iff, decide_eq_true_iff]
        omega
      rw [e1, e2, if_pos (decide_eq_true e), List.filter_cons, if_pos (decide_eq_true e)]
      rfl
    · rw [if_neg (by rw [decide_eq_true_iff]; exact e), List.filter_cons, if_neg (by rw [decide_eq_true_iff]; exact e), List.filter_nil, List.append_nil]
      by_cases h : v ≤ key p
      · have e1 : m.filter (fun x => decide (key x = v) && decide (key x ≤ key p)) = m.filter fun x => decide (key x = v) := List.filter_congr fun x _ => by
          by_cases h : key x = v
          · simp [h]; omega
          · simp [h]
        have e2 : m.filter (fun x => decide (key x = v) && decide (key p < key x)) = [] := by
          rw [List.filter_eq_nil_iff]
          intro x _
          rw [Bool.and_eq_true, decide_eq_true_iff, decide_eq_true_iff]
          omega
        rw [e1, e2, List.append_nil]
      · have e1 : m.filter (fun x => decide (key x = v) && decide (key x ≤ key p)) = [] := by
          rw [List.filter_eq_nil_iff]
          intro x _
          rw [Bool.and_eq_true, decide_eq_true_iff, decide_eq_true_iff]
          omega
        have e2 : m.filter (fun x => decide (key x = v) && decide (key p < key x)) = m.filter fun x => decide (key x = v) := List.filter_congr fun x _ => by
          by_cases h : key x = v
          · simp [h]; omega
          · simp [h]
        rw [e1, e2, List.nil_append]
theorem ins_sorts : ∀ (ps l : List α), ps.foldl (insBy key) (l.mergeSort (leBy key)) = (l ++ ps).mergeSort (leBy key)
  | [], l => by rw [List.append_nil]; rfl
  | p :: ps, l => by
    rw [List.foldl_cons, ins_sort, ins_sorts ps (l ++ [p]), List.append_assoc]
    rfl
end

/-! law_put: slots 0:_law_row_here 1:_law_packet 2:_law_at -/
def g_law_put : SE := (sSeq (sSet 2 (eLenV (rVar 0)))
  (sSeq (sWhile 1000 (bAnd (bOf (eOp oGt (eVar 2) (eC (.int 0)))) (bOf (eOp oGt (eIxT (eIx (lVar 0) (eOp oSub (eVar 2) (eC (.int 1)))) (eC (.int 0))) (eIxT (eVar 1) (eC (.int 0)))))) [] (sSet 2 (eOp oSub (eVar 2) (eC (.int 1)))))
  (sInsM 0 (eVar 2) (eVar 1))))
def F_law_put : FM := runM 2 3 g_law_put
theorem ex_law_put : ∃ M : FM, M = F_law_put := ⟨_, rfl⟩
def M_law_put : FM := ex_law_put.choose
theorem M_law_put_eq : M_law_put = F_law_put := ex_law_put.choose_spec
theorem ok_law_put : ∀ ds as es, M_law_put ds as = some es → F_law_put ds as = some es := fun _ _ _ h => by rw [← M_law_put_eq]; exact h
abbrev envPt (l : List Pk) (p : Pk) (k : Nat) : Env := [some (.mw (l.map pkD)), some (.fz (pkD p)), some (.fz (.int (k : Int)))]
def condPt : BE := (bAnd (bOf (eOp oGt (eVar 2) (eC (.int 0)))) (bOf (eOp oGt (eIxT (eIx (lVar 0) (eOp oSub (eVar 2) (eC (.int 1)))) (eC (.int 0))) (eIxT (eVar 1) (eC (.int 0))))))
def bodyPt : SE := (sSet 2 (eOp oSub (eVar 2) (eC (.int 1))))
theorem cond_0 {l : List Pk} {p : Pk} : condPt (envPt l p 0) = .ok false := by
  unfold condPt
  rw [bAnd_ap, bOf_ap, eOp_ap]
  rfl
theorem cond_s {l : List Pk} {p q : Pk} {k : Nat} (h : l[k]? = some q) : condPt (envPt l p (k + 1)) = .ok (decide (p.1 < q.1)) := by
  have hat : atI (l.map pkD) (k : Int) = some (pkD q) := atI_nat (by rw [List.getElem?_map, h]; rfl)
  have hx : eIx (lVar 0) (eOp oSub (eVar 2) (eC (.int 1))) (envPt l p (k + 1)) = .ok (pkD q) := eIx_ok (ds := l.map pkD) rfl (show Out.ok (PyData.int (((k + 1 : Nat) : Int) - 1)) = .ok (.int (k : Int)) by rw [show ((k + 1 : Nat) : Int) - 1 = (k : Int) by omega]) hat
  have h1 : eIxT (eIx (lVar 0) (eOp oSub (eVar 2) (eC (.int 1)))) (eC (.int 0)) (envPt l p (k + 1)) = .ok (.int q.1) := eIxT_ok (ds := [.int q.1, .tuple (q.2.map PyData.int)]) hx rfl rfl
  have h2 : eIxT (eVar 1) (eC (.int 0)) (envPt l p (k + 1)) = .ok (.int p.1) := eIxT_ok (ds := [.int p.1, .tuple (p.2.map PyData.int)]) rfl rfl rfl
  have hk : (0 : Int) < ((k + 1 : Nat) : Int) := by omega
  unfold condPt
  rw [bAnd_ap, bOf_ap, eOp_ap, show eVar 2 (envPt l p (k + 1)) = .ok (.int ((k + 1 : Nat) : Int)) from rfl, Out.bind_ok, eC_ap, Out.bind_ok, oGt_i, decide_eq_true hk, Out.bind_ok, Out.bind_ok, if_pos rfl, bOf_ap, eOp_ap, h1, Out.bind_ok, h2, Out.bind_ok, oGt_i, Out.bind_ok]
theorem put_while {A B : List Pk} {p : Pk} (hA : ∀ q ∈ A, q.1 ≤ p.1) (hB : ∀ q ∈ B, p.1 < q.1) : ∀ (m n : Nat), m ≤ B.length → whGo condPt [] bodyPt (m + 1 + n) (envPt (A ++ B) p (A.length + m)) = .nx (envPt (A ++ B) p A.length)
  | 0, n, _ => by
    have hc : condPt (envPt (A ++ B) p (A.length + 0)) = .ok false := by
      rw [Nat.add_zero]
      cases hl : A.length with
      | zero => exact cond_0
      | succ k =>
        have hk : k < A.length := by omega
        rw [cond_s (q := A[k]) (by rw [List.getElem?_append_left hk, List.getElem?_eq_getElem hk])]
        have := hA A[k] (List.getElem_mem hk)
        rw [decide_eq_false (by omega)]
    rw [show 0 + 1 + n = n + 1 by omega]
    unfold whGo
    rw [hc, wOut_ok]
    rfl
  | m + 1, n, h => by
    have hm : m < B.length := by omega
    have hc : condPt (envPt (A ++ B) p (A.length + (m + 1))) = .ok true := by
      rw [show A.length + (m + 1) = A.length + m + 1 by omega]
      rw [cond_s (q := B[m]) (by rw [List.getElem?_append_right (by omega), show A.length + m - A.length = m by omega, List.getElem?_eq_getElem hm])]
      rw [decide_eq_true (hB B[m] (List.getElem_mem hm))]
    have hb : bodyPt (envPt (A ++ B) p (A.length + (m + 1))) = .nx (envPt (A ++ B) p (A.length + m)) := by
      unfold bodyPt
      rw [sSet_ap, eOp_ap]
      show wOut (Out.ok (PyData.int (((A.length + (m + 1) : Nat) : Int) - 1))) _ _ = _
      rw [show ((A.length + (m + 1) : Nat) : Int) - 1 = ((A.length + m : Nat) : Int) by omega, wOut_ok]
      rfl
    rw [show m + 1 + 1 + n = (m + 1 + n) + 1 by omega]
    unfold whGo
    rw [hc, wOut_ok, if_pos rfl, hb]
    exact put_while hA hB m n (by omega)
theorem sorted_split (k : Int) : ∀ (l : List Pk), l.Pairwise (fun a b => pkW a ≤ pkW b) → l = l.filter (fun x => decide (pkW x ≤ k)) ++ l.filter (fun x => decide (k < pkW x))
  | [], _ => rfl
  | x :: r, h => by
    have hp := List.pairwise_cons.mp h
    have ih := sorted_split k r hp.2
    by_cases hx : pkW x ≤ k
    · rw [List.filter_cons, if_pos (decide_eq_true hx), List.filter_cons, if_neg (by rw [decide_eq_true_iff]; omega), List.cons_append, ← ih]
    · have e1 : r.filter (fun x => decide (pkW x ≤ k)) = [] := by
        rw [List.filter_eq_nil_iff]
        intro y hy
        have := hp.1 y hy
        rw [decide_eq_true_iff]
        omega
      rw [e1, List.nil_append] at ih
      rw [List.filter_cons, if_neg (by rw [decide_eq_true_iff]; exact hx), e1, List.nil_append, List.filter_cons, if_pos (by rw [decide_eq_true_iff]; omega), ← ih]
theorem M_law_put_ok {l : List Pk} {p : Pk} (hs : l.Pairwise fun a b => pkW a ≤ pkW b) (hl : l.length ≤ 900) : M_law_put (l.map pkD) [.fz (pkD p)] = some ((insBy pkW l p).map pkD) := by
  have hsp := sorted_split (pkW p) l hs
  have hA : ∀ q ∈ l.filter (fun x => decide (pkW x ≤ pkW p)), q.1 ≤ p.1 := fun q hq => of_decide_eq_true (List.mem_filter.mp hq).2
  have hB : ∀ q ∈ l.filter (fun x => decide (pkW p < pkW x)), p.1 < q.1 := fun q hq => of_decide_eq_true (List.mem_filter.mp hq).2
  unfold insBy
  generalize l.filter (fun x => decide (pkW x ≤ pkW p)) = A at *
  generalize l.filter (fun x => decide (pkW p < pkW x)) = B at *
  clear hs
  subst hsp
  rw [List.length_append] at hl
  have hw := put_while hA hB B.length (999 - B.length) (Nat.le_refl _)
  rw [show B.length + 1 + (999 - B.length) = 1000 by omega] at hw
  have key : g_law_put [some (.mw ((A ++ B).map pkD)), some (.fz (pkD p)), none] = .nx [some (.mw ((A ++ p :: B).map pkD)), some (.fz (pkD p)), some (.fz (.int (A.length : Int)))] := by
    have hg : g_law_put = sSeq (sSet 2 (eLenV (rVar 0))) (sSeq (sWhile 1000 condPt [] bodyPt) (sInsM 0 (eVar 2) (eVar 1))) := rfl
    rw [hg, seq_nx (ρ' := envPt (A ++ B) p (A.length + B.length)) (by
      rw [sSet_ap, eLenV_ap]
      show wOut (lenOf (.list ((A ++ B).map pkD))) _ _ = _
      rw [lenOf_l, List.length_map, List.length_append, wOut_ok]
      rfl), seq_nx (show sWhile 1000 condPt [] bodyPt _ = _ from hw)]
    unfold sInsM
    show (if 0 ≤ (A.length : Int) ∧ (A.length : Int) ≤ (((A ++ B).map pkD).length : Int) ∧ ((A ++ B).map pkD).length < 1000000 then SO.nx _ else _) = _
    rw [if_pos ⟨by omega, by rw [List.length_map, List.length_append]; omega, by rw [List.length_map, List.length_append]; omega⟩]
    rw [show ((A.length : Int)).toNat = A.length by omega]
    have e : ((A ++ B).map pkD).take A.length ++ pkD p :: ((A ++ B).map pkD).drop A.length = (A ++ p :: B).map pkD := by
      rw [List.map_append, List.take_left' (by rw [List.length_map]), List.drop_left' (by rw [List.length_map]), List.map_append, List.map_cons]
    rw [e]
    rfl
  rw [M_law_put_eq]
  unfold F_law_put runM
  rw [if_pos (show [SL.fz (pkD p)].length + 1 = 2 from rfl)]
  show (match g_law_put [some (.mw ((A ++ B).map pkD)), some (.fz (pkD p)), none] with
    | .nx (some (.mw es) :: _) => some es
    | _ => none) = _
  rw [key]

def sigs (ps : List Pk) : List Int := ps.flatMap (·.2)
def wts (ps : List Pk) : Int := (ps.map pkW).sum
theorem sigs_app (a b : List Pk) : sigs (a ++ b) = sigs a ++ sigs b := by unfold sigs; rw [List.flatMap_append]
theorem wts_app (a b : List Pk) : wts (a ++ b) = wts a + wts b := by unfold wts; rw [List.map_append, List.sum_append]
theorem sigs_perm {a b : List Pk} (h : a.Perm b) : (sigs a).Perm (sigs b) := h.flatMap_right _
theorem sum_perm {a b : List Int} (h : a.Perm b) : a.sum = b.sum := by
  induction h with
  | nil => rfl
  | cons x _ ih => rw [List.sum_cons, List.sum_cons, ih]
  | swap x y l => rw [List.sum_cons, List.sum_cons, List.sum_cons, List.sum_cons]; omega
  | trans _ _ i1 i2 => rw [i1, i2]
theorem wts_perm {a b : List Pk} (h : a.Perm b) : wts a = wts b := sum_perm (h.map _)
theorem pairs_sig : ∀ (r : List Pk) (q : Nat), 2 * q ≤ r.length → (sigs ((pairsV r).take q)).Perm (sigs (r.take (2 * q))) ∧ wts ((pairsV r).take q) = wts (r.take (2 * q))
  | _, 0, _ => ⟨by simp [sigs], by simp [wts]⟩
  | [], q + 1, h => by simp at h
  | [x], q + 1, h => by simp at h; omega
  | a :: b :: r, q + 1, h => by
    obtain ⟨i1, i2⟩ := pairs_sig r q (by simp at h; omega)
    have e : 2 * (q + 1) = 2 * q + 1 + 1 := by omega
    rw [e, List.take_succ_cons, List.take_succ_cons]
    show (sigs (((a.1 + b.1, (a.2 ++ b.2).mergeSort leI) : Pk) :: (pairsV r).take q)).Perm _ ∧ wts (((a.1 + b.1, (a.2 ++ b.2).mergeSort leI) : Pk) :: (pairsV r).take q) = _
    constructor
    · show ((a.2 ++ b.2).mergeSort leI ++ sigs ((pairsV r).take q)).Perm (a.2 ++ (b.2 ++ sigs (r.take (2 * q))))
      rw [← List.append_assoc]
      exact (List.mergeSort_perm _ _).append i1
    · show (a.1 + b.1) + wts ((pairsV r).take q) = a.1 + (b.1 + wts (r.take (2 * q)))
      rw [i2]
      omega
theorem pairs_get : ∀ (r : List Pk) (q : Nat) (y : Pk), (pairsV r)[q]? = some y → ∃ a b, r[2 * q]? = some a ∧ r[2 * q + 1]? = some b ∧ y.1 = a.1 + b.1
  | [], q, y, h => by simp [pairsV] at h
  | [x], q, y, h => by simp [pairsV] at h
  | a :: b :: r, 0, y, h => by
    have : y = (a.1 + b.1, (a.2 ++ b.2).mergeSort leI) := by simpa [pairsV] using h.symm
    subst this
    exact ⟨a, b, rfl, rfl, rfl⟩
  | a :: b :: r, q + 1, y, h => by
    obtain ⟨x, z, h1, h2, h3⟩ := pairs_get r q y (by simpa [pairsV] using h)
    exact ⟨x, z, by rw [show 2 * (q + 1) = 2 * q + 1 + 1 by omega]; simpa using h1, by rw [show 2 * (q + 1) + 1 = 2 * q + 1 + 1 + 1 by omega]; simpa using h2, h3⟩
/-- all weights are no less than nought -/
def Nn (ps : List Pk) : Prop := ∀ p ∈ ps, 0 ≤ p.1
theorem pairs_nn {r : List Pk} (h : Nn r) : Nn (pairsV r) := fun p hp => by
  obtain ⟨q, hq⟩ := List.getElem?_of_mem hp
  obtain ⟨a, b, h1, h2, h3⟩ := pairs_get r q p hq
  have := h a (List.mem_of_getElem? h1)
  have := h b (List.mem_of_getElem? h2)
  omega
theorem signs_nn : ∀ (k : Nat) (ws : List Int), (∀ w ∈ ws, 0 ≤ w) → Nn (signsV k ws)
  | _, [], _ => fun p hp => nomatch hp
  | k, w :: r, h => fun p hp => by
    rcases List.mem_cons.mp hp with rfl | hp
    · exact h w List.mem_cons_self
    · exact signs_nn (k + 1) r (fun x hx => h x (List.mem_cons_of_mem _ hx)) p hp
theorem singles_nn {ws : List Int} (h : ∀ w ∈ ws, 0 ≤ w) : Nn (singlesV ws) := fun p hp => signs_nn 0 ws h p ((List.mergeSort_perm _ _).mem_iff.mp hp)
theorem row_nn {ws : List Int} (h : ∀ w ∈ ws, 0 ≤ w) : ∀ j, Nn (rowV ws j)
  | 0 => singles_nn h
  | j + 1 => fun p hp => by
    rcases List.mem_append.mp ((List.mergeSort_perm _ _).mem_iff.mp hp) with hp | hp
    · exact singles_nn h p hp
    · exact pairs_nn (row_nn h j) p hp
/-- an item of the first 2q stands in one of the first q pairs, which is no lighter -/
theorem pairs_mem {r : List Pk} (hr : Nn r) {q : Nat} (hq : 2 * q ≤ r.length) {x : Pk} (hx : x ∈ r.take (2 * q)) : ∃ (j : Nat) (y : Pk), j < q ∧ (pairsV r)[j]? = some y ∧ x.1 ≤ y.1 := by
  obtain ⟨i, hi⟩ := List.getElem?_of_mem hx
  have hlt : i < 2 * q := by
    have := (List.getElem?_eq_some_iff.mp hi).1
    rw [List.length_take] at this
    omega
  rw [List.getElem?_take_of_lt hlt] at hi
  have hj : i / 2 < (pairsV r).length := by rw [pairsV_len]; omega
  obtain ⟨a, b, h1, h2, h3⟩ := pairs_get r (i / 2) _ (List.getElem?_eq_getElem hj)
  have ha := hr a (List.mem_of_getElem? h1)
  have hb := hr b (List.mem_of_getElem? h2)
  refine ⟨i / 2, _, by omega, List.getElem?_eq_getElem hj, ?_⟩
  rw [h3]
  by_cases e : i = 2 * (i / 2)
  · rw [← e, hi] at h1
    cases h1
    omega
  · have e2 : i = 2 * (i / 2) + 1 := by omega
    rw [← e2, hi] at h2
    cases h2
    omega
/-- the worth of the singles taken, top row first -/
def valS : List Nat → Nat
  | [] => 0
  | s :: r => s * 2 ^ r.length + valS r
theorem row_split {ws : List Int} (hw : ∀ w ∈ ws, 0 ≤ w) : ∀ (j m : Nat), m ≤ (rowV ws j).length → ∃ ss : List Nat, ss.length = j + 1 ∧ valS ss = m * 2 ^ j ∧ ss.Pairwise (· ≥ ·) ∧ (∀ s ∈ ss, s ≤ ws.length)
    ∧ (sigs ((rowV ws j).take m)).Perm (ss.flatMap fun s => sigs ((singlesV ws).take s)) ∧ wts ((rowV ws j).take m) = (ss.map fun s => wts ((singlesV ws).take s)).sum
    ∧ (∀ s ∈ ss.head?, ∀ x ∈ (singlesV ws).take s, x ∈ (rowV ws j).take m)
    ∧ (∀ s ∈ ss.head?, ∀ j', j = j' + 1 → ∃ q, s + q = m ∧ 2 * q ≤ (rowV ws j').length ∧ (∀ i k x y, k < q → (singlesV ws)[i]? = some x → (pairsV (rowV ws j'))[k]? = some y → x.1 ≤ y.1 → i < s))
  | 0, m, h => by
    have hl := singlesV_len ws
    refine ⟨[m], rfl, by simp [valS], by simp, fun s hs => ?_, by simp [rowV], by simp [rowV], fun s hs x hx => ?_, fun s hs j' e => by omega⟩
    · rw [List.mem_singleton.mp hs]
      have : m ≤ (singlesV ws).length := h
      omega
    · have : m = s := by simpa using hs
      subst this
      exact hx
  | j + 1, m, h => by
    have hl := singlesV_len ws
    have hpl := pairsV_len (rowV ws j)
    have hps := (pairsV_sorted _ (rowV_sorted ws j)).1
    rw [rowV_mrg] at h ⊢
    rw [(mrg_perm pkW _ _).length_eq, List.length_append] at h
    obtain ⟨s, q, e1, e2, e3, e4, e5, e6⟩ := mrg_take pkW (singlesV ws) (pairsV (rowV ws j)) (singlesV_sorted ws) hps m h
    have hq : 2 * q ≤ (rowV ws j).length := by omega
    obtain ⟨ss, f1, f2, f3, f4, f5, f6, f7, f8⟩ := row_split hw j (2 * q) hq
    obtain ⟨s', r, rfl⟩ : ∃ s' r, ss = s' :: r := by
      cases ss with
      | nil => simp at f1
      | cons a r => exact ⟨a, r, rfl⟩
    have hss : s' ≤ s := by
      cases hs' : s' with
      | zero => exact Nat.zero_le _
      | succ t =>
        have ht : t < (singlesV ws).length := by
          have := f4 s' List.mem_cons_self
          omega
        have hx : (singlesV ws)[t] ∈ (singlesV ws).take s' := by
          refine List.mem_of_getElem? (i := t) ?_
          rw [List.getElem?_take_of_lt (by omega), List.getElem?_eq_getElem ht]
        have hx2 := f7 s' (by simp) _ hx
        obtain ⟨k, y, k1, k2, k3⟩ := pairs_mem (row_nn hw j) hq hx2
        exact e5 t k _ y k1 (List.getElem?_eq_getElem ht) k2 k3
    obtain ⟨p1, p2⟩ := pairs_sig (rowV ws j) q hq
    refine ⟨s :: s' :: r, by simp at f1 ⊢; omega, ?_, ?_, fun x hx => ?_, ?_, ?_, fun x hx y hy => ?_, fun x hx j' e => ?_⟩
    · show s * 2 ^ (s' :: r).length + valS (s' :: r) = m * 2 ^ (j + 1)
      rw [f2, f1, ← e1, Nat.add_mul, Nat.pow_succ]
      congr 1
      rw [Nat.mul_comm 2 q, Nat.mul_assoc, Nat.mul_comm 2]
    · refine List.pairwise_cons.mpr ⟨fun x hx => ?_, f3⟩
      rcases List.mem_cons.mp hx with rfl | hx
      · exact hss
      · have := (List.pairwise_cons.mp f3).1 x hx
        omega
    · rcases List.mem_cons.mp hx with rfl | hx
      · omega
      · exact f4 x hx
    · refine (sigs_perm e4).trans ?_
      rw [sigs_app]
      show (sigs ((singlesV ws).take s) ++ sigs ((pairsV (rowV ws j)).take q)).Perm (sigs ((singlesV ws).take s) ++ (s' :: r).flatMap fun s => sigs ((singlesV ws).take s))
      exact (List.Perm.refl _).append (p1.trans f5)
    · rw [wts_perm e4, wts_app, p2, f6]
      rfl
    · have : s = x := by simpa using hx
      subst this
      exact e4.mem_iff.mpr (List.mem_append_left _ hy)
    · have : s = x := by simpa using hx
      subst this
      have : j = j' := by omega
      subst this
      exact ⟨q, e1, hq, fun i k x y h1 h2 h3 h4 => e5 i k x y h1 h2 h3 h4⟩

/-- each of 0 .. n - 1, as often as it stands in l -/
def cntL (l : List Int) (n : Nat) : List Int := (List.range n).flatMap fun (s : Nat) => List.replicate (l.count (s : Int)) (s : Int)
theorem cnt_filter (l : List Int) (v : Int) : ∀ n : Nat, (cntL l n).filter (fun x => decide (x = v)) = if 0 ≤ v ∧ v < (n : Int) then List.replicate (l.count v) v else []
  | 0 => by
    rw [if_neg (by omega)]
    rfl
  | n + 1 => by
    have ih := cnt_filter l v n
    unfold cntL at ih ⊢
    rw [List.range_succ, List.flatMap_append, List.filter_append, ih]
    show _ ++ (List.replicate (l.count (n : Int)) (n : Int) ++ []).filter _ = _
    rw [List.append_nil]
    by_cases e : v = (n : Int)
    · subst e
      rw [if_neg (by omega), if_pos (by omega), List.nil_append, List.filter_replicate, if_pos (decide_eq_true rfl)]
    · have hd : ¬ decide ((n : Int) = v) = true := by rw [decide_eq_true_iff]; omega
      rw [List.filter_replicate, if_neg (c := decide ((n : Int) = v) = true) hd, List.append_nil]
      by_cases c : 0 ≤ v ∧ v < (n : Int)
      · rw [if_pos c, if_pos (by omega)]
      · rw [if_neg c, if_neg (by omega)]
theorem cnt_sort {l : List Int} {n : Nat} (h : ∀ x ∈ l, 0 ≤ x ∧ x < (n : Int)) : l.mergeSort (leBy id) = cntL l n := by
  refine sort_is id ?_ fun v => ?_
  · unfold cntL
    rw [List.pairwise_flatMap]
    refine ⟨fun s _ => List.pairwise_replicate.mpr (.inr (Int.le_refl _)), List.pairwise_lt_range.imp fun {a b} hab x hx y hy => ?_⟩
    rw [List.eq_of_mem_replicate hx, List.eq_of_mem_replicate hy]
    show (a : Int) ≤ (b : Int)
    omega
  · show (cntL l n).filter (fun x => decide (x = v)) = l.filter fun x => decide (x = v)
    rw [cnt_filter]
    have hb : l.filter (fun x => decide (x = v)) = List.replicate (l.count v) v := by
      have := List.filter_eq (l := l) v
      rw [← this]
    rw [hb]
    by_cases c : 0 ≤ v ∧ v < (n : Int)
    · rw [if_pos c]
    · rw [if_neg c]
      have : l.count v = 0 := List.count_eq_zero.mpr fun z => c (h v z)
      rw [this]
      rfl

/-- how often each sign of a run is parted -/
def partV (ws : List Int) : Nat → Nat → Nat → List Int
  | 0, _, _ => [0]
  | d + 1, f, l => if l - f = 1 then [0] else match leastB (tval ws d) f l with
    | some b => (partV ws d f b.2 ++ partV ws d b.2 l).map (1 + ·)
    | none => []
/-- the parts of a run -/
theorem part_mid {ws : List Int} {d f l : Nat} (h : 2 ≤ l - f) (h2 : l - f ≤ 2 ^ (d + 1)) : ∃ a m, leastB (tval ws d) f l = some (a, m) ∧ f < m ∧ m < l ∧ m - f ≤ 2 ^ d ∧ l - m ≤ 2 ^ d ∧ tval ws (d + 1) f l = some (runW ws f l + a) ∧ psum (tval ws d) f m l = some a
    ∧ partV ws (d + 1) f l = (partV ws d f m ++ partV ws d m l).map (1 + ·) := by
  obtain ⟨a, m, e, h3, h4, h5⟩ := leastB_some (ws := ws) h h2
  obtain ⟨_, h6, _⟩ := (leastB_best (tval ws d) f l).yes a m e
  have q1 : tval ws d f m ≠ none := fun z => by unfold psum at h6; rw [z] at h6; cases h6
  have q2 : tval ws d m l ≠ none := fun z => by
    have : psum (tval ws d) f m l = none := by
      unfold psum
      rw [z]
      cases tval ws d f m <;> rfl
    rw [this] at h6
    cases h6
  refine ⟨a, m, e, h3, h4, (tval_some ws d f m h3).mp q1, (tval_some ws d m l h4).mp q2, h5, h6, ?_⟩
  conv => lhs; unfold partV
  rw [if_neg (by omega), e]
theorem partV_one (ws : List Int) {d f l : Nat} (h : l - f = 1) : partV ws d f l = [0] := by
  cases d with
  | zero => rfl
  | succ d => unfold partV; rw [if_pos h]
theorem partV_len (ws : List Int) : ∀ (d f l : Nat), f < l → l - f ≤ 2 ^ d → (partV ws d f l).length = l - f
  | 0, f, l, h, h2 => by
    have : l - f = 1 := by omega
    rw [partV_one ws this, this]
    rfl
  | d + 1, f, l, h, h2 => by
    by_cases h1 : l - f = 1
    · rw [partV_one ws h1, h1]
      rfl
    · obtain ⟨a, m, e, h3, h4, h5, h6, h7, h8, h9⟩ := part_mid (ws := ws) (d := d) (f := f) (l := l) (by omega) h2
      rw [h9, List.length_map, List.length_append, partV_len ws d f m h3 h5, partV_len ws d m l h4 h6]
      omega
theorem partV_le (ws : List Int) : ∀ (d f l : Nat), f < l → l - f ≤ 2 ^ d → ∀ x ∈ partV ws d f l, 0 ≤ x ∧ x ≤ d ∧ (2 ≤ l - f → 1 ≤ x)
  | 0, f, l, h, h2 => by
    have : l - f = 1 := by omega
    rw [partV_one ws this]
    intro x hx
    rw [List.mem_singleton.mp hx]
    omega
  | d + 1, f, l, h, h2 => by
    by_cases h1 : l - f = 1
    · rw [partV_one ws h1]
      intro x hx
      rw [List.mem_singleton.mp hx]
      omega
    · obtain ⟨a, m, e, h3, h4, h5, h6, h7, h8, h9⟩ := part_mid (ws := ws) (d := d) (f := f) (l := l) (by omega) h2
      rw [h9]
      intro x hx
      obtain ⟨y, hy, rfl⟩ := List.mem_map.mp hx
      rcases List.mem_append.mp hy with hy | hy
      · have := partV_le ws d f m h3 h5 y hy
        omega
      · have := partV_le ws d m l h4 h6 y hy
        omega
/-- the weighted sum of a run -/
def wsum (ws : List Int) : Nat → List Int → Int
  | _, [] => 0
  | f, x :: r => ws.getD f 0 * x + wsum ws (f + 1) r
theorem wsum_append (ws : List Int) : ∀ (xs ys : List Int) (f : Nat), wsum ws f (xs ++ ys) = wsum ws f xs + wsum ws (f + xs.length) ys
  | [], ys, f => by
    rw [List.nil_append, List.length_nil, Nat.add_zero]
    show _ = 0 + _
    omega
  | x :: r, ys, f => by
    rw [List.cons_append]
    show ws.getD f 0 * x + wsum ws (f + 1) (r ++ ys) = ws.getD f 0 * x + wsum ws (f + 1) r + _
    rw [wsum_append ws r ys (f + 1), List.length_cons, show f + 1 + r.length = f + (r.length + 1) by omega]
    omega
theorem runW_s (ws : List Int) (f l : Nat) (h : f < l) (hl : l ≤ ws.length) : runW ws f l = ws.getD f 0 + runW ws (f + 1) l := by
  unfold runW
  obtain ⟨k, hk⟩ : ∃ k, l - f = k + 1 := ⟨l - f - 1, by omega⟩
  have hk2 : l - (f + 1) = k := by omega
  rw [hk, hk2, List.drop_eq_getElem_cons (by omega : f < ws.length), List.take_succ_cons, List.sum_cons, List.getD_eq_getElem?_getD, List.getElem?_eq_getElem (by omega : f < ws.length)]
  rfl
theorem wsum_one (ws : List Int) : ∀ (xs : List Int) (f : Nat), f + xs.length ≤ ws.length → wsum ws f (xs.map (1 + ·)) = runW ws f (f + xs.length) + wsum ws f xs
  | [], f, _ => by
    show (0 : Int) = runW ws f (f + 0) + 0
    unfold runW
    rw [Nat.add_zero, Nat.sub_self, List.take_zero]
    rfl
  | x :: r, f, h => by
    rw [List.length_cons] at h
    rw [List.map_cons, List.length_cons]
    show ws.getD f 0 * (1 + x) + wsum ws (f + 1) (r.map (1 + ·)) = _ + (ws.getD f 0 * x + wsum ws (f + 1) r)
    rw [wsum_one ws r (f + 1) (by omega), runW_s ws f _ (by omega) (by omega), Int.mul_add, Int.mul_one, show f + 1 + r.length = f + (r.length + 1) by omega]
    omega
theorem tval_wsum (ws : List Int) : ∀ (d f l : Nat), f < l → l ≤ ws.length → l - f ≤ 2 ^ d → tval ws d f l = some (wsum ws f (partV ws d f l))
  | 0, f, l, h, hl, h2 => by
    have : l - f = 1 := by omega
    rw [partV_one ws this]
    unfold tval
    rw [if_pos this]
    show some 0 = some (ws.getD f 0 * 0 + 0)
    rw [Int.mul_zero]
    rfl
  | d + 1, f, l, h, hl, h2 => by
    by_cases h1 : l - f = 1
    · rw [partV_one ws h1]
      unfold tval
      rw [if_pos h1]
      show some 0 = some (ws.getD f 0 * 0 + 0)
      rw [Int.mul_zero]
      rfl
    · obtain ⟨a, m, e, h3, h4, h5, h6, h7, h8, h9⟩ := part_mid (ws := ws) (d := d) (f := f) (l := l) (by omega) h2
      have i1 := tval_wsum ws d f m h3 (by omega) h5
      have i2 := tval_wsum ws d m l h4 hl h6
      have l1 := partV_len ws d f m h3 h5
      have l2 := partV_len ws d m l h4 h6
      unfold psum at h8
      rw [i1, i2] at h8
      cases h8
      have hlen : (partV ws d f m ++ partV ws d m l).length = l - f := by rw [List.length_append, l1, l2]; omega
      rw [h7, h9, wsum_one ws _ f (by rw [hlen]; omega), hlen, show f + (l - f) = l by omega, wsum_append, l1, show f + (m - f) = m by omega]
theorem wsum_range (ws : List Int) : ∀ (xs : List Int) (f : Nat), ((List.range xs.length).map fun k => ws.getD (f + k) 0 * xs.getD k 0).sum = wsum ws f xs
  | [], f => rfl
  | x :: r, f => by
    rw [List.length_cons, List.range_succ_eq_map, List.map_cons, List.sum_cons, List.map_map]
    show ws.getD (f + 0) 0 * x + _ = ws.getD f 0 * x + wsum ws (f + 1) r
    rw [← wsum_range ws r (f + 1)]
    congr 1
    congr 1
    refine List.map_congr_left fun k _ => ?_
    show ws.getD (f + (k + 1)) 0 * (x :: r).getD (k + 1) 0 = ws.getD (f + 1 + k) 0 * r.getD k 0
    rw [show f + (k + 1) = f + 1 + k by omega]
    rfl

/-! parted: slots 0:table 1:first 2:last 3:depth 4:middle 5:both 6:times -/
def g_parted (self_ : FN) : SE := (sSeq (sIf (bOf (eOp oEq (eOp oSub (eVar 2) (eVar 1)) (eC (.int 1)))) (sRetL (lLst [(eC (.int 0))])) sNext)
  (sSeq (sSet 4 (eIxT (eX (xCall M_least_parts (rD 0 (rV (eVar 1) (rV (eVar 2) (rV (eOp oSub (eVar 3) (eC (.int 1))) rNil)))))) (eC (.int 1))))
  (sSeq (sSetL 5 (lCat (lX (xCall self_ (rD 0 (rV (eVar 1) (rV (eVar 4) (rV (eOp oSub (eVar 3) (eC (.int 1))) rNil)))))) (lX (xCall self_ (rD 0 (rV (eVar 4) (rV (eVar 2) (rV (eOp oSub (eVar 3) (eC (.int 1))) rNil))))))))
  (sRetL (lComp (lVar 5) (tgN 6) [6] bYes (eOp oAdd (eC (.int 1)) (eVar 6)))))))
def R_parted : Nat → FN
  | 0 => fun _ => .stuck
  | n + 1 => runF 4 7 (g_parted (R_parted n))
def F_parted : FN := R_parted 14
theorem ex_parted : ∃ M : FN, M = F_parted := ⟨_, rfl⟩
def M_parted : FN := ex_parted.choose
theorem M_parted_eq : M_parted = F_parted := ex_parted.choose_spec
theorem ok_parted : ∀ as : List SL, as.length = 4 → M_parted as ≠ .stuck → F_parted as = M_parted as := fun _ _ _ => by rw [M_parted_eq]
theorem comp_one {ρ : Env} {ns : List Int} {l : LE} (h : l ρ = .ok (ns.map PyData.int)) (hlen : ns.length < 1000000) (i : Nat) (hi : eOp oAdd (eC (.int 1)) (eVar i) = eOp oAdd (eC (.int 1)) (eVar i)) (hv : ∀ d, eVar i ((wp [i] ρ).set i (some (.fz d))) = .ok d) :
    lComp l (tgN i) [i] bYes (eOp oAdd (eC (.int 1)) (eVar i)) ρ = .ok ((ns.map (1 + ·)).map PyData.int) := by
  rw [lComp_map (fun d => match d with
    | .int k => .int (1 + k)
    | d => d) h (by rw [List.length_map]; exact hlen) (fun d hd => by
      obtain ⟨k, _, rfl⟩ := List.mem_map.mp hd
      exact ⟨_, rfl, rfl, by rw [eOp_ap, eC_ap, Out.bind_ok, hv, Out.bind_ok]; rfl⟩)]
  rw [List.map_map, List.map_map]
  rfl
theorem R_parted_ok {ws : List Int} {b : Nat} (hn : ws.length ≤ 24) (hb : b ≤ 12) : ∀ (d k : Nat), d < k → ∀ f l : Nat, f < l → l ≤ ws.length → l - f ≤ 2 ^ d → d ≤ b →
    R_parted k [.dbw (tabOf ws b), .fz (.int (f : Int)), .fz (.int (l : Int)), .fz (.int (d : Int))] = .ok (.fresh ((partV ws d f l).map PyData.int)) := by
  intro d
  induction d with
  | zero =>
    intro k hk f l h1 h2 h3 h4
    obtain ⟨k, rfl⟩ : ∃ k', k = k' + 1 := ⟨k - 1, by omega⟩
    have h5 : l - f = 1 := by omega
    have h6 : (l : Int) - (f : Int) = 1 := by omega
    rw [partV_one ws h5]
    show runF 4 7 (g_parted (R_parted k)) _ = _
    refine runF_rt [some (.dbw (tabOf ws b)), some (.fz (.int (f : Int))), some (.fz (.int (l : Int))), some (.fz (.int ((0 : Nat) : Int))), none, none, none] rfl rfl (ρ' := [some (.dbw (tabOf ws b)), some (.fz (.int (f : Int))), some (.fz (.int (l : Int))), some (.fz (.int ((0 : Nat) : Int))), none, none, none]) ?_
    unfold g_parted
    simp [h6]
  | succ d ih =>
    intro k hk f l h1 h2 h3 h4
    obtain ⟨k, rfl⟩ : ∃ k', k = k' + 1 := ⟨k - 1, by omega⟩
    show runF 4 7 (g_parted (R_parted k)) _ = _
    by_cases h5 : l - f = 1
    · have h6 : (l : Int) - (f : Int) = 1 := by omega
      rw [partV_one ws h5]
      refine runF_rt [some (.dbw (tabOf ws b)), some (.fz (.int (f : Int))), some (.fz (.int (l : Int))), some (.fz (.int ((d + 1 : Nat) : Int))), none, none, none] rfl rfl (ρ' := [some (.dbw (tabOf ws b)), some (.fz (.int (f : Int))), some (.fz (.int (l : Int))), some (.fz (.int ((d + 1 : Nat) : Int))), none, none, none]) ?_
      unfold g_parted
      generalize ((d + 1 : Nat) : Int) = D
      simp [h6]
    · have h6 : ¬ (l : Int) - (f : Int) = 1 := by omega
      obtain ⟨a, m, e, g3, g4, g5, g6, g7, g8, g9⟩ := part_mid (ws := ws) (d := d) (f := f) (l := l) (by omega) h3
      have hp := M_least_parts_ok (kvs := tabOf ws b) (f := f) (l := l) (d := (d : Int)) (tval ws d) (by omega) (by omega) (fun x hx1 hx2 => ⟨tab_get hx1 (by omega) (by omega), tab_get hx2 h2 (by omega)⟩)
      rw [e] at hp
      have i1 := ih k (by omega) f m g3 (by omega) g5 (by omega)
      have i2 := ih k (by omega) m l g4 h2 g6 (by omega)
      have l1 := partV_len ws d f m g3 g5
      have l2 := partV_len ws d m l g4 g6
      have hc : ∀ D : Int, ((d + 1 : Nat) : Int) = D → D - 1 = (d : Int) := fun D e => by omega
      refine runF_rt [some (.dbw (tabOf ws b)), some (.fz (.int (f : Int))), some (.fz (.int (l : Int))), some (.fz (.int ((d + 1 : Nat) : Int))), none, none, none] rfl rfl (ρ' := [some (.dbw (tabOf ws b)), some (.fz (.int (f : Int))), some (.fz (.int (l : Int))), some (.fz (.int ((d + 1 : Nat) : Int))), some (.fz (.int (m : Int))), some (.ow ((partV ws d f m ++ partV ws d m l).map PyData.int)), none]) ?_
      generalize hD : ((d + 1 : Nat) : Int) = D
      have hc := hc D hD
      rw [g9]
      generalize tabOf ws b = kvs at hp i1 i2 ⊢
      have hx : ∀ x y z : Option SL, eIxT (eX (xCall M_least_parts (rD 0 (rV (eVar 1) (rV (eVar 2) (rV (eOp oSub (eVar 3) (eC (.int 1))) rNil)))))) (eC (.int 1)) [some (.dbw kvs), some (.fz (.int (f : Int))), some (.fz (.int (l : Int))), some (.fz (.int D)), x, y, z] = .ok (.int (m : Int)) := fun x y z => by
        refine eIxT_ok (ds := [.int a, .int (m : Int)]) (eX_val ?_) rfl rfl
        simp only [bestD] at hp
        simp only [xCall_ap, rD_ap, rV_ap, rNil_ap, dVar_s, dVar_0b, eVar_s, eVar_0, eOp_ap, eC_ap, oSub_i, Out.bind_ok, hc, hp]
      have hs1 : ∀ y z : Option SL, lX (xCall (R_parted k) (rD 0 (rV (eVar 1) (rV (eVar 4) (rV (eOp oSub (eVar 3) (eC (.int 1))) rNil))))) [some (.dbw kvs), some (.fz (.int (f : Int))), some (.fz (.int (l : Int))), some (.fz (.int D)), some (.fz (.int (m : Int))), y, z] = .ok ((partV ws d f m).map PyData.int) := fun y z => by
        refine lX_fresh ?_
        simp only [xCall_ap, rD_ap, rV_ap, rNil_ap, dVar_s, dVar_0b, eVar_s, eVar_0, eOp_ap, eC_ap, oSub_i, Out.bind_ok, hc, i1]
      have hs2 : ∀ y z : Option SL, lX (xCall (R_parted k) (rD 0 (rV (eVar 4) (rV (eVar 2) (rV (eOp oSub (eVar 3) (eC (.int 1))) rNil))))) [some (.dbw kvs), some (.fz (.int (f : Int))), some (.fz (.int (l : Int))), some (.fz (.int D)), some (.fz (.int (m : Int))), y, z] = .ok ((partV ws d m l).map PyData.int) := fun y z => by
        refine lX_fresh ?_
        simp only [xCall_ap, rD_ap, rV_ap, rNil_ap, dVar_s, dVar_0b, eVar_s, eVar_0, eOp_ap, eC_ap, oSub_i, Out.bind_ok, hc, i2]
      have hcat : ∀ y z : Option SL, lCat (lX (xCall (R_parted k) (rD 0 (rV (eVar 1) (rV (eVar 4) (rV (eOp oSub (eVar 3) (eC (.int 1))) rNil)))))) (lX (xCall (R_parted k) (rD 0 (rV (eVar 4) (rV (eVar 2) (rV (eOp oSub (eVar 3) (eC (.int 1))) rNil)))))) [some (.dbw kvs), some (.fz (.int (f : Int))), some (.fz (.int (l : Int))), some (.fz (.int D)), some (.fz (.int (m : Int))), y, z] = .ok ((partV ws d f m ++ partV ws d m l).map PyData.int) := fun y z => by
        unfold lCat
        rw [hs1, hs2, Out.bind_ok, Out.bind_ok, if_pos (by rw [List.length_map, List.length_map, l1, l2]; omega), List.map_append]
      have hcomp := comp_one (ρ := [some (.dbw kvs), some (.fz (.int (f : Int))), some (.fz (.int (l : Int))), some (.fz (.int D)), some (.fz (.int (m : Int))), some (.ow ((partV ws d f m ++ partV ws d m l).map PyData.int)), none]) (l := lVar 5) (ns := partV ws d f m ++ partV ws d m l) rfl (by rw [List.length_append, l1, l2]; omega) 6 rfl (fun _ => rfl)
      unfold g_parted
      simp [h6, hx, hcat, -List.map_append, hcomp]
theorem M_parted_ok {ws : List Int} {b f l d : Nat} (hn : ws.length ≤ 24) (hb : b ≤ 12) (h1 : f < l) (h2 : l ≤ ws.length) (h3 : l - f ≤ 2 ^ d) (h4 : d ≤ b) :
    M_parted [.dbw (tabOf ws b), .fz (.int (f : Int)), .fz (.int (l : Int)), .fz (.int (d : Int))] = .ok (.fresh ((partV ws d f l).map PyData.int)) := by
  rw [M_parted_eq]
  exact R_parted_ok hn hb d 14 (by omega) f l h1 h2 h3 h4

/-! ordered_lengths: slots 0:weights 1:bound 2:table -/
def g_ordered_lengths : SE := (sSeq (sSetX 2 (xCall M_least_table (rL (lVar 0) (rV (eVar 1) rNil))))
  (sSeq (sIf (bOf (eOp oLt (eLenV (rVar 0)) (eC (.int 2)))) (sRetL (lRep (lLst [(eC (.int 1))]) (eLenV (rVar 0)))) sNext)
  (sRetX (xCall M_parted (rD 2 (rV (eC (.int 0)) (rV (eLenV (rVar 0)) (rV (eVar 1) rNil))))))))
def F_ordered_lengths : FN := runF 2 3 g_ordered_lengths
theorem ex_ordered_lengths : ∃ M : FN, M = F_ordered_lengths := ⟨_, rfl⟩
def M_ordered_lengths : FN := ex_ordered_lengths.choose
theorem M_ordered_lengths_eq : M_ordered_lengths = F_ordered_lengths := ex_ordered_lengths.choose_spec
theorem ok_ordered_lengths : ∀ as : List SL, as.length = 2 → M_ordered_lengths as ≠ .stuck → F_ordered_lengths as = M_ordered_lengths as := fun _ _ _ => by rw [M_ordered_lengths_eq]
/-- the ordered lengths -/
def ordV (ws : List Int) (b : Nat) : List Int := if ws.length < 2 then List.replicate ws.length 1 else partV ws b 0 ws.length
theorem rep_one (n : Nat) (i : Int) : (List.replicate n [PyData.int i]).flatten = (List.replicate n i).map PyData.int := by
  induction n with
  | zero => rfl
  | succ n ih => rw [List.replicate_succ, List.flatten_cons, ih, List.replicate_succ]; rfl
theorem M_ordered_lengths_ok {ws : List Int} {b : Nat} (hw : ∀ w ∈ ws, 0 ≤ w ∧ w ≤ 1000000000000) (hn : ws.length ≤ 24) (h1 : 1 ≤ b) (h2 : b ≤ 12) (h3 : ws.length ≤ 2 ^ b) :
    M_ordered_lengths [.bw (ws.map PyData.int), .fz (.int (b : Int))] = .ok (.fresh ((ordV ws b).map PyData.int)) := by
  have ht := M_least_table_ok hn h2 (roomBad_ok hw hn h1 h2 h3)
  rw [M_ordered_lengths_eq]
  unfold F_ordered_lengths
  refine runF_rt [some (.bw (ws.map PyData.int)), some (.fz (.int (b : Int))), none] rfl rfl (ρ' := [some (.bw (ws.map PyData.int)), some (.fz (.int (b : Int))), some (.dow (tabOf ws b))]) ?_
  unfold g_ordered_lengths ordV
  by_cases hl : ws.length < 2
  · rw [if_pos hl]
    have hl2 : (ws.length : Int) < 2 := by omega
    have hr : lRep (lLst [(eC (.int 1))]) (eLenV (rVar 0)) [some (.bw (ws.map PyData.int)), some (.fz (.int (b : Int))), some (.dow (tabOf ws b))] = .ok ((List.replicate ws.length (1 : Int)).map PyData.int) := by
      unfold lRep
      rw [lLst_ap]
      simp only [aAll_cons, aAll_nil, eC_ap, Out.bind_ok, eLenV_ap, rVar_0b, lenOf_l, List.length_map]
      rw [if_pos ⟨by omega, by omega, by simp⟩, show ((ws.length : Int)).toNat = ws.length by omega, rep_one]
    generalize tabOf ws b = kvs at ht hr ⊢
    simp [ht, hl2, hr]
  · rw [if_neg hl]
    have hl2 : ¬ (ws.length : Int) < 2 := by omega
    have hp := M_parted_ok (ws := ws) (b := b) (f := 0) (l := ws.length) (d := b) hn h2 (by omega) (Nat.le_refl _) (by omega) (Nat.le_refl _)
    rw [show ((0 : Nat) : Int) = 0 from rfl] at hp
    generalize tabOf ws b = kvs at ht hp ⊢
    simp [ht, hl2, hp]
theorem ordV_len {ws : List Int} {b : Nat} (h3 : ws.length ≤ 2 ^ b) : (ordV ws b).length = ws.length := by
  unfold ordV
  split
  · rw [List.length_replicate]
  · rw [partV_len ws b 0 ws.length (by omega) (by omega), Nat.sub_zero]

/-! law_pairs: slots 0:_law_row_here 1:_law_found 2:_law_k 3:_law_one 4:_law_other 5:_law_signs 6:_law_sign -/
def g_law_pairs : SE := (sSeq (sSetL 1 (lLst []))
  (sSeq (sFor (wRange1 (eOp oFdiv (eLenV (rVar 0)) (eC (.int 2)))) (tgN 2) [2, 3, 4, 5, 6] (sSeq (sSet 3 (eIx (lVar 0) (eOp oMul (eC (.int 2)) (eVar 2))))
  (sSeq (sSet 4 (eIx (lVar 0) (eOp oAdd (eOp oMul (eC (.int 2)) (eVar 2)) (eC (.int 1)))))
  (sSeq (sSetL 5 (lLst []))
  (sSeq (sFor (wRange1 (eC (.int 24))) (tgN 6) [6] (sSetL 5 (lCat (kVar 5) (lRep (lLst [(eVar 6)]) (eOp oAdd (eTCount (eIxT (eVar 3) (eC (.int 1))) (eVar 6)) (eTCount (eIxT (eVar 4) (eC (.int 1))) (eVar 6)))))))
  (sApp 1 (eTup [(eOp oAdd (eIxT (eVar 3) (eC (.int 0))) (eIxT (eVar 4) (eC (.int 0)))), (eTupL (lVar 5))])))))))
  (sRetO 1)))
def F_law_pairs : FN := runF 1 7 g_law_pairs
theorem ex_law_pairs : ∃ M : FN, M = F_law_pairs := ⟨_, rfl⟩
def M_law_pairs : FN := ex_law_pairs.choose
theorem M_law_pairs_eq : M_law_pairs = F_law_pairs := ex_law_pairs.choose_spec
theorem ok_law_pairs : ∀ as : List SL, as.length = 1 → M_law_pairs as ≠ .stuck → F_law_pairs as = M_law_pairs as := fun _ _ _ => by rw [M_law_pairs_eq]
abbrev bodyLq : SE := (sSetL 5 (lCat (kVar 5) (lRep (lLst [(eVar 6)]) (eOp oAdd (eTCount (eIxT (eVar 3) (eC (.int 1))) (eVar 6)) (eTCount (eIxT (eVar 4) (eC (.int 1))) (eVar 6))))))
abbrev bodyLp : SE := (sSeq (sSet 3 (eIx (lVar 0) (eOp oMul (eC (.int 2)) (eVar 2))))
  (sSeq (sSet 4 (eIx (lVar 0) (eOp oAdd (eOp oMul (eC (.int 2)) (eVar 2)) (eC (.int 1)))))
  (sSeq (sSetL 5 (lLst []))
  (sSeq (sFor (wRange1 (eC (.int 24))) (tgN 6) [6] bodyLq)
  (sApp 1 (eTup [(eOp oAdd (eIxT (eVar 3) (eC (.int 0))) (eIxT (eVar 4) (eC (.int 0)))), (eTupL (lVar 5))]))))))
theorem cntL_s (l : List Int) (s : Nat) : cntL l (s + 1) = cntL l s ++ List.replicate (l.count (s : Int)) (s : Int) := by
  unfold cntL
  rw [List.range_succ, List.flatMap_append]
  show _ ++ (List.replicate (l.count (s : Int)) (s : Int) ++ []) = _
  rw [List.append_nil]
theorem cntL_len (l : List Int) : ∀ s : Nat, (cntL l s).length ≤ s * l.length
  | 0 => by show 0 ≤ _; omega
  | s + 1 => by
    have := cntL_len l s
    have h2 : l.count (s : Int) ≤ l.length := List.count_le_length
    rw [cntL_s, List.length_append, List.length_replicate, Nat.add_mul]
    omega
theorem lq_loop {R acc : List PyData} {x2 : Option SL} {a b : Pk} (hl : a.2.length + b.2.length ≤ 10000) : forGo (tgN 6) [6] bodyLq ((List.range' 0 24).map fun k => PyData.int ((k : Nat) : Int)) [some (.bw R), some (.ow acc), x2, some (.fz (pkD a)), some (.fz (pkD b)), some (.ow []), none] = .nx [some (.bw R), some (.ow acc), x2, some (.fz (pkD a)), some (.fz (pkD b)), some (.ow ((cntL (a.2 ++ b.2) 24).map PyData.int)), none] := by
  refine forGo_steps (tg := tgN 6) (ws := [6]) (body := bodyLq) 24 0 (fun j => [some (.bw R), some (.ow acc), x2, some (.fz (pkD a)), some (.fz (pkD b)), some (.ow ((cntL (a.2 ++ b.2) j).map PyData.int)), none]) (fun j hj => ?_)
  rw [Nat.zero_add, cntL_s, List.count_append]
  have hc := cntL_len (a.2 ++ b.2) j
  rw [List.length_append] at hc
  have hc2 : (cntL (a.2 ++ b.2) j).length ≤ 240000 := Nat.le_trans hc (Nat.mul_le_mul (show j ≤ 24 by omega) hl)
  generalize cntL (a.2 ++ b.2) j = cs at hc2
  have y3 : eIxT (eVar 3) (eC (.int 1)) [some (.bw R), some (.ow acc), x2, some (.fz (pkD a)), some (.fz (pkD b)), some (.ow (cs.map PyData.int)), some (.fz (.int (j : Int)))] = .ok (.tuple (a.2.map PyData.int)) := eIxT_ok (ds := [.int a.1, .tuple (a.2.map PyData.int)]) rfl rfl rfl
  have y4 : eIxT (eVar 4) (eC (.int 1)) [some (.bw R), some (.ow acc), x2, some (.fz (pkD a)), some (.fz (pkD b)), some (.ow (cs.map PyData.int)), some (.fz (.int (j : Int)))] = .ok (.tuple (b.2.map PyData.int)) := eIxT_ok (ds := [.int b.1, .tuple (b.2.map PyData.int)]) rfl rfl rfl
  have ka := List.count_le_length (a := (j : Int)) (l := a.2)
  have kb := List.count_le_length (a := (j : Int)) (l := b.2)
  have z3 : eTCount (eIxT (eVar 3) (eC (.int 1))) (eVar 6) [some (.bw R), some (.ow acc), x2, some (.fz (pkD a)), some (.fz (pkD b)), some (.ow (cs.map PyData.int)), some (.fz (.int (j : Int)))] = .ok (.int ((a.2.count (j : Int) : Nat) : Int)) := by
    unfold eTCount
    rw [y3, Out.bind_ok]
    show (Out.ok (PyData.int (j : Int))).bind (cntOf (a.2.map PyData.int)) = _
    rw [Out.bind_ok]
    unfold cntOf
    dsimp only
    rw [asInts_DI]
  have z4 : eTCount (eIxT (eVar 4) (eC (.int 1))) (eVar 6) [some (.bw R), some (.ow acc), x2, some (.fz (pkD a)), some (.fz (pkD b)), some (.ow (cs.map PyData.int)), some (.fz (.int (j : Int)))] = .ok (.int ((b.2.count (j : Int) : Nat) : Int)) := by
    unfold eTCount
    rw [y4, Out.bind_ok]
    show (Out.ok (PyData.int (j : Int))).bind (cntOf (b.2.map PyData.int)) = _
    rw [Out.bind_ok]
    unfold cntOf
    dsimp only
    rw [asInts_DI]
  generalize a.2.count (j : Int) = ca at *
  generalize b.2.count (j : Int) = cb at *
  have hr : lRep (lLst [(eVar 6)]) (eOp oAdd (eTCount (eIxT (eVar 3) (eC (.int 1))) (eVar 6)) (eTCount (eIxT (eVar 4) (eC (.int 1))) (eVar 6))) [some (.bw R), some (.ow acc), x2, some (.fz (pkD a)), some (.fz (pkD b)), some (.ow (cs.map PyData.int)), some (.fz (.int (j : Int)))] = .ok ((List.replicate (ca + cb) (j : Int)).map PyData.int) := by
    unfold lRep
    rw [show lLst [(eVar 6)] _ = .ok [.int (j : Int)] from rfl, Out.bind_ok, eOp_ap, z3, Out.bind_ok, z4, Out.bind_ok, oAdd_i, Out.bind_ok]
    dsimp only
    rw [if_pos ⟨by omega, by omega, by simp⟩, show ((ca : Int) + (cb : Int)).toNat = ca + cb by omega, rep_one]
  refine (turn_nx (ρ1 := [some (.bw R), some (.ow acc), x2, some (.fz (pkD a)), some (.fz (pkD b)), some (.ow (cs.map PyData.int)), some (.fz (.int (j : Int)))]) (ρ2 := [some (.bw R), some (.ow acc), x2, some (.fz (pkD a)), some (.fz (pkD b)), some (.ow ((cs ++ List.replicate (ca + cb) (j : Int)).map PyData.int)), some (.fz (.int (j : Int)))]) rfl ?_).trans rfl
  unfold bodyLq
  rw [sSetL_ap]
  unfold lCat
  rw [hr]
  show wOut (if (cs.map PyData.int).length + ((List.replicate (ca + cb) (j : Int)).map PyData.int).length ≤ 1000000 then Out.ok _ else _) _ _ = _
  rw [if_pos (by rw [List.length_map, List.length_map, List.length_replicate]; omega), wOut_ok, ← List.map_append]
  rfl
abbrev envLp (r : List Pk) (j : Nat) : Env := [some (.bw (r.map pkD)), some (.ow (((pairsV r).take j).map pkD)), none, none, none, none, none]
theorem leI_id : leI = leBy (id : Int → Int) := rfl
theorem turnLp {r : List Pk} (hf : ∀ p ∈ r, p.2.length ≤ 5000 ∧ ∀ x ∈ p.2, 0 ≤ x ∧ x < 24) (hr : r.length ≤ 1000) {j : Nat} (hj : 2 * j + 1 < r.length) : turn (tgN 2) [2, 3, 4, 5, 6] bodyLp (.int ((0 + j : Nat) : Int)) (envLp r j) = .nx (envLp r (j + 1)) := by
  have ha := List.getElem?_eq_getElem (show 2 * j < r.length by omega)
  have hb := List.getElem?_eq_getElem hj
  have fa := hf _ (List.mem_of_getElem? ha)
  have fb := hf _ (List.mem_of_getElem? hb)
  have hp := pairs_at r j _ _ ha hb
  have ht : (pairsV r).take (j + 1) = (pairsV r).take j ++ [(r[2 * j].1 + r[2 * j + 1].1, (r[2 * j].2 ++ r[2 * j + 1].2).mergeSort leI)] := by
    rw [List.take_add_one, hp]
    rfl
  unfold envLp
  rw [ht, List.map_append, Nat.zero_add]
  have ia : atI (r.map pkD) ((2 * j : Nat) : Int) = some (pkD r[2 * j]) := atI_nat (by rw [List.getElem?_map, ha]; rfl)
  have ib : atI (r.map pkD) ((2 * j + 1 : Nat) : Int) = some (pkD r[2 * j + 1]) := atI_nat (by rw [List.getElem?_map, hb]; rfl)
  have hlen : (((pairsV r).take j).map pkD).length < 1000000 := by
    rw [List.length_map, List.length_take, pairsV_len]
    omega
  generalize ((pairsV r).take j).map pkD = acc at hlen ⊢
  generalize r[2 * j] = a at ia fa ⊢
  generalize r[2 * j + 1] = b at ib fb ⊢
  have hsort : (a.2 ++ b.2).mergeSort leI = cntL (a.2 ++ b.2) 24 := by
    rw [leI_id]
    refine cnt_sort (n := 24) fun x hx => ?_
    rcases List.mem_append.mp hx with hx | hx
    · exact fa.2 x hx
    · exact fb.2 x hx
  rw [hsort]
  have hq := lq_loop (R := r.map pkD) (acc := acc) (x2 := some (.fz (.int (j : Int)))) (a := a) (b := b) (by omega)
  generalize cntL (a.2 ++ b.2) 24 = cs at hq ⊢
  generalize r.map pkD = R at ia ib hq ⊢
  have hm : oMul (.int 2) (.int (j : Int)) = .ok (.int ((2 * j : Nat) : Int)) := (oMul_l (by omega)).trans (by rw [Int.natCast_mul]; rfl)
  have x1 : eIx (lVar 0) (eOp oMul (eC (.int 2)) (eVar 2)) [some (.bw R), some (.ow acc), some (.fz (.int (j : Int))), none, none, none, none] = .ok (pkD a) := eIx_ok rfl (by rw [eOp_ap]; exact hm) ia
  have x2 : eIx (lVar 0) (eOp oAdd (eOp oMul (eC (.int 2)) (eVar 2)) (eC (.int 1))) [some (.bw R), some (.ow acc), some (.fz (.int (j : Int))), some (.fz (pkD a)), none, none, none] = .ok (pkD b) := eIx_ok rfl (by
    rw [eOp_ap, eOp_ap]
    show ((oMul (.int 2) (.int (j : Int))).bind fun x => oAdd x (.int 1)) = _
    rw [hm, Out.bind_ok, oAdd_i]
    exact congrArg Out.ok (congrArg PyData.int (by omega : ((2 * j : Nat) : Int) + 1 = ((2 * j + 1 : Nat) : Int)))) ib
  have y1 : eIxT (eVar 3) (eC (.int 0)) [some (.bw R), some (.ow acc), some (.fz (.int (j : Int))), some (.fz (pkD a)), some (.fz (pkD b)), some (.ow (cs.map PyData.int)), none] = .ok (.int a.1) := eIxT_ok (ds := [.int a.1, .tuple (a.2.map PyData.int)]) rfl rfl rfl
  have y2 : eIxT (eVar 4) (eC (.int 0)) [some (.bw R), some (.ow acc), some (.fz (.int (j : Int))), some (.fz (pkD a)), some (.fz (pkD b)), some (.ow (cs.map PyData.int)), none] = .ok (.int b.1) := eIxT_ok (ds := [.int b.1, .tuple (b.2.map PyData.int)]) rfl rfl rfl
  have hw : ∀ ρ, wRange1 (eC (.int 24)) ρ = .ok ((List.range' 0 24).map fun k => PyData.int ((k : Nat) : Int)) := fun ρ => (wRange1_ok (n := 24) rfl (by decide)).trans rfl
  refine (turn_nx (ρ1 := [some (.bw R), some (.ow acc), some (.fz (.int (j : Int))), none, none, none, none]) (ρ2 := [some (.bw R), some (.ow (acc ++ [pkD (a.1 + b.1, cs)])), some (.fz (.int (j : Int))), some (.fz (pkD a)), some (.fz (pkD b)), some (.ow (cs.map PyData.int)), none]) rfl ?_).trans rfl
  unfold bodyLp
  rw [seq_nx (ρ' := [some (.bw R), some (.ow acc), some (.fz (.int (j : Int))), some (.fz (pkD a)), none, none, none]) (by rw [sSet_ap, x1, wOut_ok]; rfl)]
  rw [seq_nx (ρ' := [some (.bw R), some (.ow acc), some (.fz (.int (j : Int))), some (.fz (pkD a)), some (.fz (pkD b)), none, none]) (by rw [sSet_ap, x2, wOut_ok]; rfl)]
  rw [seq_nx (show sSetL 5 (lLst []) _ = .nx [some (.bw R), some (.ow acc), some (.fz (.int (j : Int))), some (.fz (pkD a)), some (.fz (pkD b)), some (.ow []), none] from rfl)]
  rw [seq_nx ((for_of (hw _)).trans hq)]
  have happ : ∀ f : VE, ∀ ρ : Env, ρ[1]? = some (some (.ow acc)) → sApp 1 f ρ = wOut (f ρ) ρ fun d => if acc.length < 1000000 then .nx (ρ.set 1 (some (.ow (acc ++ [d])))) else .stuck := fun f ρ h => by
    unfold sApp
    rw [h]
  rw [happ _ _ rfl, eTup_ap, aAll_cons, eOp_ap, y1, Out.bind_ok, y2, Out.bind_ok, oAdd_i, Out.bind_ok, aAll_cons, show eTupL (lVar 5) _ = .ok (.tuple (cs.map PyData.int)) from rfl, Out.bind_ok, aAll_nil, Out.bind_ok, Out.bind_ok, Out.bind_ok, wOut_ok, if_pos hlen]
  rfl
theorem M_law_pairs_ok {r : List Pk} (hf : ∀ p ∈ r, p.2.length ≤ 5000 ∧ ∀ x ∈ p.2, 0 ≤ x ∧ x < 24) (hr : r.length ≤ 1000) : M_law_pairs [.bw (r.map pkD)] = .ok (.fresh ((pairsV r).map pkD)) := by
  rw [M_law_pairs_eq]
  unfold F_law_pairs
  refine runF_rt [some (.bw (r.map pkD)), none, none, none, none, none, none] rfl rfl (ρ' := envLp r (r.length / 2)) ?_
  have hs := forGo_steps (tg := tgN 2) (ws := [2, 3, 4, 5, 6]) (body := bodyLp) (r.length / 2) 0 (fun j => envLp r j) (fun j hj => turnLp hf hr (by omega))
  have hw : wRange1 (eOp oFdiv (eLenV (rVar 0)) (eC (.int 2))) (envLp r 0) = .ok ((List.range' 0 (r.length / 2)).map fun k => PyData.int ((k : Nat) : Int)) := by
    rw [← rng_nat 0 (r.length / 2)]
    rw [wRange1_ok (n := ((r.length / 2 : Nat) : Int)) (by
      rw [eOp_ap, eLenV_ap]
      show (lenOf (.list (r.map pkD))).bind _ = _
      rw [lenOf_l, List.length_map, Out.bind_ok, eC_ap, Out.bind_ok, oFdiv_i (by omega)]
      exact congrArg Out.ok (congrArg PyData.int (by omega : ((r.length : Nat) : Int) / 2 = ((r.length / 2 : Nat) : Int)))) ⟨by omega, by omega⟩, show (((r.length / 2 : Nat) : Int)).toNat = r.length / 2 by omega]
    rfl
  have hg : g_law_pairs = sSeq (sSetL 1 (lLst [])) (sSeq (sFor (wRange1 (eOp oFdiv (eLenV (rVar 0)) (eC (.int 2)))) (tgN 2) [2, 3, 4, 5, 6] bodyLp) (sRetO 1)) := rfl
  have ht : (pairsV r).take (r.length / 2) = pairsV r := List.take_of_length_le (by rw [pairsV_len]; omega)
  rw [hg, seq_nx (show sSetL 1 (lLst []) _ = .nx (envLp r 0) from rfl), seq_nx ((for_of hw).trans hs)]
  unfold envLp
  rw [ht]
  rfl

/-! law_row: slots 0:_law_weights_here 1:_law_ahead 2:_law_row_here 3:_law_k 4:_law_packet -/
def g_law_row : SE := (sSeq (sSetL 2 (lLst []))
  (sSeq (sFor (wRange1 (eLenV (rVar 0))) (tgN 3) [3] (sCallM M_law_put 2 (rV (eTup [(eIx (lVar 0) (eVar 3)), (eTup [(eVar 3)])]) rNil)))
  (sSeq (sFor (lOfV (eOfL (lX (xCall M_law_pairs (rL (lVar 1) rNil))))) (tgN 4) [4] (sCallM M_law_put 2 (rV (eVar 4) rNil)))
  (sRetO 2))))
def F_law_row : FN := runF 2 5 g_law_row
theorem ex_law_row : ∃ M : FN, M = F_law_row := ⟨_, rfl⟩
def M_law_row : FN := ex_law_row.choose
theorem M_law_row_eq : M_law_row = F_law_row := ex_law_row.choose_spec
theorem ok_law_row : ∀ as : List SL, as.length = 2 → M_law_row as ≠ .stuck → F_law_row as = M_law_row as := fun _ _ _ => by rw [M_law_row_eq]
theorem ins_len (l : List Pk) (p : Pk) : (insBy pkW l p).length = l.length + 1 := by
  have h : ∀ l : List Pk, (l.filter (fun x => decide (pkW x ≤ pkW p))).length + (l.filter (fun x => decide (pkW p < pkW x))).length = l.length := fun l => by
    induction l with
    | nil => rfl
    | cons x r ih =>
      by_cases hx : pkW x ≤ pkW p
      · rw [List.filter_cons, if_pos (decide_eq_true hx), List.filter_cons, if_neg (by rw [decide_eq_true_iff]; omega), List.length_cons, List.length_cons]
        omega
      · rw [List.filter_cons, if_neg (by rw [decide_eq_true_iff]; exact hx), List.filter_cons, if_pos (by rw [decide_eq_true_iff]; omega), List.length_cons, List.length_cons]
        omega
  have := h l
  unfold insBy
  rw [List.length_append, List.length_cons]
  omega
/-- the call as a statement -/
theorem put_call {ρ : Env} {i : Nat} {f : VE} {l : List Pk} {p : Pk} (hi : ρ[i]? = some (some (.ow (l.map pkD)))) (h : f ρ = .ok (pkD p)) (hs : l.Pairwise fun a b => pkW a ≤ pkW b) (hl : l.length ≤ 900) : sCallM M_law_put i (rV f rNil) ρ = .nx (ρ.set i (some (.ow ((insBy pkW l p).map pkD)))) := by
  unfold sCallM
  rw [hi]
  dsimp only
  rw [rV_ap, h, Out.bind_ok, rNil_ap, Out.bind_ok, wOut_ok, M_law_put_ok hs hl]
abbrev envRw (ws : List Int) (ah l : List Pk) : Env := [some (.bw (ws.map PyData.int)), some (.bw (ah.map pkD)), some (.ow (l.map pkD)), none, none]
theorem signs_at : ∀ (ws : List Int) (k j : Nat) (w : Int), ws[j]? = some w → (signsV k ws)[j]? = some (w, [((k + j : Nat) : Int)])
  | [], _, _, _, h => by cases h
  | x :: r, k, 0, w, h => by
    cases h
    rfl
  | x :: r, k, j + 1, w, h => by
    have := signs_at r (k + 1) j w (by simpa using h)
    show (signsV (k + 1) r)[j]? = _
    rw [this, show k + 1 + j = k + (j + 1) by omega]
theorem row_turn1 {ws : List Int} {ah : List Pk} (hn : ws.length ≤ 24) {j : Nat} (hj : j < ws.length) : turn (tgN 3) [3] (sCallM M_law_put 2 (rV (eTup [(eIx (lVar 0) (eVar 3)), (eTup [(eVar 3)])]) rNil)) (.int ((0 + j : Nat) : Int)) (envRw ws ah (((signsV 0 ws).take j).mergeSort (leBy pkW))) = .nx (envRw ws ah (((signsV 0 ws).take (j + 1)).mergeSort (leBy pkW))) := by
  have hw := List.getElem?_eq_getElem hj
  have hs := signs_at ws 0 j _ hw
  have ht : (signsV 0 ws).take (j + 1) = (signsV 0 ws).take j ++ [(ws[j], [((0 + j : Nat) : Int)])] := by
    rw [List.take_add_one, hs]
    rfl
  rw [ht, ← ins_sort pkW]
  have hat : atI (ws.map PyData.int) ((0 + j : Nat) : Int) = some (.int ws[j]) := atI_nat (by rw [Nat.zero_add, List.getElem?_map, hw]; rfl)
  have hl : (((signsV 0 ws).take j).mergeSort (leBy pkW)).length ≤ 900 := by
    rw [List.length_mergeSort, List.length_take]
    omega
  have hp := sort_sorted pkW ((signsV 0 ws).take j)
  generalize ((signsV 0 ws).take j).mergeSort (leBy pkW) = l at hl hp ⊢
  have hf : eTup [(eIx (lVar 0) (eVar 3)), (eTup [(eVar 3)])] [some (.bw (ws.map PyData.int)), some (.bw (ah.map pkD)), some (.ow (l.map pkD)), some (.fz (.int ((0 + j : Nat) : Int))), none] = .ok (pkD (ws[j], [((0 + j : Nat) : Int)])) := by
    rw [eTup_ap, aAll_cons, eIx_ok (l := lVar 0) rfl rfl hat, Out.bind_ok]
    rfl
  refine (turn_nx (ρ1 := [some (.bw (ws.map PyData.int)), some (.bw (ah.map pkD)), some (.ow (l.map pkD)), some (.fz (.int ((0 + j : Nat) : Int))), none]) rfl (put_call rfl hf hp hl)).trans rfl
theorem row_loop2 {ws : List Int} {ah : List Pk} : ∀ (ps l : List Pk), (l ++ ps).length ≤ 900 → forGo (tgN 4) [4] (sCallM M_law_put 2 (rV (eVar 4) rNil)) (ps.map pkD) (envRw ws ah (l.mergeSort (leBy pkW))) = .nx (envRw ws ah ((l ++ ps).mergeSort (leBy pkW)))
  | [], l, _ => by
    rw [List.append_nil]
    rfl
  | p :: ps, l, h => by
    rw [List.length_append, List.length_cons] at h
    have hl : (l.mergeSort (leBy pkW)).length ≤ 900 := by
      rw [List.length_mergeSort]
      omega
    have hp := sort_sorted pkW l
    have ht : turn (tgN 4) [4] (sCallM M_law_put 2 (rV (eVar 4) rNil)) (pkD p) (envRw ws ah (l.mergeSort (leBy pkW))) = .nx (envRw ws ah ((l ++ [p]).mergeSort (leBy pkW))) := by
      rw [← ins_sort pkW]
      generalize l.mergeSort (leBy pkW) = m at hl hp ⊢
      exact (turn_nx (ρ1 := [some (.bw (ws.map PyData.int)), some (.bw (ah.map pkD)), some (.ow (m.map pkD)), none, some (.fz (pkD p))]) rfl (put_call rfl rfl hp hl)).trans rfl
    rw [List.map_cons, forGo_cons, ht]
    have := row_loop2 (ws := ws) (ah := ah) ps (l ++ [p]) (by rw [List.length_append, List.length_append, List.length_singleton]; omega)
    rw [List.append_assoc] at this
    exact this
theorem M_law_row_ok {ws : List Int} {ah : List Pk} (hn : ws.length ≤ 24) (hf : ∀ p ∈ ah, p.2.length ≤ 5000 ∧ ∀ x ∈ p.2, 0 ≤ x ∧ x < 24) (hr : ah.length ≤ 800) (hsl : (signsV 0 ws).length = ws.length) : M_law_row [.bw (ws.map PyData.int), .bw (ah.map pkD)] = .ok (.fresh (((signsV 0 ws ++ pairsV ah).mergeSort (leBy pkW)).map pkD)) := by
  have hp := M_law_pairs_ok hf (by omega)
  rw [M_law_row_eq]
  unfold F_law_row
  refine runF_rt [some (.bw (ws.map PyData.int)), some (.bw (ah.map pkD)), none, none, none] rfl rfl (ρ' := envRw ws ah ((signsV 0 ws ++ pairsV ah).mergeSort (leBy pkW))) ?_
  have hg : g_law_row = sSeq (sSetL 2 (lLst [])) (sSeq (sFor (wRange1 (eLenV (rVar 0))) (tgN 3) [3] (sCallM M_law_put 2 (rV (eTup [(eIx (lVar 0) (eVar 3)), (eTup [(eVar 3)])]) rNil))) (sSeq (sFor (lOfV (eOfL (lX (xCall M_law_pairs (rL (lVar 1) rNil))))) (tgN 4) [4] (sCallM M_law_put 2 (rV (eVar 4) rNil))) (sRetO 2))) := rfl
  have h1 := forGo_steps (tg := tgN 3) (ws := [3]) (body := (sCallM M_law_put 2 (rV (eTup [(eIx (lVar 0) (eVar 3)), (eTup [(eVar 3)])]) rNil))) ws.length 0 (fun j => envRw ws ah (((signsV 0 ws).take j).mergeSort (leBy pkW))) (fun j hj => row_turn1 hn hj)
  have hw : ∀ ρ, ρ[0]? = some (some (.bw (ws.map PyData.int))) → wRange1 (eLenV (rVar 0)) ρ = .ok ((List.range' 0 ws.length).map fun k => PyData.int ((k : Nat) : Int)) := fun ρ h => by
    rw [← rng_nat 0 ws.length]
    rw [wRange1_ok (n := (ws.length : Int)) (by
      rw [eLenV_ap]
      unfold rVar
      rw [h]
      show lenOf (.list (ws.map PyData.int)) = _
      rw [lenOf_l, List.length_map]) ⟨by omega, by omega⟩, show ((ws.length : Int)).toNat = ws.length by omega]
    rfl
  have ht : (signsV 0 ws).take ws.length = signsV 0 ws := List.take_of_length_le (by omega)
  have h2 := row_loop2 (ws := ws) (ah := ah) (pairsV ah) (signsV 0 ws) (by rw [List.length_append, pairsV_len, hsl]; omega)
  have hx : lOfV (eOfL (lX (xCall M_law_pairs (rL (lVar 1) rNil)))) (envRw ws ah ((signsV 0 ws).mergeSort (leBy pkW))) = .ok ((pairsV ah).map pkD) := by
    rw [lOfV_eOfL]
    exact lX_fresh (by rw [xCall_ap]; exact hp)
  rw [List.take_zero] at h1
  rw [ht] at h1
  rw [hg, seq_nx (show sSetL 2 (lLst []) _ = .nx (envRw ws ah (([] : List Pk).mergeSort (leBy pkW))) by rw [List.mergeSort_nil]; rfl), seq_nx ((for_of (hw _ rfl)).trans h1), seq_nx ((for_of hx).trans h2)]
  rfl

/-- laid out, not deep -/
def shp (k : Nat) (d : PyData) : Prop := d.canLay0 = true ∧ d.depth ≤ k
theorem canAll {ds : List PyData} (h : ∀ d ∈ ds, d.canLay0 = true) : PyData.canLayAll0 ds = true := by
  induction ds with
  | nil => simp [PyData.canLayAll0]
  | cons d r ih => simp [PyData.canLayAll0, h d List.mem_cons_self, ih fun x hx => h x (List.mem_cons_of_mem _ hx)]
theorem depAll {ds : List PyData} {k : Nat} (h : ∀ d ∈ ds, d.depth ≤ k) : PyData.depthAll ds ≤ k := by
  induction ds with
  | nil => simp [PyData.depthAll]
  | cons d r ih =>
    have h1 := h d List.mem_cons_self
    have h2 := ih fun x hx => h x (List.mem_cons_of_mem _ hx)
    simp only [PyData.depthAll]
    omega
theorem shp_int (k : Nat) (i : Int) : shp k (.int i) := ⟨by simp [PyData.canLay0], by simp [PyData.depth]⟩
theorem shp_bool (k : Nat) (i : Bool) : shp k (.bool i) := ⟨by simp [PyData.canLay0], by simp [PyData.depth]⟩
theorem shp_none (k : Nat) : shp k .none := ⟨by simp [PyData.canLay0], by simp [PyData.depth]⟩
theorem shp_str (k : Nat) {s : Str} (h : PyData.strOk s = true) : shp k (.str s) := ⟨by simp [PyData.canLay0, h], by simp [PyData.depth]⟩
theorem shp_list {k : Nat} {ds : List PyData} (h : ∀ d ∈ ds, shp k d) : shp (k + 1) (.list ds) :=
  ⟨by simp only [PyData.canLay0]; exact canAll fun d hd => (h d hd).1, by simp only [PyData.depth]; have := depAll (k := k) fun d hd => (h d hd).2; omega⟩
theorem shp_tup {k : Nat} {ds : List PyData} (h : ∀ d ∈ ds, shp k d) : shp (k + 1) (.tuple ds) :=
  ⟨by simp only [PyData.canLay0]; exact canAll fun d hd => (h d hd).1, by simp only [PyData.depth]; have := depAll (k := k) fun d hd => (h d hd).2; omega⟩
theorem shp_ints (k : Nat) (ns : List Int) : shp (k + 1) (.list (ns.map PyData.int)) := shp_list fun d hd => by
  obtain ⟨i, _, rfl⟩ := List.mem_map.mp hd
  exact shp_int _ _
theorem shp_tints (k : Nat) (ns : List Int) : shp (k + 1) (.tuple (ns.map PyData.int)) := shp_tup fun d hd => by
  obtain ⟨i, _, rfl⟩ := List.mem_map.mp hd
  exact shp_int _ _
theorem shaped_of {k : Nat} {d : PyData} (h : shp k d) (hk : k ≤ 64 := by decide) : SeqAt.shaped d = true := by
  unfold SeqAt.shaped
  rw [h.1, Bool.true_and]
  exact decide_eq_true (Nat.le_trans h.2 hk)
theorem oEq_refl {k : Nat} {d : PyData} (h : shp k d) (hk : k ≤ 64 := by decide) : oEq d d = .ok (.bool true) := by
  unfold oEq
  rw [shaped_of h hk, PySem.SeqAt.eqv_refl d h.1]
  rfl
theorem oNe_refl {k : Nat} {d : PyData} (h : shp k d) (hk : k ≤ 64 := by decide) : oNe d d = .ok (.bool false) := by
  unfold oNe
  rw [shaped_of h hk, PySem.SeqAt.eqv_refl d h.1]
  rfl
theorem oNe_nil {k : Nat} {ds : List PyData} (h : shp k (.list ds)) (hk : k ≤ 64 := by decide) : oNe (.list ds) (.list []) = .ok (.bool (!ds.isEmpty)) := by
  unfold oNe
  rw [shaped_of h hk, shaped_of (k := 0 + 1) (shp_list (k := 0) (ds := []) (fun _ hd => nomatch hd))]
  cases ds <;> simp [PyData.eqv, PyData.eqvAll]
theorem oEq_nil {k : Nat} {ds : List PyData} (h : shp k (.list ds)) (hk : k ≤ 64 := by decide) : oEq (.list ds) (.list []) = .ok (.bool ds.isEmpty) := by
  unfold oEq
  rw [shaped_of h hk, shaped_of (k := 0 + 1) (shp_list (k := 0) (ds := []) (fun _ hd => nomatch hd))]
  cases ds <;> simp [PyData.eqv, PyData.eqvAll]

/-! law_kinds: slots 0:_law_row_here 1:_law_packet 2:_law_sign -/
def g_law_kinds : SE := (sSeq (sIf (bNot (bOf (eIsI (rVar 0) "list"))) (sRet (eC (.bool false))) sNext)
  (sSeq (sFor (sVar 0) (tgN 1) [1] (sSeq (sIf (bOr (bNot (bOf (eIsI (rVar 1) "tuple"))) (bOr (bOf (eOp oNe (eLenV (rVar 1)) (eC (.int 2)))) (bNot (bOf (eX (xCall M_law_whole (rV (eIxT (eVar 1) (eC (.int 0))) rNil))))))) (sRet (eC (.bool false))) sNext)
  (sIf (bOr (bNot (bOf (eIsI (eIxT (eVar 1) (eC (.int 1))) "tuple"))) (bOf (eOp oNe (eOfL (lComp (tOfV (eIxT (eVar 1) (eC (.int 1)))) (tgN 2) [2] (bNot (bOf (eX (xCall M_law_whole (rV (eVar 2) rNil))))) (eVar 2))) (eOfL (lLst []))))) (sRet (eC (.bool false))) sNext)))
  (sRet (eC (.bool true)))))
def F_law_kinds : FN := runF 1 3 g_law_kinds
theorem ex_law_kinds : ∃ M : FN, M = F_law_kinds := ⟨_, rfl⟩
def M_law_kinds : FN := ex_law_kinds.choose
theorem M_law_kinds_eq : M_law_kinds = F_law_kinds := ex_law_kinds.choose_spec
theorem ok_law_kinds : ∀ as : List SL, as.length = 1 → M_law_kinds as ≠ .stuck → F_law_kinds as = M_law_kinds as := fun _ _ _ => by rw [M_law_kinds_eq]
theorem kit_listK (ds : List PyData) : kitB (tyName (.list ds)) "list" = some true := by
  show kitB "list" "list" = some true
  decide +kernel
theorem kit_tupK (ds : List PyData) : kitB (tyName (.tuple ds)) "tuple" = some true := by
  show kitB "tuple" "tuple" = some true
  decide +kernel
def ki1 : SE := (sIf (bOr (bNot (bOf (eIsI (rVar 1) "tuple"))) (bOr (bOf (eOp oNe (eLenV (rVar 1)) (eC (.int 2)))) (bNot (bOf (eX (xCall M_law_whole (rV (eIxT (eVar 1) (eC (.int 0))) rNil))))))) (sRet (eC (.bool false))) sNext)
def oddK : VE := (eOp oNe (eOfL (lComp (tOfV (eIxT (eVar 1) (eC (.int 1)))) (tgN 2) [2] (bNot (bOf (eX (xCall M_law_whole (rV (eVar 2) rNil))))) (eVar 2))) (eOfL (lLst [])))
def ki2 : SE := (sIf (bOr (bNot (bOf (eIsI (eIxT (eVar 1) (eC (.int 1))) "tuple"))) (bOf oddK)) (sRet (eC (.bool false))) sNext)
theorem M_law_kinds_ok {l : List Pk} (hf : ∀ p ∈ l, p.2.length < 1000000) : M_law_kinds [.bw (l.map pkD)] = .ok (.val (.bool true)) := by
  rw [M_law_kinds_eq]
  unfold F_law_kinds
  refine runF_rt [some (.bw (l.map pkD)), none, none] rfl rfl (ρ' := [some (.bw (l.map pkD)), none, none]) ?_
  have hg : g_law_kinds = sSeq (sIf (bNot (bOf (eIsI (rVar 0) "list"))) (sRet (eC (.bool false))) sNext) (sSeq (sFor (sVar 0) (tgN 1) [1] (sSeq ki1 ki2)) (sRet (eC (.bool true)))) := rfl
  have hli : eIsI (rVar 0) "list" [some (.bw (l.map pkD)), none, none] = .ok (.bool true) := eIsI_ok rfl (kit_listK _)
  have hlo : forGo (tgN 1) [1] (sSeq ki1 ki2) (l.map pkD) [some (.bw (l.map pkD)), none, none] = .nx [some (.bw (l.map pkD)), none, none] := by
    refine forGo_pass _ fun d hd => ?_
    obtain ⟨p, hp, rfl⟩ := List.mem_map.mp hd
    have hpl := hf p hp
    generalize l.map pkD = L
    refine turn_nx (ρ1 := [some (.bw L), some (.fz (pkD p)), none]) (ρ2 := [some (.bw L), some (.fz (pkD p)), none]) rfl ?_
    have e0 : eIxT (eVar 1) (eC (.int 0)) [some (.bw L), some (.fz (pkD p)), none] = .ok (.int p.1) := eIxT_ok (ds := [.int p.1, .tuple (p.2.map PyData.int)]) rfl rfl rfl
    have e1 : eIxT (eVar 1) (eC (.int 1)) [some (.bw L), some (.fz (pkD p)), none] = .ok (.tuple (p.2.map PyData.int)) := eIxT_ok (ds := [.int p.1, .tuple (p.2.map PyData.int)]) rfl rfl rfl
    have i1 : eIsI (rVar 1) "tuple" [some (.bw L), some (.fz (pkD p)), none] = .ok (.bool true) := eIsI_ok rfl (kit_tupK _)
    have i2 : eIsI (eIxT (eVar 1) (eC (.int 1))) "tuple" [some (.bw L), some (.fz (pkD p)), none] = .ok (.bool true) := eIsI_ok e1 (kit_tupK _)
    have hw : M_law_whole [.fz (.int p.1)] = .ok (.val (.bool true)) := rfl
    have hlen : lenOf (pkD p) = .ok (.int 2) := rfl
    have hc : lComp (tOfV (eIxT (eVar 1) (eC (.int 1)))) (tgN 2) [2] (bNot (bOf (eX (xCall M_law_whole (rV (eVar 2) rNil))))) (eVar 2) [some (.bw L), some (.fz (pkD p)), none] = .ok [] := by
      rw [lComp_filter (fun d => false) (fun d => d) (ds := p.2.map PyData.int) (by unfold tOfV; rw [e1]; rfl) (by rw [List.length_map]; exact hpl) (fun d hd => by
        obtain ⟨k, hk, rfl⟩ := List.mem_map.mp hd
        have h1 : M_law_whole [.fz (.int k)] = .ok (.val (.bool true)) := rfl
        refine ⟨[some (.bw L), some (.fz (pkD p)), some (.fz (.int k))], rfl, ?_, fun z => nomatch z⟩
        rw [bNot_ap, bOf_ap, eX_val (by rw [xCall_ap]; exact h1)]
        rfl)]
      rw [List.filter_eq_nil_iff.mpr (fun d _ => by simp), List.map_nil]
    have ho : oddK [some (.bw L), some (.fz (pkD p)), none] = .ok (.bool false) := by
      unfold oddK
      rw [eOp_ap, eOfL_ap, hc, Out.bind_ok, Out.bind_ok, eOfL_ap, lLst_ap, aAll_nil, Out.bind_ok, Out.bind_ok]
      exact oNe_nil (shp_ints 0 [])
    generalize pkD p = d at *
    rw [seq_nx (ρ' := [some (.bw L), some (.fz d), none]) (by
      unfold ki1
      simp [i1, hlen, e0, hw])]
    unfold ki2
    simp [i2, ho]
  rw [hg, seq_nx (ρ' := [some (.bw (l.map pkD)), none, none]) (by simp [hli]), seq_nx ((for_of rfl).trans hlo)]
  rfl

theorem sort_inner {α : Type} (key : α → Int) (s p : List α) : (s.mergeSort (leBy key) ++ p).mergeSort (leBy key) = (s ++ p).mergeSort (leBy key) := by
  refine sort_is key (sort_sorted key _) fun v => ?_
  rw [sort_filter, List.filter_append, List.filter_append, sort_filter]
theorem rowV_signs (ws : List Int) (j : Nat) : rowV ws (j + 1) = (signsV 0 ws ++ pairsV (rowV ws j)).mergeSort (leBy pkW) := sort_inner pkW _ _

/-- the signs of a row's packets are numbers of weights -/
theorem signs_lt : ∀ (ws : List Int) (k : Nat), ∀ p ∈ signsV k ws, ∀ x ∈ p.2, (0 : Int) ≤ x ∧ x < ((k + ws.length : Nat) : Int)
  | [], _, p, h, _, _ => by cases h
  | w :: r, k, p, h, x, hx => by
    rcases List.mem_cons.mp h with rfl | h
    · rw [List.mem_singleton.mp hx, List.length_cons]
      omega
    · have := signs_lt r (k + 1) p h x hx
      rw [List.length_cons]
      omega
theorem pairs_lt {n : Int} : ∀ (r : List Pk), (∀ p ∈ r, ∀ x ∈ p.2, (0 : Int) ≤ x ∧ x < n) → ∀ p ∈ pairsV r, ∀ x ∈ p.2, (0 : Int) ≤ x ∧ x < n
  | [], _, p, h, _, _ => by simp [pairsV] at h
  | [_], _, p, h, _, _ => by simp [pairsV] at h
  | a :: b :: r, hr, p, h, x, hx => by
    rcases List.mem_cons.mp (show p ∈ (a.1 + b.1, (a.2 ++ b.2).mergeSort leI) :: pairsV r from h) with rfl | h
    · rcases List.mem_append.mp ((List.mergeSort_perm _ _).mem_iff.mp hx) with hx | hx
      · exact hr a List.mem_cons_self x hx
      · exact hr b (List.mem_cons_of_mem _ List.mem_cons_self) x hx
    · exact pairs_lt r (fun q hq => hr q (List.mem_cons_of_mem _ (List.mem_cons_of_mem _ hq))) p h x hx
theorem row_lt (ws : List Int) : ∀ j, ∀ p ∈ rowV ws j, ∀ x ∈ p.2, (0 : Int) ≤ x ∧ x < ((0 + ws.length : Nat) : Int)
  | 0, p, h => signs_lt ws 0 p ((List.mergeSort_perm _ _).mem_iff.mp h)
  | j + 1, p, h => by
    rw [rowV_signs] at h
    rcases List.mem_append.mp ((List.mergeSort_perm _ _).mem_iff.mp h) with h | h
    · exact signs_lt ws 0 p h
    · exact pairs_lt _ (row_lt ws j) p h

/-! law_k06: slots 0:_law_script 1:_law_many_here 2:_law_bound_here 3:_law_weights_here 4:_law_handed 5:_law_found 6:_law_ahead 7:_law_sizes 8:_law_row_here -/
def g_law_k06 : SE := (sSeq (sSet 1 (eX (xCall M_law_many_3 (rL (lVar 0) rNil))))
  (sSeq (sSet 2 (eX (xCall M_law_bound_2 (rL (lVar 0) (rV (eVar 1) rNil)))))
  (sSeq (sSetX 3 (xCall M_law_weights (rL (lVar 0) (rV (eC (.int 4)) (rV (eVar 1) (rV (eOp oMod (eX (xCall M_law_cell (rL (lVar 0) (rV (eC (.int 2)) rNil)))) (eC (.int 5))) rNil))))))
  (sSeq (sSetL 4 (lVar 3))
  (sSeq (sSetX 5 (xCall M_packet_rows_2 (rL (lVar 4) (rV (eVar 2) rNil))))
  (sSeq (sIf (bOr (bOf (eOp oNe (rVar 4) (rVar 3))) (bOr (bNot (bOf (eIsI (rVar 5) "list"))) (bOf (eOp oNe (eLenV (rVar 5)) (rVar 2))))) (sRet (eC (.bool false))) sNext)
  (sSeq (sSetL 6 (lLst []))
  (sSeq (sSetL 7 (lLst []))
  (sSeq (sFrz 5 (sFor (sVar 5) (tgN 8) [8] (sSeq (sIf (bOr (bNot (bOf (eX (xCall M_law_kinds (rL (lVar 8) rNil))))) (bOf (eOp oNe (rVar 8) (eOfL (lX (xCall M_law_row (rL (lVar 3) (rL (lVar 6) rNil)))))))) (sRet (eC (.bool false))) sNext)
  (sSeq (sFrz 8 (sSet 6 (eVar 8)))
  (sApp 7 (eLenV (rVar 8)))))))
  (sSeq (sThaw 5 8 (eTup [(eC (.int 0)), (eTup [])]))
  (sRet (eOp oEq (rVar 7) (eOfL (lComp (lVar 5) (tgN 8) [8] bYes (eOp oSub (eLenV (rVar 8)) (eC (.int 1)))))))))))))))))
def F_law_k06 : FN := runF 1 9 g_law_k06
theorem kit_list6 (ds : List PyData) : kitB (tyName (.list ds)) "list" = some true := by
  show kitB "list" "list" = some true
  decide +kernel
abbrev env6 (ns ws : List Int) (b : Int) (x5 x6 x7 : Option SL) : Env := [some (.bw (ns.map PyData.int)), some (.fz (.int ((ws.length : Nat) : Int))), some (.fz (.int b)), some (.ow (ws.map PyData.int)), some (.ow (ws.map PyData.int)), x5, x6, x7, none]
abbrev body6 : SE := (sSeq (sIf (bOr (bNot (bOf (eX (xCall M_law_kinds (rL (lVar 8) rNil))))) (bOf (eOp oNe (rVar 8) (eOfL (lX (xCall M_law_row (rL (lVar 3) (rL (lVar 6) rNil)))))))) (sRet (eC (.bool false))) sNext)
  (sSeq (sFrz 8 (sSet 6 (eVar 8)))
  (sApp 7 (eLenV (rVar 8)))))
/-- the slot of the row ahead -/
def ahS (ws : List Int) : Nat → SL
  | 0 => .ow []
  | j + 1 => .fz (.list ((rowV ws j).map pkD))
/-- what stands ahead -/
def ahR (ws : List Int) : Nat → List Pk
  | 0 => []
  | j + 1 => rowV ws j
theorem row_of (ws : List Int) : ∀ j, rowV ws j = (signsV 0 ws ++ pairsV (ahR ws j)).mergeSort (leBy pkW)
  | 0 => by
    show (signsV 0 ws).mergeSort (leBy pkW) = _
    rw [show pairsV (ahR ws 0) = [] from rfl, List.append_nil]
  | j + 1 => rowV_signs ws j
abbrev env6e (ns ws : List Int) (b : Int) (x5 x6 x7 x8 : Option SL) : Env := [some (.bw (ns.map PyData.int)), some (.fz (.int ((ws.length : Nat) : Int))), some (.fz (.int b)), some (.ow (ws.map PyData.int)), some (.ow (ws.map PyData.int)), x5, x6, x7, x8]
/-- the lengths of the first j rows -/
def lens6 (ws : List Int) (j : Nat) : List Int := (List.range j).map fun k => (((rowV ws k).length : Nat) : Int)
theorem lens6_s (ws : List Int) (j : Nat) : lens6 ws (j + 1) = lens6 ws j ++ [(((rowV ws j).length : Nat) : Int)] := by
  unfold lens6
  rw [List.range_succ, List.map_append]
  rfl
theorem lens6_len (ws : List Int) (j : Nat) : (lens6 ws j).length = j := by
  unfold lens6
  rw [List.length_map, List.length_range]
theorem shp_pk (p : Pk) : shp 2 (pkD p) := shp_tup fun d hd => by
  rcases List.mem_cons.mp hd with rfl | hd
  · exact shp_int _ _
  · rw [List.mem_singleton.mp hd]
    exact shp_tints 0 _
theorem shp_row (l : List Pk) : shp 3 (.list (l.map pkD)) := shp_list fun d hd => by
  obtain ⟨p, _, rfl⟩ := List.mem_map.mp hd
  exact shp_pk p
theorem lVar_ah (ws ns : List Int) (b : Int) (x5 x7 x8 : Option SL) : ∀ j, lVar 6 (env6e ns ws b x5 (some (ahS ws j)) x7 x8) = .ok ((ahR ws j).map pkD)
  | 0 => rfl
  | _ + 1 => rfl
theorem two_le (j b : Nat) (h : j < b) (h2 : b ≤ 12) : 2 ^ j ≤ 4096 := by
  have : 2 ^ j ≤ 2 ^ 12 := Nat.pow_le_pow_right (by omega) (by omega)
  simpa using this
theorem ah_few (ws : List Int) (hn : ws.length ≤ 24) : ∀ j, j ≤ 12 → ∀ p ∈ ahR ws j, p.2.length ≤ 5000 ∧ ∀ x ∈ p.2, 0 ≤ x ∧ x < 24
  | 0, _, p, h => by cases h
  | j + 1, hj, p, h => by
    have h1 := (row_few ws j p h).2
    have h2 := row_lt ws j p h
    have h3 := two_le j 12 (by omega) (by omega)
    exact ⟨by omega, fun x hx => by have := h2 x hx; omega⟩
theorem ah_short (ws : List Int) (hn : ws.length ≤ 24) : ∀ j, (ahR ws j).length ≤ 800
  | 0 => by show 0 ≤ 800; omega
  | j + 1 => by
    have := row_short ws j
    show (rowV ws j).length ≤ 800
    omega
theorem turn6 {ns ws : List Int} {b j : Nat} (hn : ws.length ≤ 24) (hj : j < b) (hb : b ≤ 12) : turn (tgN 8) [8] body6 (.list ((rowV ws j).map pkD)) (env6e ns ws (b : Int) (some (.oo (rowsL ws b))) (some (ahS ws j)) (some (.ow ((lens6 ws j).map PyData.int))) none) = .nx (env6e ns ws (b : Int) (some (.oo (rowsL ws b))) (some (ahS ws (j + 1))) (some (.ow ((lens6 ws (j + 1)).map PyData.int))) none) := by
  have h1 := M_law_kinds_ok (l := rowV ws j) fun p hp => by
    have := (row_few ws j p hp).2
    have := two_le j b hj hb
    omega
  have h2 := M_law_row_ok (ws := ws) (ah := ahR ws j) hn (ah_few ws hn j (by omega)) (ah_short ws hn j) (signsV_len 0 ws)
  rw [← row_of] at h2
  have h3 := lVar_ah ws ns (b : Int) (some (.oo (rowsL ws b))) (some (.ow ((lens6 ws j).map PyData.int))) (some (.fz (.list ((rowV ws j).map pkD)))) j
  have h4 := oNe_refl (shp_row (rowV ws j))
  have h5 : ((lens6 ws j).map PyData.int).length < 1000000 := by rw [List.length_map, lens6_len]; omega
  have h6 : (lens6 ws (j + 1)).map PyData.int = (lens6 ws j).map PyData.int ++ [.int (((rowV ws j).map pkD).length : Nat)] := by
    rw [lens6_s, List.map_append, List.length_map]
    rfl
  refine (turn_nx (ρ1 := env6e ns ws (b : Int) (some (.oo (rowsL ws b))) (some (ahS ws j)) (some (.ow ((lens6 ws j).map PyData.int))) (some (.fz (.list ((rowV ws j).map pkD))))) (ρ2 := env6e ns ws (b : Int) (some (.oo (rowsL ws b))) (some (ahS ws (j + 1))) (some (.ow ((lens6 ws (j + 1)).map PyData.int))) (some (.fz (.list ((rowV ws j).map pkD))))) rfl ?_).trans rfl
  rw [h6, show ahS ws (j + 1) = .fz (.list ((rowV ws j).map pkD)) from rfl]
  generalize (lens6 ws j).map PyData.int = L at h3 h5 ⊢
  generalize (rowV ws j).map pkD = R at h1 h2 h3 h4 ⊢
  generalize (ahR ws j).map pkD = A at h2 h3
  generalize rowsL ws b = G at h3 ⊢
  generalize ahS ws j = S at h3 ⊢
  have h7 : bOr (bNot (bOf (eX (xCall M_law_kinds (rL (lVar 8) rNil))))) (bOf (eOp oNe (rVar 8) (eOfL (lX (xCall M_law_row (rL (lVar 3) (rL (lVar 6) rNil))))))) (env6e ns ws (b : Int) (some (.oo G)) (some S) (some (.ow L)) (some (.fz (.list R)))) = .ok false := by
    have e1 : eX (xCall M_law_kinds (rL (lVar 8) rNil)) (env6e ns ws (b : Int) (some (.oo G)) (some S) (some (.ow L)) (some (.fz (.list R)))) = .ok (.bool true) := eX_val (by rw [xCall_ap]; exact h1)
    have e2 : lX (xCall M_law_row (rL (lVar 3) (rL (lVar 6) rNil))) (env6e ns ws (b : Int) (some (.oo G)) (some S) (some (.ow L)) (some (.fz (.list R)))) = .ok R := lX_fresh (by
      rw [xCall_ap, rL_ap, rL_ap, h3]
      exact h2)
    rw [bOr_ap, bNot_ap, bOf_ap, e1, Out.bind_ok, Out.bind_ok, Out.bind_ok, if_neg (by decide), bOf_ap, eOp_ap, eOfL_ap, e2]
    rw [show rVar 8 (env6e ns ws (b : Int) (some (.oo G)) (some S) (some (.ow L)) (some (.fz (.list R)))) = .ok (.list R) from rfl, Out.bind_ok, Out.bind_ok, Out.bind_ok, h4]
    rfl
  unfold body6
  rw [seq_nx (ρ' := env6e ns ws (b : Int) (some (.oo G)) (some S) (some (.ow L)) (some (.fz (.list R)))) (by rw [sIf_ap, h7]; rfl)]
  rw [seq_nx (show sFrz 8 (sSet 6 (eVar 8)) (env6e ns ws (b : Int) (some (.oo G)) (some S) (some (.ow L)) (some (.fz (.list R)))) = .nx (env6e ns ws (b : Int) (some (.oo G)) (some (.fz (.list R))) (some (.ow L)) (some (.fz (.list R)))) from rfl)]
  show (if L.length < 1000000 then SO.nx _ else SO.stuck) = _
  rw [if_pos h5]
  rfl
theorem loop6 {ns ws : List Int} {b : Nat} (hn : ws.length ≤ 24) (hb : b ≤ 12) : ∀ (k j : Nat), j + k = b → forGo (tgN 8) [8] body6 ((List.range' j k).map fun i => PyData.list ((rowV ws i).map pkD)) (env6e ns ws (b : Int) (some (.oo (rowsL ws b))) (some (ahS ws j)) (some (.ow ((lens6 ws j).map PyData.int))) none) = .nx (env6e ns ws (b : Int) (some (.oo (rowsL ws b))) (some (ahS ws b)) (some (.ow ((lens6 ws b).map PyData.int))) none)
  | 0, j, h => by
    have : j = b := by omega
    subst this
    rfl
  | k + 1, j, h => by
    rw [List.range'_succ, List.map_cons, forGo_cons, turn6 hn (by omega) hb]
    exact loop6 hn hb k (j + 1) (by omega)
theorem rows6 (ws : List Int) (b : Nat) : (rowsL ws b).map PyData.list = (List.range' 0 b).map fun i => PyData.list ((rowV ws i).map pkD) := by
  unfold rowsL
  rw [List.map_map, List.range_eq_range']
  rfl
theorem flat_ints (ns : List Int) : (ns.map PyData.int).all flatD = true := by
  rw [List.all_eq_true]
  intro d hd
  obtain ⟨i, _, rfl⟩ := List.mem_map.mp hd
  rfl
theorem noL2_pk (p : Pk) : noL2 (pkD p) = true := by
  show ([PyData.int p.1, PyData.tuple (p.2.map PyData.int)]).all noL1 = true
  have := flat_ints p.2
  have : noL1 (.tuple (p.2.map PyData.int)) = true := this
  simp [this, noL1, flatD]
def add6 : PyData := .tuple [.int 0, .tuple []]
theorem thaw6 {ns ws : List Int} {b : Nat} (hn : ws.length ≤ 24) (hb : b ≤ 12) (h1 : 1 ≤ b) : sThaw 5 8 (eTup [(eC (.int 0)), (eTup [])]) (env6e ns ws (b : Int) (some (.oo (rowsL ws b))) (some (ahS ws b)) (some (.ow ((lens6 ws b).map PyData.int))) none) = .nx (env6e ns ws (b : Int) (some (.fz (.list ((rowsL ws b).map fun ds => .list (ds ++ [add6]))))) none (some (.ow ((lens6 ws b).map PyData.int))) none) := by
  have hs : (rowsL ws b).all (fun ds => decide (ds.length < 1000000) && ds.all noL2) = true := by
    rw [List.all_eq_true]
    intro ds hds
    obtain ⟨j, hj, rfl⟩ := List.mem_map.mp hds
    have := row_short ws j
    rw [List.length_map, Bool.and_eq_true]
    refine ⟨decide_eq_true (by omega), List.all_eq_true.mpr fun d hd => ?_⟩
    obtain ⟨p, _, rfl⟩ := List.mem_map.mp hd
    exact noL2_pk p
  have hl : (rowsL ws b).length < 1000000 := by
    unfold rowsL
    rw [List.length_map, List.length_range]
    omega
  obtain ⟨c, rfl⟩ : ∃ c, b = c + 1 := ⟨b - 1, by omega⟩
  have f0 : flatS (.bw (ns.map PyData.int)) = true := flat_ints ns
  have f3 : flatS (.ow (ws.map PyData.int)) = true := flat_ints ws
  have f7 : flatS (.ow ((lens6 ws (c + 1)).map PyData.int)) = true := flat_ints _
  have f6 : flatS (ahS ws (c + 1)) = false := rfl
  unfold sThaw
  generalize ahS ws (c + 1) = S at f6 ⊢
  generalize rowsL ws (c + 1) = G at hs hl ⊢
  generalize (lens6 ws (c + 1)).map PyData.int = L at f7 ⊢
  have e5 : (env6e ns ws ((c + 1 : Nat) : Int) (some (.oo G)) (some S) (some (.ow L)) none)[5]? = some (some (.oo G)) := rfl
  show (if G.all (fun ds => decide (ds.length < 1000000) && ds.all noL2) = true ∧ G.length < 1000000 ∧ 5 ≠ 8 ∧ 8 < 9 then SO.nx _ else SO.stuck) = _
  rw [if_pos ⟨hs, hl, by decide, by decide⟩]
  congr 1
  unfold keepFlat
  have f1 : ∀ i : Int, flatS (.fz (.int i)) = true := fun _ => rfl
  have f5 : flatS (.oo G) = false := rfl
  simp only [env6e, List.map_cons, List.map_nil, f0, f1, f3, f5, f6, f7, if_true, Bool.false_eq_true, if_false]
  rfl
def check6 : BE := (bOr (bOf (eOp oNe (rVar 4) (rVar 3))) (bOr (bNot (bOf (eIsI (rVar 5) "list"))) (bOf (eOp oNe (eLenV (rVar 5)) (rVar 2)))))
def last6 : VE := (eOp oEq (rVar 7) (eOfL (lComp (lVar 5) (tgN 8) [8] bYes (eOp oSub (eLenV (rVar 8)) (eC (.int 1))))))
theorem last6_ok {ns ws : List Int} {b : Nat} (hb : b ≤ 12) : last6 (env6e ns ws (b : Int) (some (.fz (.list ((rowsL ws b).map fun ds => .list (ds ++ [add6]))))) none (some (.ow ((lens6 ws b).map PyData.int))) none) = .ok (.bool true) := by
  have hc : lComp (lVar 5) (tgN 8) [8] bYes (eOp oSub (eLenV (rVar 8)) (eC (.int 1))) (env6e ns ws (b : Int) (some (.fz (.list ((rowsL ws b).map fun ds => .list (ds ++ [add6]))))) none (some (.ow ((lens6 ws b).map PyData.int))) none) = .ok ((lens6 ws b).map PyData.int) := by
    rw [lComp_map (fun d => match d with
      | .list es => .int (((es.length : Nat) : Int) - 1)
      | d => d) (ds := (rowsL ws b).map fun ds => .list (ds ++ [add6])) rfl (by rw [List.length_map]; unfold rowsL; rw [List.length_map, List.length_range]; omega) (fun d hd => by
        obtain ⟨ds, _, rfl⟩ := List.mem_map.mp hd
        exact ⟨_, rfl, rfl, rfl⟩)]
    congr 1
    unfold rowsL lens6
    rw [List.map_map, List.map_map, List.map_map]
    refine List.map_congr_left fun j _ => ?_
    show PyData.int (((((rowV ws j).map pkD ++ [add6]).length : Nat) : Int) - 1) = .int _
    rw [List.length_append, List.length_map, List.length_singleton]
    dsimp only
    congr 1
    omega
  unfold last6
  rw [eOp_ap, eOfL_ap, hc, show rVar 7 (env6e ns ws (b : Int) (some (.fz (.list ((rowsL ws b).map fun ds => .list (ds ++ [add6]))))) none (some (.ow ((lens6 ws b).map PyData.int))) none) = .ok (.list ((lens6 ws b).map PyData.int)) from rfl, Out.bind_ok, Out.bind_ok, Out.bind_ok]
  exact (oEq_ints _ _).trans (by rw [decide_eq_true rfl])
theorem g_law_k06_eq : g_law_k06 = (sSeq (sSet 1 (eX (xCall M_law_many_3 (rL (lVar 0) rNil))))
  (sSeq (sSet 2 (eX (xCall M_law_bound_2 (rL (lVar 0) (rV (eVar 1) rNil)))))
  (sSeq (sSetX 3 (xCall M_law_weights (rL (lVar 0) (rV (eC (.int 4)) (rV (eVar 1) (rV (eOp oMod (eX (xCall M_law_cell (rL (lVar 0) (rV (eC (.int 2)) rNil)))) (eC (.int 5))) rNil))))))
  (sSeq (sSetL 4 (lVar 3))
  (sSeq (sSetX 5 (xCall M_packet_rows_2 (rL (lVar 4) (rV (eVar 2) rNil))))
  (sSeq (sIf check6 (sRet (eC (.bool false))) sNext)
  (sSeq (sSetL 6 (lLst []))
  (sSeq (sSetL 7 (lLst []))
  (sSeq (sFrz 5 (sFor (sVar 5) (tgN 8) [8] body6))
  (sSeq (sThaw 5 8 (eTup [(eC (.int 0)), (eTup [])]))
  (sRet last6))))))))))) := rfl
abbrev envP6 (ns : List Int) (x1 x2 x3 x4 x5 : Option SL) : Env := [some (.bw (ns.map PyData.int)), x1, x2, x3, x4, x5, none, none, none]
theorem law_k06_true (ns : List Int) : F_law_k06 [.bw (ns.map PyData.int)] = .ok (.val (.bool true)) := by
  obtain ⟨n, hn, h1⟩ := M_law_many_3_ok ns
  obtain ⟨b, b1, b2, b3, h2⟩ := M_law_bound_2_ok ns hn
  have hk0 := Int.emod_nonneg (cellV ns 2) (b := 5) (by omega)
  have hk1 := Int.emod_lt_of_pos (cellV ns 2) (b := 5) (by omega)
  have h3 := M_law_weights_ok ns (first := 4) (kind := cellV ns 2 % 5) (n := n) (by omega) hn (by omega)
  obtain ⟨w1, w2⟩ := weights_ok ns 4 (cellV ns 2 % 5) hn
  generalize (List.range n).map (wOf ns 4 n (cellV ns 2 % 5)) = ws at h3 w1 w2
  subst w1
  have h4 := M_packet_rows_2_ok w2 hn b1 b2 b3
  have c2 := M_law_cell_ok ns (k := 2) (by omega) (by omega)
  have m5 : oMod (.int (cellV ns 2)) (.int 5) = .ok (.int (cellV ns 2 % 5)) := oMod_i (by omega)
  have hth := thaw6 (ns := ns) (ws := ws) hn b2 b1
  have hlast := last6_ok (ns := ns) (ws := ws) b2
  have hloop := loop6 (ns := ns) (ws := ws) hn b2 b 0 (by omega)
  rw [← rows6] at hloop
  rw [show ahS ws 0 = .ow [] from rfl, show lens6 ws 0 = [] from rfl] at hloop
  unfold F_law_k06
  refine runF_rt (envP6 ns none none none none none) rfl rfl (ρ' := (env6e ns ws (b : Int) (some (.fz (.list ((rowsL ws b).map fun ds => .list (ds ++ [add6]))))) none (some (.ow ((lens6 ws b).map PyData.int))) none)) ?_
  have hch : check6 (env6e ns ws (b : Int) (some (.oo (rowsL ws b))) none none none) = .ok false := by
    have e1 : oNe (.list (ws.map PyData.int)) (.list (ws.map PyData.int)) = .ok (.bool false) := by rw [oNe_ints, decide_eq_true rfl]; rfl
    have hl : (((rowsL ws b).map PyData.list).length : Int) = (b : Int) := by
      unfold rowsL
      rw [List.length_map, List.length_map, List.length_range]
    generalize rowsL ws b = G at hl ⊢
    have e2 : eIsI (rVar 5) "list" (env6e ns ws (b : Int) (some (.oo G)) none none none) = .ok (.bool true) := eIsI_ok (d := .list (G.map PyData.list)) rfl (kit_list6 _)
    have e3 : eLenV (rVar 5) (env6e ns ws (b : Int) (some (.oo G)) none none none) = .ok (.int (b : Int)) := by
      rw [← hl]
      rfl
    unfold check6
    rw [bOr_ap, bOf_ap, eOp_ap, show rVar 4 (env6e ns ws (b : Int) (some (.oo G)) none none none) = .ok (.list (ws.map PyData.int)) from rfl, Out.bind_ok, show rVar 3 (env6e ns ws (b : Int) (some (.oo G)) none none none) = .ok (.list (ws.map PyData.int)) from rfl, Out.bind_ok, e1, Out.bind_ok, Out.bind_ok, if_neg (by decide), bOr_ap, bNot_ap, bOf_ap, e2, Out.bind_ok, Out.bind_ok, Out.bind_ok, if_neg (by decide), bOf_ap, eOp_ap, e3, Out.bind_ok, show rVar 2 (env6e ns ws (b : Int) (some (.oo G)) none none none) = .ok (.int (b : Int)) from rfl, Out.bind_ok, oNe_i, decide_eq_true rfl]
    rfl
  rw [g_law_k06_eq]
  generalize rowsL ws b = G at h4 hch hth hlast hloop ⊢
  generalize (lens6 ws b).map PyData.int = L at hth hlast hloop ⊢
  rw [seq_nx (ρ' := envP6 ns (some (.fz (.int ((ws.length : Nat) : Int)))) none none none none) (by simp [h1])]
  rw [seq_nx (ρ' := envP6 ns (some (.fz (.int ((ws.length : Nat) : Int)))) (some (.fz (.int b))) none none none) (by simp [h2])]
  rw [seq_nx (ρ' := envP6 ns (some (.fz (.int ((ws.length : Nat) : Int)))) (some (.fz (.int b))) (some (.ow (ws.map PyData.int))) none none) (by simp [c2, m5, h3])]
  rw [seq_nx (show sSetL 4 (lVar 3) (envP6 ns (some (.fz (.int ((ws.length : Nat) : Int)))) (some (.fz (.int b))) (some (.ow (ws.map PyData.int))) none none) = .nx (envP6 ns (some (.fz (.int ((ws.length : Nat) : Int)))) (some (.fz (.int b))) (some (.ow (ws.map PyData.int))) (some (.ow (ws.map PyData.int))) none) from rfl)]
  rw [seq_nx (ρ' := env6e ns ws (b : Int) (some (.oo G)) none none none) (by simp [h4, slotOf])]
  rw [seq_nx (ρ' := env6e ns ws (b : Int) (some (.oo G)) none none none) (by rw [sIf_ap, hch]; rfl)]
  rw [seq_nx (show sSetL 6 (lLst []) (env6e ns ws (b : Int) (some (.oo G)) none none none) = .nx (env6e ns ws (b : Int) (some (.oo G)) (some (.ow [])) none none) from rfl)]
  rw [seq_nx (show sSetL 7 (lLst []) (env6e ns ws (b : Int) (some (.oo G)) (some (.ow [])) none none) = .nx (env6e ns ws (b : Int) (some (.oo G)) (some (.ow [])) (some (.ow [])) none) from rfl)]
  rw [seq_nx (show sFrz 5 (sFor (sVar 5) (tgN 8) [8] body6) (env6e ns ws (b : Int) (some (.oo G)) (some (.ow [])) (some (.ow [])) none) = _ from hloop)]
  rw [seq_nx hth, sRet_ap, hlast]
  rfl

end
end PL
namespace PL.L
open PySem L2 PL
def topS (i : Nat) : Stmt := PySem.Challenge.pw_shortlimit_k06_rows_of_packets.main.body.getD i (.Pass ⟨0, 0, 0, 0⟩)
structure Tops (K : PySem.W.Frag) (mg : Str → Option Value) : Prop where
  z_bool : mg "bool" = none
  z_enumerate : mg "enumerate" = none
  z_int : mg "int" = none
  z_isinstance : mg "isinstance" = none
  z_len : mg "len" = none
  z_list : mg "list" = none
  z_range : mg "range" = none
  z_sorted : mg "sorted" = none
  z_tuple : mg "tuple" = none
  c_MOST_BOUND : ∃ t, mg "MOST_BOUND" = some (.int 12 t)
  c_MOST_SIGNS : ∃ t, mg "MOST_SIGNS" = some (.int 24 t)
  c_MOST_WEIGHT : ∃ t, mg "MOST_WEIGHT" = some (.int 1000000000000 t)
  e_BadBound : ∃ A, XCls K mg "BadBound" A
  e_BadWeight : ∃ A, XCls K mg "BadWeight" A
  e_NoRoom : ∃ A, XCls K mg "NoRoom" A
  e_NoWeights : ∃ A, XCls K mg "NoWeights" A
  tk : TupK K

section
variable {P : Program} {w : World} {K : PySem.W.Frag} {mg : Str → Option Value} {base : Heap} {tb : List (Addr × Str)}
theorem Tops.x_BadBound (T : Tops K mg) : XCls K mg "BadBound" T.e_BadBound.choose := T.e_BadBound.choose_spec
theorem Tops.x_BadWeight (T : Tops K mg) : XCls K mg "BadWeight" T.e_BadWeight.choose := T.e_BadWeight.choose_spec
theorem Tops.x_NoRoom (T : Tops K mg) : XCls K mg "NoRoom" T.e_NoRoom.choose := T.e_NoRoom.choose_spec
theorem Tops.x_NoWeights (T : Tops K mg) : XCls K mg "NoWeights" T.e_NoWeights.choose := T.e_NoWeights.choose_spec
abbrev s_is_number : Stmt := topS 10
abbrev N_is_number : List Str := ["thing", "least", "most"]
theorem sc_is_number : FnScope N_is_number ["thing", "least", "most"] (defScope s_is_number) := ⟨rfl, rfl, rfl, by decide +kernel, rfl, by decide +kernel, by decide +kernel⟩
theorem d_is_number (T : Tops K mg) {f : Addr} {fd : FuncData} (F : Fun K "is_number" "is_number" s_is_number f fd) (hmg : mg "is_number" = some (.ref f)) : Dfn P w K mg base tb (cvOf mg) 1 "is_number" 3 M_is_number := by
  refine (mk_def (N := N_is_number) (ps := ["thing", "least", "most"]) (g := g_is_number) F sc_is_number hmg (F.binds fun _ _ _ _ _ _ us hl => match us, hl with | [_, _, _], _ => rfl) (fun cdv A outer s H O E hr hx tk hp => ?_)).imp ok_is_number
  exact (ss_one (s_ret (v_BV (v_and (bv_V (v_isI (T := "int") (by rfl) T.z_isinstance (by rfl) T.z_int (by decide +kernel) (r_var 0))) (v_and (v_not (bv_V (v_isI (T := "bool") (by rfl) T.z_isinstance (by rfl) T.z_bool (by decide +kernel) (r_var 0)))) (v_one (bv_V (v_chain d_le d_le (v_var 1) (v_var 0) (v_var 2)))))))))
abbrev s_need_bound : Stmt := topS 11
abbrev N_need_bound : List Str := ["bound"]
theorem sc_need_bound : FnScope N_need_bound ["bound"] (defScope s_need_bound) := ⟨rfl, rfl, rfl, by decide +kernel, rfl, by decide +kernel, by decide +kernel⟩
theorem d_need_bound (T : Tops K mg) {f : Addr} {fd : FuncData} (F : Fun K "need_bound" "need_bound" s_need_bound f fd) (hmg : mg "need_bound" = some (.ref f)) (D_is_number : Dfn P w K mg base tb (cvOf mg) 1 "is_number" 3 M_is_number) : Dfn P w K mg base tb (cvOf mg) 2 "need_bound" 1 M_need_bound := by
  refine (mk_def (N := N_need_bound) (ps := ["bound"]) (g := g_need_bound) F sc_need_bound hmg (F.binds fun _ _ _ _ _ _ us hl => match us, hl with | [_], _ => rfl) (fun cdv A outer s H O E hr hx tk hp => ?_)).imp ok_need_bound
  exact (ss_one (s_if (t_not (t_val (v_X (x_call D_is_number (hr.mono (by decide)) hx (by rfl) (ar_V (v_var 0) (ar_V v_int (ar_V (v_glob (by rfl) T.c_MOST_BOUND.choose_spec) ar_nil))) (rV_len (rV_len (rV_len rNil_len))))))) (ss_one (s_raiseC (n := "BadBound") T.x_BadBound rfl rfl rfl tk (by rfl))) ss_nil))
abbrev s_need_weights : Stmt := topS 12
abbrev N_need_weights : List Str := ["weights", "one"]
theorem sc_need_weights : FnScope N_need_weights ["weights"] (defScope s_need_weights) := ⟨rfl, rfl, rfl, by decide +kernel, rfl, by decide +kernel, by decide +kernel⟩
theorem d_need_weights (T : Tops K mg) {f : Addr} {fd : FuncData} (F : Fun K "need_weights" "need_weights" s_need_weights f fd) (hmg : mg "need_weights" = some (.ref f)) (D_is_number : Dfn P w K mg base tb (cvOf mg) 1 "is_number" 3 M_is_number) : Dfn P w K mg base tb (cvOf mg) 2 "need_weights" 1 M_need_weights := by
  refine (mk_def (N := N_need_weights) (ps := ["weights"]) (g := g_need_weights) F sc_need_weights hmg (F.binds fun _ _ _ _ _ _ us hl => match us, hl with | [_], _ => rfl) (fun cdv A outer s H O E hr hx tk hp => ?_)).imp ok_need_weights
  exact (ss_cons (s_if (t_cmp d_gt (v_len (by rfl) T.z_len (r_var 0)) (v_glob (by rfl) T.c_MOST_SIGNS.choose_spec)) (ss_one (s_raiseC (n := "NoWeights") T.x_NoWeights rfl rfl rfl tk (by rfl))) ss_nil)
      (ss_one (s_for (ws := [1]) hp rfl (w_var 0) (tg_name 1) (pg_name (i := 1) sc_need_weights.nd rfl (Or.inl rfl)) (ss_one (s_if (t_not (t_val (v_X (x_call D_is_number (hr.mono (by decide)) hx (by rfl) (ar_V (v_var 1) (ar_V v_int (ar_V (v_glob (by rfl) T.c_MOST_WEIGHT.choose_spec) ar_nil))) (rV_len (rV_len (rV_len rNil_len))))))) (ss_one (s_raiseC (n := "BadWeight") T.x_BadWeight rfl rfl rfl tk (by rfl))) ss_nil)))))
abbrev s_doubled : Stmt := topS 13
abbrev N_doubled : List Str := ["times", "found", "turn"]
theorem sc_doubled : FnScope N_doubled ["times"] (defScope s_doubled) := ⟨rfl, rfl, rfl, by decide +kernel, rfl, by decide +kernel, by decide +kernel⟩
theorem d_doubled (T : Tops K mg) {f : Addr} {fd : FuncData} (F : Fun K "doubled" "doubled" s_doubled f fd) (hmg : mg "doubled" = some (.ref f)) : Dfn P w K mg base tb (cvOf mg) 1 "doubled" 1 M_doubled := by
  refine (mk_def (N := N_doubled) (ps := ["times"]) (g := g_doubled) F sc_doubled hmg (F.binds fun _ _ _ _ _ _ us hl => match us, hl with | [_], _ => rfl) (fun cdv A outer s H O E hr hx tk hp => ?_)).imp ok_doubled
  exact (ss_cons (s_set (i := 1) sc_doubled.nd rfl (.inl rfl) v_int)
      (ss_cons (s_for (ws := [2]) hp rfl (w_range1 (by rfl) T.z_range (v_var 0)) (tg_name 2) (pg_name (i := 2) sc_doubled.nd rfl (Or.inl rfl)) (ss_one (s_set (i := 1) sc_doubled.nd rfl (.inl rfl) (v_op d_mul (v_var 1) v_int))))
      (ss_one (s_ret (v_var 1)))))
abbrev s_barred : Stmt := topS 14
abbrev N_barred : List Str := ["weights", "bound"]
theorem sc_barred : FnScope N_barred ["weights", "bound"] (defScope s_barred) := ⟨rfl, rfl, rfl, by decide +kernel, rfl, by decide +kernel, by decide +kernel⟩
theorem d_barred (T : Tops K mg) {f : Addr} {fd : FuncData} (F : Fun K "barred" "barred" s_barred f fd) (hmg : mg "barred" = some (.ref f)) (D_need_bound : Dfn P w K mg base tb (cvOf mg) 2 "need_bound" 1 M_need_bound) (D_need_weights : Dfn P w K mg base tb (cvOf mg) 2 "need_weights" 1 M_need_weights) (D_doubled : Dfn P w K mg base tb (cvOf mg) 1 "doubled" 1 M_doubled) : Dfn P w K mg base tb (cvOf mg) 3 "barred" 2 M_barred := by
  refine (mk_def (N := N_barred) (ps := ["weights", "bound"]) (g := g_barred) F sc_barred hmg (F.binds fun _ _ _ _ _ _ us hl => match us, hl with | [_, _], _ => rfl) (fun cdv A outer s H O E hr hx tk hp => ?_)).imp ok_barred
  exact (ss_cons (s_dropX (x_call D_need_weights (hr.mono (by decide)) hx (by rfl) (ar_L (l_var 0) ar_nil) (rL_len rNil_len)))
      (ss_cons (s_dropX (x_call D_need_bound (hr.mono (by decide)) hx (by rfl) (ar_V (v_var 1) ar_nil) (rV_len rNil_len)))
      (ss_cons (s_if (t_cmp d_gt (v_len (by rfl) T.z_len (r_var 0)) (v_X (x_call D_doubled (hr.mono (by decide)) hx (by rfl) (ar_V (v_var 1) ar_nil) (rV_len rNil_len)))) (ss_one (s_ret (v_tup (a_cons (v_len (by rfl) T.z_len (r_var 0)) (a_cons (v_X (x_call D_doubled (hr.mono (by decide)) hx (by rfl) (ar_V (v_var 1) ar_nil) (rV_len rNil_len))) a_nil))))) ss_nil)
      (ss_one (s_ret v_non)))))
abbrev s_need_room : Stmt := topS 15
abbrev N_need_room : List Str := ["weights", "bound"]
theorem sc_need_room : FnScope N_need_room ["weights", "bound"] (defScope s_need_room) := ⟨rfl, rfl, rfl, by decide +kernel, rfl, by decide +kernel, by decide +kernel⟩
theorem d_need_room (T : Tops K mg) {f : Addr} {fd : FuncData} (F : Fun K "need_room" "need_room" s_need_room f fd) (hmg : mg "need_room" = some (.ref f)) (D_barred : Dfn P w K mg base tb (cvOf mg) 3 "barred" 2 M_barred) : Dfn P w K mg base tb (cvOf mg) 4 "need_room" 2 M_need_room := by
  refine (mk_def (N := N_need_room) (ps := ["weights", "bound"]) (g := g_need_room) F sc_need_room hmg (F.binds fun _ _ _ _ _ _ us hl => match us, hl with | [_, _], _ => rfl) (fun cdv A outer s H O E hr hx tk hp => ?_)).imp ok_need_room
  exact (ss_one (s_if (t_notN (r_V (v_X (x_call D_barred (hr.mono (by decide)) hx (by rfl) (ar_L (l_var 0) (ar_V (v_var 1) ar_nil)) (rL_len (rV_len rNil_len)))))) (ss_one (s_raiseC (n := "NoRoom") T.x_NoRoom rfl rfl rfl tk (by rfl))) ss_nil))
abbrev s_weight_of : Stmt := topS 17
abbrev N_weight_of : List Str := ["packet"]
theorem sc_weight_of : FnScope N_weight_of ["packet"] (defScope s_weight_of) := ⟨rfl, rfl, rfl, by decide +kernel, rfl, by decide +kernel, by decide +kernel⟩
theorem d_weight_of (T : Tops K mg) {f : Addr} {fd : FuncData} (F : Fun K "weight_of" "weight_of" s_weight_of f fd) (hmg : mg "weight_of" = some (.ref f)) : Dfn P w K mg base tb (cvOf mg) 1 "weight_of" 1 M_weight_of := by
  refine (mk_def (N := N_weight_of) (ps := ["packet"]) (g := g_weight_of) F sc_weight_of hmg (F.binds fun _ _ _ _ _ _ us hl => match us, hl with | [_], _ => rfl) (fun cdv A outer s H O E hr hx tk hp => ?_)).imp ok_weight_of
  exact (ss_one (s_ret (v_ixT (v_var 0) v_int)))
abbrev s_singles : Stmt := topS 18
abbrev N_singles : List Str := ["weights", "sign", "weight"]
theorem sc_singles : FnScope N_singles ["weights"] (defScope s_singles) := ⟨rfl, rfl, rfl, by decide +kernel, rfl, by decide +kernel, by decide +kernel⟩
theorem d_singles (T : Tops K mg) {f : Addr} {fd : FuncData} (F : Fun K "singles" "singles" s_singles f fd) (hmg : mg "singles" = some (.ref f)) (D_weight_of : Dfn P w K mg base tb (cvOf mg) 1 "weight_of" 1 M_weight_of) (KF_weight_of : KeyF P w K mg "weight_of") : Dfn P w K mg base tb (cvOf mg) 2 "singles" 1 M_singles := by
  refine (mk_def (N := N_singles) (ps := ["weights"]) (g := g_singles) F sc_singles hmg (F.binds fun _ _ _ _ _ _ us hl => match us, hl with | [_], _ => rfl) (fun cdv A outer s H O E hr hx tk hp => ?_)).imp ok_singles
  exact (ss_one (s_retL (fun _ h => nomatch h) (f_sortK (nm := "key") KF_weight_of (hr.mono (by decide)) (by rfl) T.z_sorted (by rfl) (l_F (f_lc (own := [("sign", 1), ("weight", 2)]) rfl sc_singles.nd (wE_enum (by rfl) T.z_enumerate (l_var 0)) (tg_pair 1 2) (blkOk_by (own := [("sign", 1), ("weight", 2)]) (N := N_singles) (sc := defScope s_singles) (by decide +kernel)) (by decide) (fun _ _ _ _ _ => (pg_tup rfl (pgs_cons (pg_name (i := 1) sc_singles.nd rfl (Or.inl rfl)) (pgs_cons (pg_name (i := 2) sc_singles.nd rfl (Or.inl rfl)) pgs_nil)))) (fun _ _ _ _ _ => ts_nil) (fun _ _ _ _ _ => (v_tup (a_cons (v_var 2) (a_cons (v_tup (a_cons (v_var 1) a_nil)) a_nil)))))))))
abbrev s_pairs_of : Stmt := topS 19
abbrev N_pairs_of : List Str := ["row", "found", "at", "one", "other"]
theorem sc_pairs_of : FnScope N_pairs_of ["row"] (defScope s_pairs_of) := ⟨rfl, rfl, rfl, by decide +kernel, rfl, by decide +kernel, by decide +kernel⟩
theorem d_pairs_of (T : Tops K mg) {f : Addr} {fd : FuncData} (F : Fun K "pairs_of" "pairs_of" s_pairs_of f fd) (hmg : mg "pairs_of" = some (.ref f)) : Dfn P w K mg base tb (cvOf mg) 1 "pairs_of" 1 M_pairs_of := by
  refine (mk_def (N := N_pairs_of) (ps := ["row"]) (g := g_pairs_of) F sc_pairs_of hmg (F.binds fun _ _ _ _ _ _ us hl => match us, hl with | [_], _ => rfl) (fun cdv A outer s H O E hr hx tk hp => ?_)).imp ok_pairs_of
  exact (ss_cons (s_setL (i := 1) (fun _ h => nomatch h) sc_pairs_of.nd rfl (.inl rfl) (f_lst a_nil))
      (ss_cons (s_for (ws := [2, 3, 4]) hp rfl (w_range3 (by rfl) T.z_range v_int (v_op d_sub (v_len (by rfl) T.z_len (r_var 0)) v_int) v_int) (tg_name 2) (pg_name (i := 2) sc_pairs_of.nd rfl (Or.inl rfl)) (ss_cons (s_par (i := 3) (j := 4) rfl sc_pairs_of.nd rfl rfl (by decide) rfl rfl (v_ix (l_var 0) (v_var 2)) (v_ix (l_var 0) (v_op d_add (v_var 2) v_int)) (by rfl))
      (ss_one (s_app 1 (v_tup (a_cons (v_op d_add (v_ixT (v_var 3) v_int) (v_ixT (v_var 4) v_int)) (a_cons (v_tupL (by rfl) T.z_tuple (l_F (f_sortT (by rfl) T.z_sorted (r_catT (v_ixT (v_var 3) v_int) (v_ixT (v_var 4) v_int))))) a_nil)))))))
      (ss_one (s_retO 1 rfl))))
abbrev s_packet_rows : Stmt := topS 20
abbrev N_packet_rows : List Str := ["weights", "bound", "rows"]
theorem sc_packet_rows : FnScope N_packet_rows ["weights", "bound"] (defScope s_packet_rows) := ⟨rfl, rfl, rfl, by decide +kernel, rfl, by decide +kernel, by decide +kernel⟩
theorem d_packet_rows (T : Tops K mg) {f : Addr} {fd : FuncData} (F : Fun K "packet_rows" "packet_rows" s_packet_rows f fd) (hmg : mg "packet_rows" = some (.ref f)) (D_need_room : Dfn P w K mg base tb (cvOf mg) 4 "need_room" 2 M_need_room) (D_weight_of : Dfn P w K mg base tb (cvOf mg) 1 "weight_of" 1 M_weight_of) (D_singles : Dfn P w K mg base tb (cvOf mg) 2 "singles" 1 M_singles) (D_pairs_of : Dfn P w K mg base tb (cvOf mg) 1 "pairs_of" 1 M_pairs_of) (KF_weight_of : KeyF P w K mg "weight_of") : Dfn P w K mg base tb (cvOf mg) 5 "packet_rows" 2 M_packet_rows_2 := by
  refine (mk_def (N := N_packet_rows) (ps := ["weights", "bound"]) (g := g_packet_rows_2) F sc_packet_rows hmg (F.binds fun _ _ _ _ _ _ us hl => match us, hl with | [_, _], _ => rfl) (fun cdv A outer s H O E hr hx tk hp => ?_)).imp ok_packet_rows_2
  exact (ss_cons (s_dropX (x_call D_need_room (hr.mono (by decide)) hx (by rfl) (ar_L (l_var 0) (ar_V (v_var 1) ar_nil)) (rL_len (rV_len rNil_len))))
      (ss_cons (s_setG (i := 2) sc_packet_rows.nd rfl (.inl rfl) (f_X (x_call D_singles (hr.mono (by decide)) hx (by rfl) (ar_L (l_var 0) ar_nil) (rL_len rNil_len))))
      (ss_cons (s_while (n := 20) (ws := []) hp (t_cmp d_lt (v_len (by rfl) T.z_len (r_var 2)) (v_var 1)) (ss_one (s_appG 2 (f_sortK (nm := "key") KF_weight_of (hr.mono (by decide)) (by rfl) T.z_sorted (by rfl) (l_F (f_cat (o_F (f_X (x_call D_singles (hr.mono (by decide)) hx (by rfl) (ar_L (l_var 0) ar_nil) (rL_len rNil_len)))) (o_F (f_X (x_call D_pairs_of (hr.mono (by decide)) hx (by rfl) (ar_L (l_V (v_ix (l_var 2) (v_neg v_int))) ar_nil) (rL_len rNil_len))))))))))
      (ss_one (s_retO 2 rfl)))))
abbrev s__law_cell : Stmt := topS 22
abbrev N__law_cell : List Str := ["_law_script", "_law_k", "_law_number"]
theorem sc__law_cell : FnScope N__law_cell ["_law_script", "_law_k"] (defScope s__law_cell) := ⟨rfl, rfl, rfl, by decide +kernel, rfl, by decide +kernel, by decide +kernel⟩
theorem d__law_cell (T : Tops K mg) {f : Addr} {fd : FuncData} (F : Fun K "_law_cell" "_law_cell" s__law_cell f fd) (hmg : mg "_law_cell" = some (.ref f)) : Dfn P w K mg base tb (cvOf mg) 1 "_law_cell" 2 M_law_cell := by
  refine (mk_def (N := N__law_cell) (ps := ["_law_script", "_law_k"]) (g := g_law_cell) F sc__law_cell hmg (F.binds fun _ _ _ _ _ _ us hl => match us, hl with | [_, _], _ => rfl) (fun cdv A outer s H O E hr hx tk hp => ?_)).imp ok_law_cell
  exact (ss_cons (s_if (t_cmp d_lt (v_var 1) (v_len (by rfl) T.z_len (r_var 0))) (ss_one (s_ret (v_ix (l_var 0) (v_var 1)))) ss_nil)
      (ss_cons (s_set (i := 2) sc__law_cell.nd rfl (.inl rfl) (v_op d_add (v_op d_mul (v_var 1) v_int) v_int))
      (ss_cons (s_if (t_cmp d_gt (v_len (by rfl) T.z_len (r_var 0)) v_int) (ss_one (s_set (i := 2) sc__law_cell.nd rfl (.inl rfl) (v_op d_mod (v_op d_add (v_op d_mul (v_ix (l_var 0) (v_op d_mod (v_op d_mul (v_var 1) v_int) (v_len (by rfl) T.z_len (r_var 0)))) v_int) (v_op d_mul (v_var 1) v_int)) v_int))) ss_nil)
      (ss_one (s_ret (v_op d_mod (v_op d_mul (v_var 2) (v_var 2)) v_int))))))
abbrev s__law_whole : Stmt := topS 23
abbrev N__law_whole : List Str := ["_law_found"]
theorem sc__law_whole : FnScope N__law_whole ["_law_found"] (defScope s__law_whole) := ⟨rfl, rfl, rfl, by decide +kernel, rfl, by decide +kernel, by decide +kernel⟩
theorem d__law_whole (T : Tops K mg) {f : Addr} {fd : FuncData} (F : Fun K "_law_whole" "_law_whole" s__law_whole f fd) (hmg : mg "_law_whole" = some (.ref f)) : Dfn P w K mg base tb (cvOf mg) 1 "_law_whole" 1 M_law_whole := by
  refine (mk_def (N := N__law_whole) (ps := ["_law_found"]) (g := g_law_whole) F sc__law_whole hmg (F.binds fun _ _ _ _ _ _ us hl => match us, hl with | [_], _ => rfl) (fun cdv A outer s H O E hr hx tk hp => ?_)).imp ok_law_whole
  exact (ss_one (s_ret (v_BV (v_and (bv_V (v_isI (T := "int") (by rfl) T.z_isinstance (by rfl) T.z_int (by decide +kernel) (r_var 0))) (v_one (v_not (bv_V (v_isI (T := "bool") (by rfl) T.z_isinstance (by rfl) T.z_bool (by decide +kernel) (r_var 0)))))))))
abbrev s__law_doubled : Stmt := topS 24
abbrev N__law_doubled : List Str := ["_law_times", "_law_found", "_law_turn"]
theorem sc__law_doubled : FnScope N__law_doubled ["_law_times"] (defScope s__law_doubled) := ⟨rfl, rfl, rfl, by decide +kernel, rfl, by decide +kernel, by decide +kernel⟩
theorem d__law_doubled (T : Tops K mg) {f : Addr} {fd : FuncData} (F : Fun K "_law_doubled" "_law_doubled" s__law_doubled f fd) (hmg : mg "_law_doubled" = some (.ref f)) : Dfn P w K mg base tb (cvOf mg) 1 "_law_doubled" 1 M_law_doubled := by
  refine (mk_def (N := N__law_doubled) (ps := ["_law_times"]) (g := g_law_doubled) F sc__law_doubled hmg (F.binds fun _ _ _ _ _ _ us hl => match us, hl with | [_], _ => rfl) (fun cdv A outer s H O E hr hx tk hp => ?_)).imp ok_law_doubled
  exact (ss_cons (s_set (i := 1) sc__law_doubled.nd rfl (.inl rfl) v_int)
      (ss_cons (s_for (ws := [2]) hp rfl (w_range1 (by rfl) T.z_range (v_var 0)) (tg_name 2) (pg_name (i := 2) sc__law_doubled.nd rfl (Or.inl rfl)) (ss_one (s_set (i := 1) sc__law_doubled.nd rfl (.inl rfl) (v_op d_mul (v_var 1) v_int))))
      (ss_one (s_ret (v_var 1)))))
abbrev s__law_weights : Stmt := topS 25
abbrev N__law_weights : List Str := ["_law_script", "_law_first", "_law_many_here", "_law_kind", "_law_weights_here", "_law_k", "_law_cell_here", "_law_step"]
theorem sc__law_weights : FnScope N__law_weights ["_law_script", "_law_first", "_law_many_here", "_law_kind"] (defScope s__law_weights) := ⟨rfl, rfl, rfl, by decide +kernel, rfl, by decide +kernel, by decide +kernel⟩
theorem d__law_weights (T : Tops K mg) {f : Addr} {fd : FuncData} (F : Fun K "_law_weights" "_law_weights" s__law_weights f fd) (hmg : mg "_law_weights" = some (.ref f)) (D__law_cell : Dfn P w K mg base tb (cvOf mg) 1 "_law_cell" 2 M_law_cell) (D__law_doubled : Dfn P w K mg base tb (cvOf mg) 1 "_law_doubled" 1 M_law_doubled) : Dfn P w K mg base tb (cvOf mg) 2 "_law_weights" 4 M_law_weights := by
  refine (mk_def (N := N__law_weights) (ps := ["_law_script", "_law_first", "_law_many_here", "_law_kind"]) (g := g_law_weights) F sc__law_weights hmg (F.binds fun _ _ _ _ _ _ us hl => match us, hl with | [_, _, _, _], _ => rfl) (fun cdv A outer s H O E hr hx tk hp => ?_)).imp ok_law_weights
  exact (ss_cons (s_setL (i := 4) (fun _ h => nomatch h) sc__law_weights.nd rfl (.inl rfl) (f_lst a_nil))
      (ss_cons (s_for (ws := [5, 6, 7]) hp rfl (w_range1 (by rfl) T.z_range (v_var 2)) (tg_name 5) (pg_name (i := 5) sc__law_weights.nd rfl (Or.inl rfl)) (ss_cons (s_set (i := 6) sc__law_weights.nd rfl (.inl rfl) (v_X (x_call D__law_cell (hr.mono (by decide)) hx (by rfl) (ar_L (l_var 0) (ar_V (v_op d_add (v_var 1) (v_var 5)) ar_nil)) (rL_len (rV_len rNil_len)))))
      (ss_cons (s_if (t_cmpR (d_eq hr.units) (r_var 3) (r_V v_int)) (ss_one (s_app 4 (v_op d_mod (v_var 6) v_int))) ss_nil)
      (ss_cons (s_if (t_cmpR (d_eq hr.units) (r_var 3) (r_V v_int)) (ss_one (s_app 4 (v_op d_mod (v_var 6) v_int))) ss_nil)
      (ss_cons (s_if (t_cmpR (d_eq hr.units) (r_var 3) (r_V v_int)) (ss_one (s_app 4 (v_op d_mod (v_var 6) v_int))) ss_nil)
      (ss_cons (s_if (t_cmpR (d_eq hr.units) (r_var 3) (r_V v_int)) (ss_cons (s_set (i := 7) sc__law_weights.nd rfl (.inl rfl) (v_op d_add v_int (v_op d_mod (v_op d_fdiv (v_X (x_call D__law_cell (hr.mono (by decide)) hx (by rfl) (ar_L (l_var 0) (ar_V v_int ar_nil)) (rL_len (rV_len rNil_len)))) v_int) v_int)))
      (ss_one (s_app 4 (v_op d_mul (v_op d_add v_int (v_op d_mod (v_var 6) v_int)) (v_X (x_call D__law_doubled (hr.mono (by decide)) hx (by rfl) (ar_V (v_op d_mod (v_op d_mul (v_var 5) (v_var 7)) (v_op d_add (v_var 2) v_int)) ar_nil) (rV_len rNil_len))))))) ss_nil)
      (ss_one (s_if (t_cmpR (d_eq hr.units) (r_var 3) (r_V v_int)) (ss_one (s_app 4 (v_op d_sub v_int (v_op d_mod (v_var 6) v_int)))) ss_nil))))))))
      (ss_one (s_retO 4 rfl))))
abbrev s__law_least_bound : Stmt := topS 26
abbrev N__law_least_bound : List Str := ["_law_many_here", "_law_bound_here"]
theorem sc__law_least_bound : FnScope N__law_least_bound ["_law_many_here"] (defScope s__law_least_bound) := ⟨rfl, rfl, rfl, by decide +kernel, rfl, by decide +kernel, by decide +kernel⟩
theorem d__law_least_bound (T : Tops K mg) {f : Addr} {fd : FuncData} (F : Fun K "_law_least_bound" "_law_least_bound" s__law_least_bound f fd) (hmg : mg "_law_least_bound" = some (.ref f)) (D__law_doubled : Dfn P w K mg base tb (cvOf mg) 1 "_law_doubled" 1 M_law_doubled) : Dfn P w K mg base tb (cvOf mg) 2 "_law_least_bound" 1 M_law_least_bound := by
  refine (mk_def (N := N__law_least_bound) (ps := ["_law_many_here"]) (g := g_law_least_bound) F sc__law_least_bound hmg (F.binds fun _ _ _ _ _ _ us hl => match us, hl with | [_], _ => rfl) (fun cdv A outer s H O E hr hx tk hp => ?_)).imp ok_law_least_bound
  exact (ss_cons (s_set (i := 1) sc__law_least_bound.nd rfl (.inl rfl) v_int)
      (ss_cons (s_while (n := 64) (ws := []) hp (t_cmp d_lt (v_X (x_call D__law_doubled (hr.mono (by decide)) hx (by rfl) (ar_V (v_var 1) ar_nil) (rV_len rNil_len))) (v_var 0)) (ss_one (s_set (i := 1) sc__law_least_bound.nd rfl (.inl rfl) (v_op d_add (v_var 1) v_int))))
      (ss_one (s_ret (v_var 1)))))
abbrev s__law_many : Stmt := topS 27
abbrev N__law_many : List Str := ["_law_script", "_law_many_here"]
theorem sc__law_many : FnScope N__law_many ["_law_script"] (defScope s__law_many) := ⟨rfl, rfl, rfl, by decide +kernel, rfl, by decide +kernel, by decide +kernel⟩
theorem d__law_many (T : Tops K mg) {f : Addr} {fd : FuncData} (F : Fun K "_law_many" "_law_many" s__law_many f fd) (hmg : mg "_law_many" = some (.ref f)) (D__law_cell : Dfn P w K mg base tb (cvOf mg) 1 "_law_cell" 2 M_law_cell) : Dfn P w K mg base tb (cvOf mg) 2 "_law_many" 1 M_law_many_3 := by
  refine (mk_def (N := N__law_many) (ps := ["_law_script"]) (g := g_law_many_3) F sc__law_many hmg (F.binds fun _ _ _ _ _ _ us hl => match us, hl with | [_], _ => rfl) (fun cdv A outer s H O E hr hx tk hp => ?_)).imp ok_law_many_3
  exact (ss_cons (s_set (i := 1) sc__law_many.nd rfl (.inl rfl) (v_op d_mod (v_X (x_call D__law_cell (hr.mono (by decide)) hx (by rfl) (ar_L (l_var 0) (ar_V v_int ar_nil)) (rL_len (rV_len rNil_len)))) v_int))
      (ss_cons (s_if (t_cmpR (d_eq hr.units) (r_V (v_op d_mod (v_op d_fdiv (v_X (x_call D__law_cell (hr.mono (by decide)) hx (by rfl) (ar_L (l_var 0) (ar_V v_int ar_nil)) (rL_len (rV_len rNil_len)))) v_int) v_int)) (r_V v_int)) (ss_one (s_set (i := 1) sc__law_many.nd rfl (.inl rfl) (v_op d_mod (v_op d_fdiv (v_X (x_call D__law_cell (hr.mono (by decide)) hx (by rfl) (ar_L (l_var 0) (ar_V v_int ar_nil)) (rL_len (rV_len rNil_len)))) v_int) v_int))) ss_nil)
      (ss_one (s_ret (v_var 1)))))
abbrev s__law_bound : Stmt := topS 28
abbrev N__law_bound : List Str := ["_law_script", "_law_many_here", "_law_least"]
theorem sc__law_bound : FnScope N__law_bound ["_law_script", "_law_many_here"] (defScope s__law_bound) := ⟨rfl, rfl, rfl, by decide +kernel, rfl, by decide +kernel, by decide +kernel⟩
theorem d__law_bound (T : Tops K mg) {f : Addr} {fd : FuncData} (F : Fun K "_law_bound" "_law_bound" s__law_bound f fd) (hmg : mg "_law_bound" = some (.ref f)) (D__law_cell : Dfn P w K mg base tb (cvOf mg) 1 "_law_cell" 2 M_law_cell) (D__law_least_bound : Dfn P w K mg base tb (cvOf mg) 2 "_law_least_bound" 1 M_law_least_bound) : Dfn P w K mg base tb (cvOf mg) 3 "_law_bound" 2 M_law_bound_2 := by
  refine (mk_def (N := N__law_bound) (ps := ["_law_script", "_law_many_here"]) (g := g_law_bound_2) F sc__law_bound hmg (F.binds fun _ _ _ _ _ _ us hl => match us, hl with | [_, _], _ => rfl) (fun cdv A outer s H O E hr hx tk hp => ?_)).imp ok_law_bound_2
  exact (ss_cons (s_set (i := 2) sc__law_bound.nd rfl (.inl rfl) (v_X (x_call D__law_least_bound (hr.mono (by decide)) hx (by rfl) (ar_V (v_var 1) ar_nil) (rV_len rNil_len))))
      (ss_cons (s_if (t_cmpR (d_eq hr.units) (r_V (v_op d_mod (v_op d_fdiv (v_X (x_call D__law_cell (hr.mono (by decide)) hx (by rfl) (ar_L (l_var 0) (ar_V v_int ar_nil)) (rL_len (rV_len rNil_len)))) v_int) v_int)) (r_V v_int)) (ss_one (s_ret (v_op d_add (v_var 2) (v_op d_mod (v_op d_fdiv (v_X (x_call D__law_cell (hr.mono (by decide)) hx (by rfl) (ar_L (l_var 0) (ar_V v_int ar_nil)) (rL_len (rV_len rNil_len)))) v_int) (v_op d_sub v_int (v_var 2)))))) ss_nil)
      (ss_one (s_ret (v_op d_add (v_var 2) (v_op d_mod (v_X (x_call D__law_cell (hr.mono (by decide)) hx (by rfl) (ar_L (l_var 0) (ar_V v_int ar_nil)) (rL_len (rV_len rNil_len)))) v_int))))))
abbrev s__law_put : Stmt := topS 29
abbrev N__law_put : List Str := ["_law_row_here", "_law_packet", "_law_at"]
theorem sc__law_put : FnScope N__law_put ["_law_row_here", "_law_packet"] (defScope s__law_put) := ⟨rfl, rfl, rfl, by decide +kernel, rfl, by decide +kernel, by decide +kernel⟩
theorem d__law_put (T : Tops K mg) {f : Addr} {fd : FuncData} (F : Fun K "_law_put" "_law_put" s__law_put f fd) (hmg : mg "_law_put" = some (.ref f)) : DfnM P w K mg base tb 1 "_law_put" 2 M_law_put := by
  refine (mk_defM (cv := cvOf mg) (N := N__law_put) (ps := ["_law_row_here", "_law_packet"]) (g := g_law_put) F sc__law_put hmg (F.binds fun _ _ _ _ _ _ us hl => match us, hl with | [_, _], _ => rfl) (fun cdv A outer s H O p E hr hx tk hp => ?_)).imp ok_law_put
  exact (ss_cons (s_set (i := 2) sc__law_put.nd rfl (.inl rfl) (v_len (by rfl) T.z_len (r_var 0)))
      (ss_cons (s_while (n := 1000) (ws := []) hp (PW.pt (w_and (t_cmp d_gt (v_var 2) v_int) (w_and1 (t_cmp d_gt (v_ixT (v_ix (l_var 0) (v_op d_sub (v_var 2) v_int)) v_int) (v_ixT (v_var 1) v_int))))) (ss_one (s_set (i := 2) sc__law_put.nd rfl (.inl rfl) (v_op d_sub (v_var 2) v_int))))
      (ss_one (s_insM 0 (v_var 2) (v_var 1)))))
abbrev s__law_pairs : Stmt := topS 30
abbrev N__law_pairs : List Str := ["_law_row_here", "_law_found", "_law_k", "_law_one", "_law_other", "_law_signs", "_law_sign"]
theorem sc__law_pairs : FnScope N__law_pairs ["_law_row_here"] (defScope s__law_pairs) := ⟨rfl, rfl, rfl, by decide +kernel, rfl, by decide +kernel, by decide +kernel⟩
theorem d__law_pairs (T : Tops K mg) {f : Addr} {fd : FuncData} (F : Fun K "_law_pairs" "_law_pairs" s__law_pairs f fd) (hmg : mg "_law_pairs" = some (.ref f)) : Dfn P w K mg base tb (cvOf mg) 1 "_law_pairs" 1 M_law_pairs := by
  refine (mk_def (N := N__law_pairs) (ps := ["_law_row_here"]) (g := g_law_pairs) F sc__law_pairs hmg (F.binds fun _ _ _ _ _ _ us hl => match us, hl with | [_], _ => rfl) (fun cdv A outer s H O E hr hx tk hp => ?_)).imp ok_law_pairs
  exact (ss_cons (s_setL (i := 1) (fun _ h => nomatch h) sc__law_pairs.nd rfl (.inl rfl) (f_lst a_nil))
      (ss_cons (s_for (ws := [2, 3, 4, 5, 6]) hp rfl (w_range1 (by rfl) T.z_range (v_op d_fdiv (v_len (by rfl) T.z_len (r_var 0)) v_int)) (tg_name 2) (pg_name (i := 2) sc__law_pairs.nd rfl (Or.inl rfl)) (ss_cons (s_set (i := 3) sc__law_pairs.nd rfl (.inl rfl) (v_ix (l_var 0) (v_op d_mul v_int (v_var 2))))
      (ss_cons (s_set (i := 4) sc__law_pairs.nd rfl (.inl rfl) (v_ix (l_var 0) (v_op d_add (v_op d_mul v_int (v_var 2)) v_int)))
      (ss_cons (s_setL (i := 5) (fun _ h => nomatch h) sc__law_pairs.nd rfl (.inl rfl) (f_lst a_nil))
      (ss_cons (s_for (ws := [6]) hp rfl (w_range1 (by rfl) T.z_range v_int) (tg_name 6) (pg_name (i := 6) sc__law_pairs.nd rfl (Or.inl rfl)) (ss_one (s_setL (i := 5) (fun _ h => nomatch h) sc__law_pairs.nd rfl (.inl rfl) (f_cat (o_var 5) (o_F (f_rep (o_F (f_lst (a_cons (v_var 6) a_nil))) (v_op d_add (v_tcount T.tk (v_ixT (v_var 3) v_int) (v_var 6)) (v_tcount T.tk (v_ixT (v_var 4) v_int) (v_var 6)))))))))
      (ss_one (s_app 1 (v_tup (a_cons (v_op d_add (v_ixT (v_var 3) v_int) (v_ixT (v_var 4) v_int)) (a_cons (v_tupL (by rfl) T.z_tuple (l_var 5)) a_nil))))))))))
      (ss_one (s_retO 1 rfl))))
abbrev s__law_row : Stmt := topS 31
abbrev N__law_row : List Str := ["_law_weights_here", "_law_ahead", "_law_row_here", "_law_k", "_law_packet"]
theorem sc__law_row : FnScope N__law_row ["_law_weights_here", "_law_ahead"] (defScope s__law_row) := ⟨rfl, rfl, rfl, by decide +kernel, rfl, by decide +kernel, by decide +kernel⟩
theorem d__law_row (T : Tops K mg) {f : Addr} {fd : FuncData} (F : Fun K "_law_row" "_law_row" s__law_row f fd) (hmg : mg "_law_row" = some (.ref f)) (D__law_put : DfnM P w K mg base tb 1 "_law_put" 2 M_law_put) (D__law_pairs : Dfn P w K mg base tb (cvOf mg) 1 "_law_pairs" 1 M_law_pairs) : Dfn P w K mg base tb (cvOf mg) 2 "_law_row" 2 M_law_row := by
  refine (mk_def (N := N__law_row) (ps := ["_law_weights_here", "_law_ahead"]) (g := g_law_row) F sc__law_row hmg (F.binds fun _ _ _ _ _ _ us hl => match us, hl with | [_, _], _ => rfl) (fun cdv A outer s H O E hr hx tk hp => ?_)).imp ok_law_row
  exact (ss_cons (s_setL (i := 2) (fun _ h => nomatch h) sc__law_row.nd rfl (.inl rfl) (f_lst a_nil))
      (ss_cons (s_for (ws := [3]) hp rfl (w_range1 (by rfl) T.z_range (v_len (by rfl) T.z_len (r_var 0))) (tg_name 3) (pg_name (i := 3) sc__law_row.nd rfl (Or.inl rfl)) (ss_one (s_callM 2 D__law_put (hr.mono (by decide)) hx (by rfl) (ar_V (v_tup (a_cons (v_ix (l_var 0) (v_var 3)) (a_cons (v_tup (a_cons (v_var 3) a_nil)) a_nil))) ar_nil) (len_M (rV_len rNil_len)) (fz_V fz_nil))))
      (ss_cons (s_for (ws := [4]) hp rfl (w_V (v_F (f_X (x_call D__law_pairs (hr.mono (by decide)) hx (by rfl) (ar_L (l_var 1) ar_nil) (rL_len rNil_len))))) (tg_name 4) (pg_name (i := 4) sc__law_row.nd rfl (Or.inl rfl)) (ss_one (s_callM 2 D__law_put (hr.mono (by decide)) hx (by rfl) (ar_V (v_var 4) ar_nil) (len_M (rV_len rNil_len)) (fz_V fz_nil))))
      (ss_one (s_retO 2 rfl)))))
abbrev s__law_kinds : Stmt := topS 32
abbrev N__law_kinds : List Str := ["_law_row_here", "_law_packet", "_law_sign"]
theorem sc__law_kinds : FnScope N__law_kinds ["_law_row_here"] (defScope s__law_kinds) := ⟨rfl, rfl, rfl, by decide +kernel, rfl, by decide +kernel, by decide +kernel⟩
theorem d__law_kinds (T : Tops K mg) {f : Addr} {fd : FuncData} (F : Fun K "_law_kinds" "_law_kinds" s__law_kinds f fd) (hmg : mg "_law_kinds" = some (.ref f)) (D__law_whole : Dfn P w K mg base tb (cvOf mg) 1 "_law_whole" 1 M_law_whole) : Dfn P w K mg base tb (cvOf mg) 2 "_law_kinds" 1 M_law_kinds := by
  refine (mk_def (N := N__law_kinds) (ps := ["_law_row_here"]) (g := g_law_kinds) F sc__law_kinds hmg (F.binds fun _ _ _ _ _ _ us hl => match us, hl with | [_], _ => rfl) (fun cdv A outer s H O E hr hx tk hp => ?_)).imp ok_law_kinds
  exact (ss_cons (s_if (t_not (t_val (v_isI (T := "list") (by rfl) T.z_isinstance (by rfl) T.z_list (by decide +kernel) (r_var 0)))) (ss_one (s_ret v_bl)) ss_nil)
      (ss_cons (s_for (ws := [1]) hp rfl (w_var 0) (tg_name 1) (pg_name (i := 1) sc__law_kinds.nd rfl (Or.inl rfl)) (ss_cons (s_if (PW.pt (w_or (t_not (t_val (v_isI (T := "tuple") (by rfl) T.z_isinstance (by rfl) T.z_tuple (by decide +kernel) (r_var 1)))) (w_or (t_cmpR (d_ne hr.units) (r_V (v_len (by rfl) T.z_len (r_var 1))) (r_V v_int)) (w_or1 (t_not (t_val (v_X (x_call D__law_whole (hr.mono (by decide)) hx (by rfl) (ar_V (v_ixT (v_var 1) v_int) ar_nil) (rV_len rNil_len))))))))) (ss_one (s_ret v_bl)) ss_nil)
      (ss_one (s_if (PW.pt (w_or (t_not (t_val (v_isI (T := "tuple") (by rfl) T.z_isinstance (by rfl) T.z_tuple (by decide +kernel) (r_V (v_ixT (v_var 1) v_int))))) (w_or1 (t_cmpR (d_ne hr.units) (r_V (v_F (f_lc (own := [("_law_sign", 2)]) rfl sc__law_kinds.nd (wE_W (w_T (v_ixT (v_var 1) v_int))) (tg_name 2) (blkOk_by (own := [("_law_sign", 2)]) (N := N__law_kinds) (sc := defScope s__law_kinds) (by decide +kernel)) (by decide) (fun _ _ _ _ _ => (pg_name (i := 2) sc__law_kinds.nd rfl (Or.inl rfl))) (fun _ _ _ _ _ => (ts_one (t_not (t_val (v_X (x_call D__law_whole (hr.mono (by decide)) wk_blk (by rfl) (ar_V (v_var 2) ar_nil) (rV_len rNil_len))))))) (fun _ _ _ _ _ => (v_var 2))))) (r_V (v_F (f_lst a_nil))))))) (ss_one (s_ret v_bl)) ss_nil))))
      (ss_one (s_ret v_bl))))
abbrev s_law : Stmt := topS 33
abbrev N_law : List Str := ["_law_script", "_law_many_here", "_law_bound_here", "_law_weights_here", "_law_handed", "_law_found", "_law_ahead", "_law_sizes", "_law_row_here"]
theorem sc_law : FnScope N_law ["_law_script"] (defScope s_law) := ⟨rfl, rfl, rfl, by decide +kernel, rfl, by decide +kernel, by decide +kernel⟩
theorem d_law (T : Tops K mg) {f : Addr} {fd : FuncData} (F : Fun K "law" "law" s_law f fd) (D_packet_rows : Dfn P w K mg base tb (cvOf mg) 5 "packet_rows" 2 M_packet_rows_2) (D__law_cell : Dfn P w K mg base tb (cvOf mg) 1 "_law_cell" 2 M_law_cell) (D__law_weights : Dfn P w K mg base tb (cvOf mg) 2 "_law_weights" 4 M_law_weights) (D__law_many : Dfn P w K mg base tb (cvOf mg) 2 "_law_many" 1 M_law_many_3) (D__law_bound : Dfn P w K mg base tb (cvOf mg) 3 "_law_bound" 2 M_law_bound_2) (D__law_row : Dfn P w K mg base tb (cvOf mg) 2 "_law_row" 2 M_law_row) (D__law_kinds : Dfn P w K mg base tb (cvOf mg) 2 "_law_kinds" 1 M_law_kinds) : FnOk P w K mg base (L2.CX P w) 6 f fd ["_law_script"] (spP K tb (cvOf mg) 1 F_law_k06) := by
  refine mk_fnW (N := N_law) (ps := ["_law_script"]) (g := g_law_k06) F sc_law (fun cdv A outer s H O E hr hx tk hp => ?_)
  exact (ss_consW (s_W (s_set (i := 1) sc_law.nd rfl (.inl rfl) (v_X (x_call D__law_many (hr.mono (by decide)) hx (by rfl) (ar_L (l_var 0) ar_nil) (rL_len rNil_len)))))
      (ss_consW (s_W (s_set (i := 2) sc_law.nd rfl (.inl rfl) (v_X (x_call D__law_bound (hr.mono (by decide)) hx (by rfl) (ar_L (l_var 0) (ar_V (v_var 1) ar_nil)) (rL_len (rV_len rNil_len))))))
      (ss_consW (s_W (s_setX (i := 3) (fun _ h => nomatch h) sc_law.nd rfl (.inl rfl) (x_call D__law_weights (hr.mono (by decide)) hx (by rfl) (ar_L (l_var 0) (ar_V v_int (ar_V (v_var 1) (ar_V (v_op d_mod (v_X (x_call D__law_cell (hr.mono (by decide)) hx (by rfl) (ar_L (l_var 0) (ar_V v_int ar_nil)) (rL_len (rV_len rNil_len)))) v_int) ar_nil)))) (rL_len (rV_len (rV_len (rV_len rNil_len)))))))
      (ss_consW (s_W (s_setL (i := 4) (fun _ h => nomatch h) sc_law.nd rfl (.inl rfl) (f_listL (by rfl) T.z_list (l_var 3))))
      (ss_consW (s_W (s_setX (i := 5) (fun _ h => nomatch h) sc_law.nd rfl (.inl rfl) (x_call D_packet_rows (hr.mono (by decide)) hx (by rfl) (ar_L (l_var 4) (ar_V (v_var 2) ar_nil)) (rL_len (rV_len rNil_len)))))
      (ss_consW (s_W (s_if (PW.pt (w_or (t_cmpR (d_ne hr.units) (r_var 4) (r_var 3)) (w_or (t_not (t_val (v_isI (T := "list") (by rfl) T.z_isinstance (by rfl) T.z_list (by decide +kernel) (r_var 5)))) (w_or1 (t_cmpR (d_ne hr.units) (r_V (v_len (by rfl) T.z_len (r_var 5))) (r_var 2)))))) (ss_one (s_ret v_bl)) ss_nil))
      (ss_consW (s_W (s_setL (i := 6) (fun _ h => nomatch h) sc_law.nd rfl (.inl rfl) (f_lst a_nil)))
      (ss_consW (s_W (s_setL (i := 7) (fun _ h => nomatch h) sc_law.nd rfl (.inl rfl) (f_lst a_nil)))
      (ss_consW (s_W (s_frz (i := 5) rfl (s_for (ws := [8]) hp rfl (w_var 5) (tg_name 8) (pg_name (i := 8) sc_law.nd rfl (Or.inl rfl)) (ss_cons (s_if (PW.pt (w_or (t_not (t_val (v_X (x_call D__law_kinds (hr.mono (by decide)) hx (by rfl) (ar_L (l_var 8) ar_nil) (rL_len rNil_len))))) (w_or1 (t_cmpR (d_ne hr.units) (r_var 8) (r_V (v_F (f_X (x_call D__law_row (hr.mono (by decide)) hx (by rfl) (ar_L (l_var 3) (ar_L (l_var 6) ar_nil)) (rL_len (rL_len rNil_len)))))))))) (ss_one (s_ret v_bl)) ss_nil)
      (ss_cons (s_frz (i := 8) rfl (s_set (i := 6) sc_law.nd rfl (.inl rfl) (v_var 8)))
      (ss_one (s_app 7 (v_len (by rfl) T.z_len (r_var 8)))))))))
      (ss_consW (s_thaw 5 8 hp rfl sc_law.nd (fun _ => rfl) (v_tup (a_cons v_int (a_cons (v_tup a_nil) a_nil))))
      (ss_oneW (s_W (s_ret (v_cmpR (d_eq hr.units) (r_var 7) (r_V (v_F (f_lc (own := [("_law_row_here", 8)]) rfl sc_law.nd (wE_L (l_var 5)) (tg_name 8) (blkOk_by (own := [("_law_row_here", 8)]) (N := N_law) (sc := defScope s_law) (by decide +kernel)) (by decide) (fun _ _ _ _ _ => (pg_name (i := 8) sc_law.nd rfl (Or.inl rfl))) (fun _ _ _ _ _ => ts_nil) (fun _ _ _ _ _ => (v_op d_sub (v_len (by rfl) T.z_len (r_var 8)) v_int)))))))))))))))))))
theorem kf_weight_of {f : Addr} {fd : FuncData} (F : Fun K "weight_of" "weight_of" s_weight_of f fd) (hmg : mg "weight_of" = some (.ref f)) : KeyF P w K mg "weight_of" := ⟨f, hmg, fun A s E t its i u h1 h2 h3 h4 h5 => item0_pure (y := "packet") F rfl (fun _ _ _ _ _ _ _ => rfl) (by decide +kernel) rfl rfl rfl h1 h2 h3 h4 h5 (by decide)⟩
end
structure HereF (K : PySem.W.Frag) (x : Str) (st : Stmt) : Prop where
  ex : ∃ f fd, PySem.W.nsIn K mainGlobals x = some (some (.ref f)) ∧ Fun K x x st f fd
theorem here_of {K : PySem.W.Frag} {x : Str} {st : Stmt} {f : Addr} {od an : Option Addr} {sl : Array (Option Value)} {oc kV dc pm cd ct : Value} (a : PySem.W.nsIn K mainGlobals x = some (some (.ref f)))
    (l : K.lookup f = some ⟨oc, od, .func (PySem.W.fnOf x x (defArgs st) (defBody st) (defScope st) .none kV dc pm an cd ct), sl⟩) (c : PySem.W.codeIn K cd x = true) (k : PySem.W.keepIn K (.ref f) = true) : HereF K x st := ⟨f, _, a, fun_mk l c k⟩
theorem hereC_of {K : PySem.W.Frag} {x : Str} {i : Int} {t : Tok} (a : PySem.W.nsIn K mainGlobals x = some (some (.int i t))) : ∃ t, PySem.W.nsIn K mainGlobals x = some (some (.int i t)) := ⟨t, a⟩
structure HereX (K : PySem.W.Frag) (n : String) : Prop where
  ex : ∃ f, PySem.W.nsIn K mainGlobals (Str.ofString n) = some (some (.ref f)) ∧ PySem.W.excIn K f [.type "ValueError", .type "Exception", .type "BaseException", .type "object"] "ValueError.__new__" = true ∧ PySem.W.keepIn K (.ref f) = true ∧ PySem.W.subIn K (.ref f) (.type "BaseException") = some true ∧ PySem.W.typeIn K (.ref f) = some (.type "type")
theorem hereX_of {K : PySem.W.Frag} {n : String} {f : Addr} (a : PySem.W.nsIn K mainGlobals (Str.ofString n) = some (some (.ref f))) (b : PySem.W.excIn K f [.type "ValueError", .type "Exception", .type "BaseException", .type "object"] "ValueError.__new__" = true) (c : PySem.W.keepIn K (.ref f) = true) (d : PySem.W.subIn K (.ref f) (.type "BaseException") = some true) (e : PySem.W.typeIn K (.ref f) = some (.type "type")) : HereX K n := ⟨f, a, b, c, d, e⟩
theorem HereX.cls {K : PySem.W.Frag} {h : Heap} {mg : Str → Option Value} {n : String} (X : K.In h) (G : h.Ns mainGlobals mg) (e : HereX K n) : ∃ A, XCls K mg n A := by
  obtain ⟨f, a, b, c, d, t⟩ := e.ex
  exact ⟨f, PySem.W.mg_of X G a, b, c, d, t⟩
structure TopK (K : PySem.W.Frag) : Prop where
  z_bool : PySem.W.nsIn K mainGlobals "bool" = some none
  z_enumerate : PySem.W.nsIn K mainGlobals "enumerate" = some none
  z_int : PySem.W.nsIn K mainGlobals "int" = some none
  z_isinstance : PySem.W.nsIn K mainGlobals "isinstance" = some none
  z_len : PySem.W.nsIn K mainGlobals "len" = some none
  z_list : PySem.W.nsIn K mainGlobals "list" = some none
  z_range : PySem.W.nsIn K mainGlobals "range" = some none
  z_sorted : PySem.W.nsIn K mainGlobals "sorted" = some none
  z_tuple : PySem.W.nsIn K mainGlobals "tuple" = some none
  c_MOST_BOUND : ∃ t, PySem.W.nsIn K mainGlobals "MOST_BOUND" = some (some (.int 12 t))
  c_MOST_SIGNS : ∃ t, PySem.W.nsIn K mainGlobals "MOST_SIGNS" = some (some (.int 24 t))
  c_MOST_WEIGHT : ∃ t, PySem.W.nsIn K mainGlobals "MOST_WEIGHT" = some (some (.int 1000000000000 t))
  e_BadBound : HereX K "BadBound"
  e_BadWeight : HereX K "BadWeight"
  e_NoRoom : HereX K "NoRoom"
  e_NoWeights : HereX K "NoWeights"
  j_tup : TupK K
  f_is_number : HereF K "is_number" s_is_number
  f_need_bound : HereF K "need_bound" s_need_bound
  f_need_weights : HereF K "need_weights" s_need_weights
  f_doubled : HereF K "doubled" s_doubled
  f_barred : HereF K "barred" s_barred
  f_need_room : HereF K "need_room" s_need_room
  f_weight_of : HereF K "weight_of" s_weight_of
  f_singles : HereF K "singles" s_singles
  f_pairs_of : HereF K "pairs_of" s_pairs_of
  f_packet_rows : HereF K "packet_rows" s_packet_rows
  f__law_cell : HereF K "_law_cell" s__law_cell
  f__law_whole : HereF K "_law_whole" s__law_whole
  f__law_doubled : HereF K "_law_doubled" s__law_doubled
  f__law_weights : HereF K "_law_weights" s__law_weights
  f__law_least_bound : HereF K "_law_least_bound" s__law_least_bound
  f__law_many : HereF K "_law_many" s__law_many
  f__law_bound : HereF K "_law_bound" s__law_bound
  f__law_put : HereF K "_law_put" s__law_put
  f__law_pairs : HereF K "_law_pairs" s__law_pairs
  f__law_row : HereF K "_law_row" s__law_row
  f__law_kinds : HereF K "_law_kinds" s__law_kinds
  f_law : HereF K "law" s_law
theorem TopK.tops {K : PySem.W.Frag} {h : Heap} {mg : Str → Option Value} (T : TopK K) (X : K.In h) (G : h.Ns mainGlobals mg) : Tops K mg := ⟨PySem.W.mg_none_of X G T.z_bool, PySem.W.mg_none_of X G T.z_enumerate, PySem.W.mg_none_of X G T.z_int, PySem.W.mg_none_of X G T.z_isinstance, PySem.W.mg_none_of X G T.z_len, PySem.W.mg_none_of X G T.z_list, PySem.W.mg_none_of X G T.z_range, PySem.W.mg_none_of X G T.z_sorted, PySem.W.mg_none_of X G T.z_tuple, T.c_MOST_BOUND.imp fun _ e => PySem.W.mg_of X G e, T.c_MOST_SIGNS.imp fun _ e => PySem.W.mg_of X G e, T.c_MOST_WEIGHT.imp fun _ e => PySem.W.mg_of X G e, T.e_BadBound.cls X G, T.e_BadWeight.cls X G, T.e_NoRoom.cls X G, T.e_NoWeights.cls X G, T.j_tup⟩
def spLaw (K : PySem.W.Frag) : Sp := fun vs H Q _ => ∃ (a : Addr) (ns : List Int), vs = [.ref a] ∧ SqL K H a (ns.map V.int) ∧ ns.length ≤ 63 ∧ ∀ H', Q (.bl true) H'
theorem law_ok {P : Program} {w : World} {K : PySem.W.Frag} {mg : Str → Option Value} {base : Heap} {k : Nat} {f : Addr} {fd : FuncData} {ps : List Str} (F : FnOk P w K mg base (L2.CX P w) k f fd ps (spP K [] (cvOf mg) 1 F_law_k06)) : FnOk P w K mg base (L2.CX P w) k f fd ps (spLaw K) := F.imp fun vs H Q E h => by
  obtain ⟨a, ns, rfl, hS, hlen, q⟩ := h
  refine ⟨[], [.bw (ns.map PyData.int)], rfl, (fun p hp => (List.not_mem_nil hp).elim), fun b hb => (List.not_mem_nil hb).elim, law_args hS, ?_⟩
  rw [law_k06_true ns]
  intro v H' _ r
  cases law_ret r
  exact q H'
theorem all_mk {l : PySem.W.OpenLaw} {w : World} {K : PySem.W.Frag} {h : Heap} {mg : Str → Option Value} {fa : Addr} (X : K.In h) (G : h.Ns mainGlobals mg) (hfa : mg "law" = some (.ref fa)) (T : TopK K) :
    ∃ fd : FuncData, (∀ (s : Shared) (v : Value), BindsTo s fd ⟨[v], []⟩ [("_law_script", v)]) ∧ ∀ base : Heap, K.In base → base.Ns mainGlobals mg → FnOk l.prog w K mg base (L2.CX l.prog w) 6 fa fd ["_law_script"] (spLaw K) := by
  have tp := T.tops X G
  obtain ⟨a_is_number, b_is_number, n_is_number, u_is_number⟩ := T.f_is_number.ex
  obtain ⟨a_need_bound, b_need_bound, n_need_bound, u_need_bound⟩ := T.f_need_bound.ex
  obtain ⟨a_need_weights, b_need_weights, n_need_weights, u_need_weights⟩ := T.f_need_weights.ex
  obtain ⟨a_doubled, b_doubled, n_doubled, u_doubled⟩ := T.f_doubled.ex
  obtain ⟨a_barred, b_barred, n_barred, u_barred⟩ := T.f_barred.ex
  obtain ⟨a_need_room, b_need_room, n_need_room, u_need_room⟩ := T.f_need_room.ex
  obtain ⟨a_weight_of, b_weight_of, n_weight_of, u_weight_of⟩ := T.f_weight_of.ex
  obtain ⟨a_singles, b_singles, n_singles, u_singles⟩ := T.f_singles.ex
  obtain ⟨a_pairs_of, b_pairs_of, n_pairs_of, u_pairs_of⟩ := T.f_pairs_of.ex
  obtain ⟨a_packet_rows, b_packet_rows, n_packet_rows, u_packet_rows⟩ := T.f_packet_rows.ex
  obtain ⟨a__law_cell, b__law_cell, n__law_cell, u__law_cell⟩ := T.f__law_cell.ex
  obtain ⟨a__law_whole, b__law_whole, n__law_whole, u__law_whole⟩ := T.f__law_whole.ex
  obtain ⟨a__law_doubled, b__law_doubled, n__law_doubled, u__law_doubled⟩ := T.f__law_doubled.ex
  obtain ⟨a__law_weights, b__law_weights, n__law_weights, u__law_weights⟩ := T.f__law_weights.ex
  obtain ⟨a__law_least_bound, b__law_least_bound, n__law_least_bound, u__law_least_bound⟩ := T.f__law_least_bound.ex
  obtain ⟨a__law_many, b__law_many, n__law_many, u__law_many⟩ := T.f__law_many.ex
  obtain ⟨a__law_bound, b__law_bound, n__law_bound, u__law_bound⟩ := T.f__law_bound.ex
  obtain ⟨a__law_put, b__law_put, n__law_put, u__law_put⟩ := T.f__law_put.ex
  obtain ⟨a__law_pairs, b__law_pairs, n__law_pairs, u__law_pairs⟩ := T.f__law_pairs.ex
  obtain ⟨a__law_row, b__law_row, n__law_row, u__law_row⟩ := T.f__law_row.ex
  obtain ⟨a__law_kinds, b__law_kinds, n__law_kinds, u__law_kinds⟩ := T.f__law_kinds.ex
  obtain ⟨fl, fd, nl, ul⟩ := T.f_law.ex
  cases hfa.symm.trans (PySem.W.mg_of X G nl)
  obtain ⟨oc, od, kV, dc, pm, an, cd, ct, sl, rfl, lk, cq⟩ := ul.ex
  refine ⟨PySem.W.fnOf "law" "law" (defArgs s_law) (defBody s_law) (defScope s_law) .none kV dc pm an cd ct, fun s v => .of_eq rfl, fun base hK hN => ?_⟩
  have D_is_number : Dfn l.prog w K mg base [] (cvOf mg) 1 "is_number" 3 M_is_number := d_is_number tp u_is_number (PySem.W.mg_of X G n_is_number)
  have D_need_bound : Dfn l.prog w K mg base [] (cvOf mg) 2 "need_bound" 1 M_need_bound := d_need_bound tp u_need_bound (PySem.W.mg_of X G n_need_bound) D_is_number
  have D_need_weights : Dfn l.prog w K mg base [] (cvOf mg) 2 "need_weights" 1 M_need_weights := d_need_weights tp u_need_weights (PySem.W.mg_of X G n_need_weights) D_is_number
  have D_doubled : Dfn l.prog w K mg base [] (cvOf mg) 1 "doubled" 1 M_doubled := d_doubled tp u_doubled (PySem.W.mg_of X G n_doubled)
  have D_barred : Dfn l.prog w K mg base [] (cvOf mg) 3 "barred" 2 M_barred := d_barred tp u_barred (PySem.W.mg_of X G n_barred) D_need_bound D_need_weights D_doubled
  have D_need_room : Dfn l.prog w K mg base [] (cvOf mg) 4 "need_room" 2 M_need_room := d_need_room tp u_need_room (PySem.W.mg_of X G n_need_room) D_barred
  have D_weight_of : Dfn l.prog w K mg base [] (cvOf mg) 1 "weight_of" 1 M_weight_of := d_weight_of tp u_weight_of (PySem.W.mg_of X G n_weight_of)
  have KF_weight_of : KeyF l.prog w K mg "weight_of" := kf_weight_of u_weight_of (PySem.W.mg_of X G n_weight_of)
  have D_singles : Dfn l.prog w K mg base [] (cvOf mg) 2 "singles" 1 M_singles := d_singles tp u_singles (PySem.W.mg_of X G n_singles) D_weight_of KF_weight_of
  have D_pairs_of : Dfn l.prog w K mg base [] (cvOf mg) 1 "pairs_of" 1 M_pairs_of := d_pairs_of tp u_pairs_of (PySem.W.mg_of X G n_pairs_of)
  have D_packet_rows : Dfn l.prog w K mg base [] (cvOf mg) 5 "packet_rows" 2 M_packet_rows_2 := d_packet_rows tp u_packet_rows (PySem.W.mg_of X G n_packet_rows) D_need_room D_weight_of D_singles D_pairs_of KF_weight_of
  have D__law_cell : Dfn l.prog w K mg base [] (cvOf mg) 1 "_law_cell" 2 M_law_cell := d__law_cell tp u__law_cell (PySem.W.mg_of X G n__law_cell)
  have D__law_whole : Dfn l.prog w K mg base [] (cvOf mg) 1 "_law_whole" 1 M_law_whole := d__law_whole tp u__law_whole (PySem.W.mg_of X G n__law_whole)
  have D__law_doubled : Dfn l.prog w K mg base [] (cvOf mg) 1 "_law_doubled" 1 M_law_doubled := d__law_doubled tp u__law_doubled (PySem.W.mg_of X G n__law_doubled)
  have D__law_weights : Dfn l.prog w K mg base [] (cvOf mg) 2 "_law_weights" 4 M_law_weights := d__law_weights tp u__law_weights (PySem.W.mg_of X G n__law_weights) D__law_cell D__law_doubled
  have D__law_least_bound : Dfn l.prog w K mg base [] (cvOf mg) 2 "_law_least_bound" 1 M_law_least_bound := d__law_least_bound tp u__law_least_bound (PySem.W.mg_of X G n__law_least_bound) D__law_doubled
  have D__law_many : Dfn l.prog w K mg base [] (cvOf mg) 2 "_law_many" 1 M_law_many_3 := d__law_many tp u__law_many (PySem.W.mg_of X G n__law_many) D__law_cell
  have D__law_bound : Dfn l.prog w K mg base [] (cvOf mg) 3 "_law_bound" 2 M_law_bound_2 := d__law_bound tp u__law_bound (PySem.W.mg_of X G n__law_bound) D__law_cell D__law_least_bound
  have D__law_put : DfnM l.prog w K mg base [] 1 "_law_put" 2 M_law_put := d__law_put tp u__law_put (PySem.W.mg_of X G n__law_put)
  have D__law_pairs : Dfn l.prog w K mg base [] (cvOf mg) 1 "_law_pairs" 1 M_law_pairs := d__law_pairs tp u__law_pairs (PySem.W.mg_of X G n__law_pairs)
  have D__law_row : Dfn l.prog w K mg base [] (cvOf mg) 2 "_law_row" 2 M_law_row := d__law_row tp u__law_row (PySem.W.mg_of X G n__law_row) D__law_put D__law_pairs
  have D__law_kinds : Dfn l.prog w K mg base [] (cvOf mg) 2 "_law_kinds" 1 M_law_kinds := d__law_kinds tp u__law_kinds (PySem.W.mg_of X G n__law_kinds) D__law_whole
  have D := d_law (P := l.prog) (w := w) (base := base) tp ul D_packet_rows D__law_cell D__law_weights D__law_many D__law_bound D__law_row D__law_kinds
  exact law_ok D
end PL.L
open PySem PySem.W PyProof.Rows
set_option maxHeartbeats 0 in
theorem PySem.Challenge.cw_shortlimit_k06_rows_of_packets_holds : PySem.Challenge.rw_shortlimit_k06_rows_of_packets.Holds := by
  w_on; o_law; k_head; (case hw => w_witness2)
  k_fill
  refine L2.walk_of (l := PySem.Challenge.rw_shortlimit_k06_rows_of_packets) (n := 63) (k := 6) (x := "_law_script") (CX := fun w => L2.CX PySem.Challenge.rw_shortlimit_k06_rows_of_packets.prog w) (sp := fun w => PL.L.spLaw _) rfl (by decide) rfl ⟨rfl, by decide, by decide⟩ (fun w h Y => PySem.W.kIn_of Y) ?F (fun _ _ a ns hl _ hS => ⟨a, ns, rfl, hS, hl, fun _ => rfl⟩) (fun _ _ _ _ _ h => PL.cx_false h)
  case F =>
    intro w mg fa h KX G hmg
    refine' PL.L.all_mk KX G hmg ?T
    refine' PL.L.TopK.mk ?z_bool ?z_enumerate ?z_int ?z_isinstance ?z_len ?z_list ?z_range ?z_sorted ?z_tuple ?c_MOST_BOUND ?c_MOST_SIGNS ?c_MOST_WEIGHT ?e_BadBound ?e_BadWeight ?e_NoRoom ?e_NoWeights ?j_tup ?f_is_number ?f_need_bound ?f_need_weights ?f_doubled ?f_barred ?f_need_room ?f_weight_of ?f_singles ?f_pairs_of ?f_packet_rows ?f__law_cell ?f__law_whole ?f__law_doubled ?f__law_weights ?f__law_least_bound ?f__law_many ?f__law_bound ?f__law_put ?f__law_pairs ?f__law_row ?f__law_kinds ?f_law
    case z_bool => k_is
    case z_enumerate => k_is
    case z_int => k_is
    case z_isinstance => k_is
    case z_len => k_is
    case z_list => k_is
    case z_range => k_is
    case z_sorted => k_is
    case z_tuple => k_is
    case c_MOST_BOUND => refine' PL.L.hereC_of ?c1; (case c1 => k_is)
    case c_MOST_SIGNS => refine' PL.L.hereC_of ?c1; (case c1 => k_is)
    case c_MOST_WEIGHT => refine' PL.L.hereC_of ?c1; (case c1 => k_is)
    case e_BadBound => refine' PL.L.hereX_of ?a ?b ?c ?d ?e; (case a => k_is); (case b => k_exc); (case c => k_is); (case d => k_is); (case e => k_is)
    case e_BadWeight => refine' PL.L.hereX_of ?a ?b ?c ?d ?e; (case a => k_is); (case b => k_exc); (case c => k_is); (case d => k_is); (case e => k_is)
    case e_NoRoom => refine' PL.L.hereX_of ?a ?b ?c ?d ?e; (case a => k_is); (case b => k_exc); (case c => k_is); (case d => k_is); (case e => k_is)
    case e_NoWeights => refine' PL.L.hereX_of ?a ?b ?c ?d ?e; (case a => k_is); (case b => k_exc); (case c => k_is); (case d => k_is); (case e => k_is)
    case j_tup => refine' PL.tupK_of ?a; (case a => first | kernel_rfl | rfl)
    case f_is_number => refine' PL.L.here_of ?a ?l ?c ?k; (case a => k_is); (case l => k_is); (case c => k_is); (case k => k_is)
    case f_need_bound => refine' PL.L.here_of ?a ?l ?c ?k; (case a => k_is); (case l => k_is); (case c => k_is); (case k => k_is)
    case f_need_weights => refine' PL.L.here_of ?a ?l ?c ?k; (case a => k_is); (case l => k_is); (case c => k_is); (case k => k_is)
    case f_doubled => refine' PL.L.here_of ?a ?l ?c ?k; (case a => k_is); (case l => k_is); (case c => k_is); (case k => k_is)
    case f_barred => refine' PL.L.here_of ?a ?l ?c ?k; (case a => k_is); (case l => k_is); (case c => k_is); (case k => k_is)
    case f_need_room => refine' PL.L.here_of ?a ?l ?c ?k; (case a => k_is); (case l => k_is); (case c => k_is); (case k => k_is)
    case f_weight_of => refine' PL.L.here_of ?a ?l ?c ?k; (case a => k_is); (case l => k_is); (case c => k_is); (case k => k_is)
    case f_singles => refine' PL.L.here_of ?a ?l ?c ?k; (case a => k_is); (case l => k_is); (case c => k_is); (case k => k_is)
    case f_pairs_of => refine' PL.L.here_of ?a ?l ?c ?k; (case a => k_is); (case l => k_is); (case c => k_is); (case k => k_is)
    case f_packet_rows => refine' PL.L.here_of ?a ?l ?c ?k; (case a => k_is); (case l => k_is); (case c => k_is); (case k => k_is)
    case f__law_cell => refine' PL.L.here_of ?a ?l ?c ?k; (case a => k_is); (case l => k_is); (case c => k_is); (case k => k_is)
    case f__law_whole => refine' PL.L.here_of ?a ?l ?c ?k; (case a => k_is); (case l => k_is); (case c => k_is); (case k => k_is)
    case f__law_doubled => refine' PL.L.here_of ?a ?l ?c ?k; (case a => k_is); (case l => k_is); (case c => k_is); (case k => k_is)
    case f__law_weights => refine' PL.L.here_of ?a ?l ?c ?k; (case a => k_is); (case l => k_is); (case c => k_is); (case k => k_is)
    case f__law_least_bound => refine' PL.L.here_of ?a ?l ?c ?k; (case a => k_is); (case l => k_is); (case c => k_is); (case k => k_is)
    case f__law_many => refine' PL.L.here_of ?a ?l ?c ?k; (case a => k_is); (case l => k_is); (case c => k_is); (case k => k_is)
    case f__law_bound => refine' PL.L.here_of ?a ?l ?c ?k; (case a => k_is); (case l => k_is); (case c => k_is); (case k => k_is)
    case f__law_put => refine' PL.L.here_of ?a ?l ?c ?k; (case a => k_is); (case l => k_is); (case c => k_is); (case k => k_is)
    case f__law_pairs => refine' PL.L.here_of ?a ?l ?c ?k; (case a => k_is); (case l => k_is); (case c => k_is); (case k => k_is)
    case f__law_row => refine' PL.L.here_of ?a ?l ?c ?k; (case a => k_is); (case l => k_is); (case c => k_is); (case k => k_is)
    case f__law_kinds => refine' PL.L.here_of ?a ?l ?c ?k; (case a => k_is); (case l => k_is); (case c => k_is); (case k => k_is)
    case f_law => refine' PL.L.here_of ?a ?l ?c ?k; (case a => k_is); (case l => k_is); (case c => k_is); (case k => k_is)
