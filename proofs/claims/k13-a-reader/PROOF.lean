import PyProof.Rows.All
import HandS.ForMost
import HandS.Evl
import HandS.Conv
import HandS.ForExc
import HandS.IsInst
import HandS.Wide
import HandS.EndBits
import HandS.HotCalls
import HandS.ExcIs
import HandS.SortKw
import HandS.TryOnly
import HandS.More
import HandS.TupLen
import HandS.DictTup
import HandS.CallSlots
import HandS.WordsExc
import KE.SortKeyHeap
import HandS.Lambda
import HandS.EndTab
import PyProof.StrBlock2
import HandS.Text
import HandS.SetFor
import HandS.ReCall
import HandS.Walk
import PySem.Challenge.RW_shortlimit_k13_a_reader
set_option Elab.async false
set_option linter.all false
set_option maxRecDepth 100000
set_option maxHeartbeats 4000000
/-! PL1: plain semantics (no heap): what an expression, a statement, a def gives over PyData. -/
namespace PL
open PySem L2

inductive Out (α : Type) where
  | ok (a : α)
  | exc (n : String)
  | stuck
def Out.bind {α β : Type} (o : Out α) (f : α → Out β) : Out β := match o with
  | .ok a => f a
  | .exc n => .exc n
  | .stuck => .stuck
@[simp] theorem Out.bind_ok {α β : Type} (a : α) (f : α → Out β) : (Out.ok a).bind f = f a := eq_of_heq (HEq.refl _)
@[simp] theorem Out.bind_exc {α β : Type} (n : String) (f : α → Out β) : (Out.exc n : Out α).bind f = .exc n := rfl
@[simp] theorem Out.bind_stuck {α β : Type} (f : α → Out β) : (Out.stuck : Out α).bind f = .stuck := rfl

/-- what stands in a slot: a value that never changes; an own list; a list handed in; an own dict; a dict handed in; a caught error, by its class's name; a list handed in that is changed; an own list of new lists; a list of new lists that none has changed yet; a list of which only the first item is known, a new list -/
inductive SL where
  | fz (d : PyData)
  | ow (ds : List PyData)
  | bw (ds : List PyData)
  | dow (kvs : List (List Int × PyData))
  | dbw (kvs : List (List Int × PyData))
  | er (n : String)
  | mw (ds : List PyData)
  | og (dss : List (List PyData))
  | oo (dss : List (List PyData))
  | hd (ds : List PyData)
abbrev Env := List (Option SL)
/-- what a def hands back: a value; a new list; a new dict -/
inductive RV where
  | val (d : PyData)
  | fresh (ds : List PyData)
  | dfresh (kvs : List (List Int × PyData))
  | gfresh (dss : List (List PyData))
abbrev VE := Env → Out PyData
abbrev LE := Env → Out (List PyData)
abbrev BE := Env → Out Bool
abbrev AE := Env → Out (List SL)
abbrev XE := Env → Out RV

/-! ### names -/
def eVar (i : Nat) : VE := fun ρ => match ρ[i]? with
  | some (some (.fz d)) => .ok d
  | some (some (.oo dss)) => .ok (.list (dss.map PyData.list))
  | _ => .stuck
/-- as a thing that is read -/
def rVar (i : Nat) : VE := fun ρ => match ρ[i]? with
  | some (some (.fz d)) => .ok d
  | some (some (.ow ds)) => .ok (.list ds)
  | some (some (.bw ds)) => .ok (.list ds)
  | some (some (.mw ds)) => .ok (.list ds)
  | some (some (.og dss)) => .ok (.list (dss.map PyData.list))
  | some (some (.oo dss)) => .ok (.list (dss.map PyData.list))
  | _ => .stuck
/-- as a list that is read -/
def lVar (i : Nat) : LE := fun ρ => match ρ[i]? with
  | some (some (.fz (.list ds))) => .ok ds
  | some (some (.ow ds)) => .ok ds
  | some (some (.bw ds)) => .ok ds
  | some (some (.mw ds)) => .ok ds
  | some (some (.og dss)) => .ok (dss.map PyData.list)
  | some (some (.oo dss)) => .ok (dss.map PyData.list)
  | _ => .stuck
/-- an own list -/
def kVar (i : Nat) : LE := fun ρ => match ρ[i]? with
  | some (some (.ow ds)) => .ok ds
  | _ => .stuck
/-- a list that stays as it is -/
def sVar (i : Nat) : LE := fun ρ => match ρ[i]? with
  | some (some (.fz (.list ds))) => .ok ds
  | some (some (.bw ds)) => .ok ds
  | some (some (.oo dss)) => .ok (dss.map PyData.list)
  | _ => .stuck
def eC (d : PyData) : VE := fun _ => .ok d
def eOfL (f : LE) : VE := fun ρ => (f ρ).bind fun ds => .ok (.list ds)
def lOfV (f : VE) : LE := fun ρ => (f ρ).bind fun d => match d with
  | .list ds => .ok ds
  | _ => .stuck

/-! ### operators -/
abbrev Op2 := PyData → PyData → Out PyData
def eOp (o : Op2) (a b : VE) : VE := fun ρ => (a ρ).bind fun x => (b ρ).bind fun y => o x y
def oAdd : Op2
  | .int i, .int j => .ok (.int (i + j))
  | _, _ => .stuck
def oSub : Op2
  | .int i, .int j => .ok (.int (i - j))
  | _, _ => .stuck
/-- one factor is small -/
def smallI (i : Int) : Bool := decide (-(2 ^ 64) < i ∧ i < 2 ^ 64)
def oMul : Op2
  | .int i, .int j => if smallI i || smallI j then .ok (.int (i * j)) else .stuck
  | _, _ => .stuck
def oFdiv : Op2
  | .int i, .int j => if 0 < j ∧ j < 1073741824 then .ok (.int (i / j)) else .stuck
  | _, _ => .stuck
def oMod : Op2
  | .int i, .int j => if 0 < j then .ok (.int (i % j)) else .stuck
  | _, _ => .stuck
def oCatS : Op2
  | .str i, .str j => if i.length + j.length ≤ 1000000 then .ok (.str (i ++ j)) else .stuck
  | _, _ => .stuck
def oCatT : Op2
  | .tuple a, .tuple b => if a ≠ [] ∧ a.length + b.length ≤ 1000000 then .ok (.tuple (a ++ b)) else .stuck
  | _, _ => .stuck
def oLt : Op2
  | .int i, .int j => .ok (.bool (decide (i < j)))
  | _, _ => .stuck
def oLe : Op2
  | .int i, .int j => .ok (.bool (decide (i ≤ j)))
  | _, _ => .stuck
def oGt : Op2
  | .int i, .int j => .ok (.bool (decide (j < i)))
  | _, _ => .stuck
def oGe : Op2
  | .int i, .int j => .ok (.bool (decide (j ≤ i)))
  | _, _ => .stuck
def oEq : Op2 := fun d e => if SeqAt.shaped d && SeqAt.shaped e then .ok (.bool (PyData.eqv d e)) else .stuck
def oNe : Op2 := fun d e => if SeqAt.shaped d && SeqAt.shaped e then .ok (.bool (!PyData.eqv d e)) else .stuck
/-- one sign in a text -/
def oInS : Op2
  | .str c, .str z => match c.cps.toList with
    | [k] => .ok (.bool (decide (k ∈ z.cps.toList)))
    | _ => .stuck
  | _, _ => .stuck
def oNotInS : Op2
  | .str c, .str z => match c.cps.toList with
    | [k] => .ok (.bool (!decide (k ∈ z.cps.toList)))
    | _ => .stuck
  | _, _ => .stuck
def stOf (z : Str) : PyData → Out PyData
  | .str y => .ok (.bool (Txt.startswith z y))
  | _ => .stuck
def eStarts (a b : VE) : VE := fun ρ => (a ρ).bind fun d => match d with
  | .str z => (b ρ).bind (stOf z)
  | _ => .stuck
def isN : PyData → Bool
  | .none => true
  | _ => false
def eIsN (a : VE) : VE := fun ρ => (a ρ).bind fun d => .ok (.bool (isN d))
def eNotN (a : VE) : VE := fun ρ => (a ρ).bind fun d => .ok (.bool (!isN d))
def eNeg (a : VE) : VE := fun ρ => (a ρ).bind fun d => match d with
  | .int i => .ok (.int (-i))
  | _ => .stuck
/-- a text in a list of texts -/
def allStr (ds : List PyData) : Option (List Str) := ds.mapM fun d => match d with
  | .str s => some s
  | _ => none
def eInL (neg : Bool) (a : VE) (l : LE) : VE := fun ρ => (a ρ).bind fun d => (l ρ).bind fun ds => match d, allStr ds with
  | .str x, some ss => .ok (.bool (if neg then !decide (x ∈ ss) else decide (x ∈ ss)))
  | _, _ => .stuck

/-! ### tests -/
def bOf (a : VE) : BE := fun ρ => (a ρ).bind fun d => match d with
  | .bool b => .ok b
  | _ => .stuck
def bAnd (a b : BE) : BE := fun ρ => (a ρ).bind fun x => if x then b ρ else .ok false
def bOr (a b : BE) : BE := fun ρ => (a ρ).bind fun x => if x then .ok true else b ρ
def bNot (a : BE) : BE := fun ρ => (a ρ).bind fun x => .ok (!x)
def bYes : BE := fun _ => .ok true
def eOfB (a : BE) : VE := fun ρ => (a ρ).bind fun b => .ok (.bool b)
/-- a op b op' c, as a value -/
def eChain (o o' : Op2) (a b c : VE) : VE := fun ρ => (a ρ).bind fun x => (b ρ).bind fun y => (o x y).bind fun z => match z with
  | .bool true => (c ρ).bind fun u => o' y u
  | .bool false => .ok (.bool false)
  | _ => .stuck

/-! ### lists, tuples, texts -/
def eIx (l : LE) (i : VE) : VE := fun ρ => (l ρ).bind fun ds => (i ρ).bind fun k => match k with
  | .int k => match atI ds k with
    | some d => .ok d
    | none => .stuck
  | _ => .stuck
def eIxT (t : VE) (i : VE) : VE := fun ρ => (t ρ).bind fun d => (i ρ).bind fun k => match d, k with
  | .tuple ds, .int k => match atI ds k with
    | some d => .ok d
    | none => .stuck
  | _, _ => .stuck
def eIxS (t : VE) (i : VE) : VE := fun ρ => (t ρ).bind fun d => (i ρ).bind fun k => match d, k with
  | .str z, .int k => if z.length ≤ 1000000 then (match atI z.cps.toList k with
    | some c => .ok (.str ⟨#[c]⟩)
    | none => .stuck) else .stuck
  | _, _ => .stuck
def cutD {α : Type} (xs : List α) (lo hi : Option Int) : List α := (xs.drop (HT.sIx xs.length 0 lo)).take (HT.sIx xs.length xs.length hi - HT.sIx xs.length 0 lo)
/-- a part of a slice -/
abbrev OE := Env → Out (Option Int)
def oNo : OE := fun _ => .ok none
def oPart (a : VE) : OE := fun ρ => (a ρ).bind fun d => match d with
  | .int i => .ok (some i)
  | _ => .stuck
def lSl (l : LE) (lo hi : OE) : LE := fun ρ => (l ρ).bind fun ds => (lo ρ).bind fun a => (hi ρ).bind fun b => .ok (cutD ds a b)
def eSlS (t : VE) (lo hi : OE) : VE := fun ρ => (t ρ).bind fun d => (lo ρ).bind fun a => (hi ρ).bind fun b => match d with
  | .str z => if z.length ≤ 1000000 then .ok (.str (cutS z a b)) else .stuck
  | _ => .stuck
def lCat (a b : LE) : LE := fun ρ => (a ρ).bind fun x => (b ρ).bind fun y => if x.length + y.length ≤ 1000000 then .ok (x ++ y) else .stuck
def lRep (a : LE) (k : VE) : LE := fun ρ => (a ρ).bind fun x => (k ρ).bind fun n => match n with
  | .int n => if -1000000 ≤ n ∧ n ≤ 1000000 ∧ x.length ≤ 1 then .ok (List.replicate n.toNat x).flatten else .stuck
  | _ => .stuck
/-- sorted(l, key=f), f gives a tuple's first whole number -/
def headI : PyData → Option Int
  | .tuple (.int i :: _) => some i
  | _ => none
def leK (a b : PyData) : Bool := decide ((headI a).getD 0 ≤ (headI b).getD 0)
def lSortK (l : LE) : LE := fun ρ => (l ρ).bind fun ds => if ds.all (fun d => (headI d).isSome) then .ok (ds.mergeSort leK) else .stuck
def asIntsT (ds : List PyData) : Option (List Int) := ds.mapM fun d => match d with
  | .int i => some i
  | _ => none
/-- sorted(t), t a tuple of whole numbers -/
def leI (a b : Int) : Bool := decide (a ≤ b)
def lSortT (a : VE) : LE := fun ρ => (a ρ).bind fun d => match d with
  | .tuple ds => match asIntsT ds with
    | some ns => .ok ((ns.mergeSort leI).map PyData.int)
    | none => .stuck
  | _ => .stuck
/-- sorted(l), l a list of texts -/
def leS (a b : Str) : Bool := !PySem.Spec.ltCps b.cps.toList a.cps.toList
def lSortS (l : LE) : LE := fun ρ => (l ρ).bind fun ds => match allStr ds with
  | some ss => if ss.length < 64 then .ok ((ss.mergeSort leS).map PyData.str) else .stuck
  | none => .stuck
/-- sorted(range(n), key=lambda x: (y[x], x)), y in slot j, n whole numbers -/
def leAt (ls : List Int) (i j : Nat) : Bool := decide (ls.getD i 0 < ls.getD j 0 ∨ (ls.getD i 0 = ls.getD j 0 ∧ (i : Int) ≤ (j : Int)))
def asIntsL (ds : List PyData) : Option (List Int) := ds.mapM fun d => match d with
  | .int i => some i
  | _ => none
def lSortRg (j : Nat) (a : VE) : LE := fun ρ => (a ρ).bind fun d => (lVar j ρ).bind fun ds => match d, asIntsL ds with
  | .int n, some ls => if n = ls.length ∧ n ≤ 100000 then .ok (((List.range ls.length).mergeSort (leAt ls)).map fun k => PyData.int (k : Nat)) else .stuck
  | _, _ => .stuck
/-- several values -/
def aAll : List VE → LE
  | [] => fun _ => .ok []
  | f :: fs => fun ρ => (f ρ).bind fun x => (aAll fs ρ).bind fun xs => .ok (x :: xs)
theorem aAll_len : ∀ (fs : List VE) (ρ : Env) (ds : List PyData), aAll fs ρ = .ok ds → ds.length = fs.length
  | [], _, _, h => by cases h; rfl
  | f :: fs, ρ, ds, h => by
    unfold aAll at h
    cases e : f ρ with
    | ok x =>
      rw [e] at h
      cases e2 : aAll fs ρ with
      | ok xs =>
        rw [e2] at h
        cases h
        rw [List.length_cons, List.length_cons, aAll_len fs ρ xs e2]
      | exc n => rw [e2] at h; cases h
      | stuck => rw [e2] at h; cases h
    | exc n => rw [e] at h; cases h
    | stuck => rw [e] at h; cases h
def eTup (fs : List VE) : VE := fun ρ => (aAll fs ρ).bind fun xs => .ok (.tuple xs)
def lLst (fs : List VE) : LE := aAll fs
def eTupL (l : LE) : VE := fun ρ => (l ρ).bind fun ds => .ok (.tuple ds)

/-! ### built-ins -/
def eLenL (l : LE) : VE := fun ρ => (l ρ).bind fun ds => .ok (.int ds.length)
def lenOf : PyData → Out PyData
  | .str z => if z.length ≤ 1000000 then .ok (.int z.length) else .stuck
  | .tuple ds => .ok (.int ds.length)
  | .list ds => .ok (.int ds.length)
  | _ => .stuck
def eLenV (a : VE) : VE := fun ρ => (a ρ).bind lenOf
def tyName : PyData → String
  | .none => "NoneType"
  | .bool _ => "bool"
  | .int _ => "int"
  | .str _ => "str"
  | .list _ => "list"
  | .tuple _ => "tuple"
  | .dict _ => "dict"
/-- isinstance with a built-in class -/
def eIsI (a : VE) (T : String) : VE := fun ρ => (a ρ).bind fun d => match kitB (tyName d) T with
  | some b => .ok (.bool b)
  | none => .stuck
def asInts (ds : List PyData) : Option (List Int) := ds.mapM fun d => match d with
  | .int i => some i
  | _ => none
def asBools (ds : List PyData) : Option (List Bool) := ds.mapM fun d => match d with
  | .bool b => some b
  | _ => none
def eSum (l : LE) : VE := fun ρ => (l ρ).bind fun ds => match asInts ds with
  | some ns => .ok (.int ns.sum)
  | none => .stuck
def eAny (l : LE) : VE := fun ρ => (l ρ).bind fun ds => match asBools ds with
  | some ns => .ok (.bool (ns.any id))
  | none => .stuck
def eAll (l : LE) : VE := fun ρ => (l ρ).bind fun ds => match asBools ds with
  | some ns => .ok (.bool (ns.all id))
  | none => .stuck
def leastOf : List Int → Option Int
  | [] => none
  | x :: r => some (r.foldl min x)
def eMinL (l : LE) : VE := fun ρ => (l ρ).bind fun ds => match (asInts ds).bind leastOf with
  | some m => .ok (.int m)
  | none => .stuck
def mostOf : List Int → Option Int
  | [] => none
  | x :: r => some (r.foldl max x)
def eMaxL (l : LE) : VE := fun ρ => (l ρ).bind fun ds => match (asInts ds).bind mostOf with
  | some m => .ok (.int m)
  | none => .stuck
def oMin : Op2
  | .int i, .int j => .ok (.int (if j < i then j else i))
  | _, _ => .stuck
def oMax : Op2
  | .int i, .int j => .ok (.int (if j > i then j else i))
  | _, _ => .stuck
/-- int(a truth) -/
def eIntB (a : VE) : VE := fun ρ => (a ρ).bind fun d => match d with
  | .bool b => .ok (.int (if b then 1 else 0))
  | _ => .stuck

/-! ### calls -/
def rNil : AE := fun _ => .ok []
def rV (a : VE) (r : AE) : AE := fun ρ => (a ρ).bind fun d => (r ρ).bind fun ss => .ok (.fz d :: ss)
def rL (a : LE) (r : AE) : AE := fun ρ => (a ρ).bind fun ds => (r ρ).bind fun ss => .ok (.bw ds :: ss)
/-- a dict that is read -/
def dVar (i : Nat) : Env → Out (List (List Int × PyData)) := fun ρ => match ρ[i]? with
  | some (some (.dow kvs)) => .ok kvs
  | some (some (.dbw kvs)) => .ok kvs
  | _ => .stuck
def rD (i : Nat) (r : AE) : AE := fun ρ => (dVar i ρ).bind fun kvs => (r ρ).bind fun ss => .ok (.dbw kvs :: ss)
abbrev FN := List SL → Out RV
def xCall (F : FN) (a : AE) : XE := fun ρ => (a ρ).bind F
def eX (x : XE) : VE := fun ρ => (x ρ).bind fun r => match r with
  | .val d => .ok d
  | .fresh ds => .ok (.list ds)
  | _ => .stuck
def lX (x : XE) : LE := fun ρ => (x ρ).bind fun r => match r with
  | .fresh ds => .ok ds
  | _ => .stuck

/-! ### dicts with tuples of ints as keys -/
def dGet (kvs : List (List Int × PyData)) (k : List Int) : Option PyData := (kvs.find? fun p => decide (p.1 = k)).map (·.2)
def dPut (kvs : List (List Int × PyData)) (k : List Int) (d : PyData) : List (List Int × PyData) :=
  if (kvs.any fun p => decide (p.1 = k)) then kvs.map fun p => if p.1 = k then (p.1, d) else p else kvs ++ [(k, d)]
def eDGet (i : Nat) (k : List VE) : VE := fun ρ => (dVar i ρ).bind fun kvs => (aAll k ρ).bind fun ks => match asInts ks with
  | some ks => match dGet kvs ks with
    | some d => .ok d
    | none => .stuck
  | none => .stuck
def eDIn (neg : Bool) (k : List VE) (i : Nat) : VE := fun ρ => (aAll k ρ).bind fun ks => (dVar i ρ).bind fun kvs => match asInts ks with
  | some ks => .ok (.bool (if neg then !(dGet kvs ks).isSome else (dGet kvs ks).isSome))
  | none => .stuck
def eDLen (i : Nat) : VE := fun ρ => (dVar i ρ).bind fun kvs => .ok (.int kvs.length)
def eDIs (i : Nat) : VE := fun ρ => (dVar i ρ).bind fun _ => .ok (.bool true)

/-! ### what loops walk -/
def rngD (lo : Int) (n : Nat) (c : Int) : List PyData := (List.range n).map fun k => .int (lo + (k : Nat) * c)
def okR (i : Int) : Bool := decide (-(2 ^ 61) ≤ i ∧ i < 2 ^ 61)
def wRange1 (a : VE) : LE := fun ρ => (a ρ).bind fun d => match d with
  | .int n => if okR n then .ok (rngD 0 n.toNat 1) else .stuck
  | _ => .stuck
def wRange2 (a b : VE) : LE := fun ρ => (a ρ).bind fun d => (b ρ).bind fun e => match d, e with
  | .int lo, .int hi => if okR lo && okR hi then .ok (rngD lo (hi - lo).toNat 1) else .stuck
  | _, _ => .stuck
/-- list(range(a)) -/
def lListRg (a : VE) : LE := fun ρ => (a ρ).bind fun d => match d with
  | .int n => if 0 ≤ n ∧ n ≤ 1000000 then .ok (rngD 0 n.toNat 1) else .stuck
  | _ => .stuck
/-- range(a, b, 2) -/
def wRange3 (a b c : VE) : LE := fun ρ => (a ρ).bind fun d => (b ρ).bind fun e => (c ρ).bind fun f => match d, e, f with
  | .int lo, .int hi, .int c => if c = 2 ∧ -100000 ≤ lo ∧ lo ≤ 100000 ∧ -100000 ≤ hi ∧ hi ≤ 100000 then .ok (rngD lo (((hi - lo + 1) / 2).toNat) 2) else .stuck
  | _, _, _ => .stuck
def wStr (a : VE) : LE := fun ρ => (a ρ).bind fun d => match d with
  | .str z => .ok (z.cps.toList.map fun c => .str ⟨#[c]⟩)
  | _ => .stuck
/-- a tuple's items -/
def tOfV (f : VE) : LE := fun ρ => (f ρ).bind fun d => match d with
  | .tuple ds => .ok ds
  | _ => .stuck
def enumD (ds : List PyData) : List PyData := (List.range ds.length).zipWith (fun k d => .tuple [.int (k : Nat), d]) ds
def wEnum (l : LE) : LE := fun ρ => (l ρ).bind fun ds => .ok (enumD ds)
def zipD (a b : List PyData) : List PyData := a.zipWith (fun x y => .tuple [x, y]) b
def wZip (a b : LE) : LE := fun ρ => (a ρ).bind fun x => (b ρ).bind fun y => .ok (zipD x y)
abbrev TGT := PyData → Env → Option Env
def tgN (i : Nat) : TGT := fun d ρ => some (ρ.set i (some (.fz d)))
def tgP (i j : Nat) : TGT := fun d ρ => match d with
  | .tuple [x, y] => some ((ρ.set i (some (.fz x))).set j (some (.fz y)))
  | _ => none
def tgT (i j k : Nat) : TGT := fun d ρ => match d with
  | .tuple [x, y, z] => some (((ρ.set i (some (.fz x))).set j (some (.fz y))).set k (some (.fz z)))
  | _ => none
def wp (ws : List Nat) (ρ : Env) : Env := match ws with
  | [] => ρ
  | v :: vs => (wp vs ρ).set v none

/-! ### comprehensions -/
def lcGo (tg : TGT) (tt : BE) (el : VE) (ρ : Env) : List PyData → Out (List PyData)
  | [] => .ok []
  | d :: r => match tg d ρ with
    | none => .stuck
    | some ρ1 => (tt ρ1).bind fun b => if b then (el ρ1).bind fun y => (lcGo tg tt el ρ r).bind fun ys => .ok (y :: ys) else lcGo tg tt el ρ r
def noExc {α : Type} : Out α → Out α
  | .ok a => .ok a
  | _ => .stuck
def lComp (w : LE) (tg : TGT) (ws : List Nat) (tt : BE) (el : VE) : LE := fun ρ => (w ρ).bind fun ds => if ds.length < 1000000 then noExc (lcGo tg tt el (wp ws ρ) ds) else .stuck

/-! ### statements -/
inductive SO where
  | nx (ρ : Env)
  | bk (ρ : Env)
  | ct (ρ : Env)
  | rt (r : RV) (ρ : Env)
  | ex (n : String) (ρ : Env)
  | stuck
abbrev SE := Env → SO
def SO.then (o : SO) (f : SE) : SO := match o with
  | .nx ρ => f ρ
  | .bk ρ => .bk ρ
  | .ct ρ => .ct ρ
  | .rt r ρ => .rt r ρ
  | .ex n ρ => .ex n ρ
  | .stuck => .stuck
def wOut {α : Type} (o : Out α) (ρ : Env) (f : α → SO) : SO := match o with
  | .ok a => f a
  | .exc n => .ex n ρ
  | .stuck => .stuck
@[simp] theorem wOut_ok {α : Type} (a : α) (ρ : Env) (f : α → SO) : wOut (.ok a) ρ f = f a := eq_of_heq (HEq.refl _)
@[simp] theorem wOut_exc {α : Type} (n : String) (ρ : Env) (f : α → SO) : wOut (.exc n) ρ f = .ex n ρ := rfl
@[simp] theorem wOut_stuck {α : Type} (ρ : Env) (f : α → SO) : wOut .stuck ρ f = .stuck := rfl
@[simp] theorem SO.then_nx (ρ : Env) (f : SE) : (SO.nx ρ).then f = f ρ := eq_of_heq (HEq.refl _)
@[simp] theorem SO.then_bk (ρ : Env) (f : SE) : (SO.bk ρ).then f = .bk ρ := rfl
@[simp] theorem SO.then_ct (ρ : Env) (f : SE) : (SO.ct ρ).then f = .ct ρ := rfl
@[simp] theorem SO.then_rt (r : RV) (ρ : Env) (f : SE) : (SO.rt r ρ).then f = .rt r ρ := rfl
@[simp] theorem SO.then_ex (n : String) (ρ : Env) (f : SE) : (SO.ex n ρ).then f = .ex n ρ := rfl
@[simp] theorem SO.then_stuck (f : SE) : (SO.stuck).then f = .stuck := rfl
def sNext : SE := fun ρ => .nx ρ
def sBrk : SE := fun ρ => .bk ρ
def sCont : SE := fun ρ => .ct ρ
def sSeq (a b : SE) : SE := fun ρ => (a ρ).then b
def slotOf : RV → SL
  | .val d => .fz d
  | .fresh ds => .ow ds
  | .dfresh kvs => .dow kvs
  | .gfresh dss => .oo dss
def sSet (i : Nat) (e : VE) : SE := fun ρ => wOut (e ρ) ρ fun d => .nx (ρ.set i (some (.fz d)))
def sSetL (i : Nat) (e : LE) : SE := fun ρ => wOut (e ρ) ρ fun ds => .nx (ρ.set i (some (.ow ds)))
def sSetX (i : Nat) (x : XE) : SE := fun ρ => wOut (x ρ) ρ fun r => .nx (ρ.set i (some (slotOf r)))
def sSetD (i : Nat) : SE := fun ρ => .nx (ρ.set i (some (.dow [])))
def sDrop (e : VE) : SE := fun ρ => wOut (e ρ) ρ fun _ => .nx ρ
def sDropX (x : XE) : SE := fun ρ => wOut (x ρ) ρ fun _ => .nx ρ
def sIf (c : BE) (a b : SE) : SE := fun ρ => wOut (c ρ) ρ fun x => if x then a ρ else b ρ
def sRet (e : VE) : SE := fun ρ => wOut (e ρ) ρ fun d => .rt (.val d) ρ
def sRetL (e : LE) : SE := fun ρ => wOut (e ρ) ρ fun ds => .rt (.fresh ds) ρ
def sRetX (x : XE) : SE := fun ρ => wOut (x ρ) ρ fun r => .rt r ρ
/-- return of an own list, dict -/
def sRetO (i : Nat) : SE := fun ρ => match ρ[i]? with
  | some (some (.ow ds)) => .rt (.fresh ds) ρ
  | some (some (.dow kvs)) => .rt (.dfresh kvs) ρ
  | some (some (.og dss)) => .rt (.gfresh dss) ρ
  | some (some (.fz d)) => .rt (.val d) ρ
  | _ => .stuck
def sRaise (n : String) : SE := fun ρ => .ex n ρ
/-- x.append(e), x an own list -/
def sApp (i : Nat) (e : VE) : SE := fun ρ => match ρ[i]? with
  | some (some (.ow ds)) => wOut (e ρ) ρ fun d => if ds.length < 1000000 then .nx (ρ.set i (some (.ow (ds ++ [d])))) else .stuck
  | _ => .stuck
def sClear (i : Nat) : SE := fun ρ => match ρ[i]? with
  | some (some (.ow _)) => .nx (ρ.set i (some (.ow [])))
  | _ => .stuck
def sRev (i : Nat) : SE := fun ρ => match ρ[i]? with
  | some (some (.ow ds)) => .nx (ρ.set i (some (.ow ds.reverse)))
  | _ => .stuck
def sExt (i : Nat) (e : LE) : SE := fun ρ => match ρ[i]? with
  | some (some (.ow ds)) => wOut (e ρ) ρ fun es => if ds.length + es.length < 1000000 then .nx (ρ.set i (some (.ow (ds ++ es)))) else .stuck
  | _ => .stuck
/-- x.insert(k, e), 0 ≤ k ≤ len -/
def sIns (i : Nat) (k e : VE) : SE := fun ρ => match ρ[i]? with
  | some (some (.ow ds)) => wOut (k ρ) ρ fun n => wOut (e ρ) ρ fun d => (match n with
    | .int n => if 0 ≤ n ∧ n ≤ ds.length ∧ ds.length < 1000000 then .nx (ρ.set i (some (.ow (ds.take n.toNat ++ d :: ds.drop n.toNat)))) else .stuck
    | _ => .stuck)
  | _ => .stuck
/-- x[k] = e, x an own list -/
def sPut (i : Nat) (k e : VE) : SE := fun ρ => wOut (e ρ) ρ fun d => match ρ[i]? with
  | some (some (.ow ds)) => wOut (k ρ) ρ fun n => (match n with
    | .int n => (match ixN ds.length n with
      | some j => .nx (ρ.set i (some (.ow (ds.set j d))))
      | none => .stuck)
    | _ => .stuck)
  | _ => .stuck
/-- x.append(y.pop(k)), x, y own lists -/
def sAppPop (i j : Nat) (k : VE) : SE := fun ρ => match ρ[i]?, ρ[j]? with
  | some (some (.ow ds)), some (some (.ow es)) => wOut (k ρ) ρ fun n => (match n with
    | .int n => if 0 ≤ n ∧ n < es.length ∧ es.length < 1000000 ∧ ds.length < 1000000 ∧ i ≠ j then (match es[n.toNat]? with
      | some d => .nx ((ρ.set j (some (.ow (es.eraseIdx n.toNat)))).set i (some (.ow (ds ++ [d]))))
      | none => .stuck) else .stuck
    | _ => .stuck)
  | _, _ => .stuck
/-- a, b, .. = x.pop(), x an own list -/
def sPopT (i : Nat) (tg : TGT) : SE := fun ρ => match ρ[i]? with
  | some (some (.ow ds)) => (match ds[ds.length - 1]? with
    | some d => (match tg d (ρ.set i (some (.ow ds.dropLast))) with
      | some ρ' => .nx ρ'
      | none => .stuck)
    | none => .stuck)
  | _ => .stuck
/-- a, b = x, y -/
def sPar (i j : Nat) (a b : VE) : SE := fun ρ => wOut (a ρ) ρ fun d => wOut (b ρ) ρ fun e => .nx ((ρ.set i (some (.fz d))).set j (some (.fz e)))
/-- d[(..)] = e, d an own dict -/
def sDPutE (i : Nat) (k : List VE) (e : VE) : SE := fun ρ => wOut (e ρ) ρ fun d => match ρ[i]? with
  | some (some (.dow kvs)) => wOut (aAll k ρ) ρ fun ks => (match asInts ks with
    | some ks => if kvs.length < 1000000 then .nx (ρ.set i (some (.dow (dPut kvs ks d)))) else .stuck
    | none => .stuck)
  | _ => .stuck
/-- an own list is changed no more -/
def frzS : SL → SL
  | .ow ds => .fz (.list ds)
  | s => s
def frzE (i : Nat) (ρ : Env) : Env := match ρ[i]? with
  | some (some s) => ρ.set i (some (frzS s))
  | _ => ρ
def sFrz (i : Nat) (s : SE) : SE := fun ρ => s (frzE i ρ)
/-- some slots are forgotten -/
def sWipe (ws : List Nat) (s : SE) : SE := fun ρ => s (wp ws ρ)
def forGo (tg : TGT) (ws : List Nat) (body : SE) : List PyData → Env → SO
  | [], ρ => .nx ρ
  | d :: r, ρ => match tg d ρ with
    | none => .stuck
    | some ρ1 => match body ρ1 with
      | .nx ρ2 => forGo tg ws body r (wp ws ρ2)
      | .ct ρ2 => forGo tg ws body r (wp ws ρ2)
      | .bk ρ2 => .nx (wp ws ρ2)
      | .rt x ρ2 => .rt x ρ2
      | .ex n ρ2 => .ex n ρ2
      | .stuck => .stuck
def sFor (w : LE) (tg : TGT) (ws : List Nat) (body : SE) : SE := fun ρ => wOut (w ρ) ρ fun ds => forGo tg ws body ds ρ
def whGo (c : BE) (ws : List Nat) (body : SE) : Nat → Env → SO
  | 0, _ => .stuck
  | n + 1, ρ => wOut (c ρ) ρ fun x => if x then (match body ρ with
      | .nx ρ2 => whGo c ws body n (wp ws ρ2)
      | .ct ρ2 => whGo c ws body n (wp ws ρ2)
      | .bk ρ2 => .nx (wp ws ρ2)
      | .rt x ρ2 => .rt x ρ2
      | .ex n ρ2 => .ex n ρ2
      | .stuck => .stuck) else .nx ρ
def sWhile (n : Nat) (c : BE) (ws : List Nat) (body : SE) : SE := whGo c ws body n
/-! ### caught errors -/
def ex8 : List String := ["NoWeights", "BadWeight", "BadBound", "NoRoom", "BadLengths", "BadWords", "BadBits", "NoSign"]
/-- isinstance(a caught error of class n, T) -/
def exSub (n T : String) : Option Bool := if n ∈ ex8 then (if T = "ValueError" then some true else if T ∈ ex8 then some (decide (n = T)) else none) else none
def eExIs (i : Nat) (T : String) : VE := fun ρ => match ρ[i]? with
  | some (some (.er n)) => match exSub n T with
    | some b => .ok (.bool b)
    | none => .stuck
  | _ => .stuck
def xCallE (F : FN) (i : Nat) : XE := fun ρ => match ρ[i]? with
  | some (some (.er n)) => match F [.er n] with
    | .ok r => .ok r
    | _ => .stuck
  | _ => .stuck
def clrS : Option SL → Option SL
  | some (.er _) => none
  | s => s
def clrE (ρ : Env) : Env := ρ.map clrS
/-- what a suite's end is to the statement behind it -/
def sOut (i : Nat) : SO → SO
  | .nx ρ => .nx ((clrE ρ).set i none)
  | .rt r ρ => .rt r (clrE ρ)
  | .bk ρ => .bk ((clrE ρ).set i none)
  | .ct ρ => .ct ((clrE ρ).set i none)
  | _ => .stuck
def sTryAs (s : SE) (ct : String → Bool) (i : Nat) (g : SE) : SE := fun ρ => match s ρ with
  | .ex n ρ' => if ct n then sOut i (g (ρ'.set i (some (.er n)))) else .stuck
  | o => o
def sOutO : SO → SO
  | .ex _ _ => .stuck
  | o => o
def sTryO (s : SE) (ct : String → Bool) (g : SE) : SE := fun ρ => match s ρ with
  | .ex n ρ' => if ct n then sOutO (g ρ') else .stuck
  | o => o
def ct8 (n : String) : Bool := decide (n ∈ ex8)
def ctOne (T : String) (n : String) : Bool := decide (n = T)
/-- a def by its body -/
def runF (p N : Nat) (g : SE) : FN := fun args => if args.length = p then (match g (args.map some ++ List.replicate (N - p) none) with
  | .nx _ => .ok (.val .none)
  | .rt r _ => .ok r
  | .ex n _ => .exc n
  | _ => .stuck) else .stuck
/-! ### plain -/
def sInsM (i : Nat) (k e : VE) : SE := fun ρ => match ρ[i]? with
  | some (some (.mw ds)) => wOut (k ρ) ρ fun n => wOut (e ρ) ρ fun d => (match n with
    | .int n => if 0 ≤ n ∧ n ≤ ds.length ∧ ds.length < 1000000 then .nx (ρ.set i (some (.mw (ds.take n.toNat ++ d :: ds.drop n.toNat)))) else .stuck
    | _ => .stuck)
  | _ => .stuck
/-- y = [l], l a new list -/
def sSetG (i : Nat) (l : LE) : SE := fun ρ => wOut (l ρ) ρ fun ds => .nx (ρ.set i (some (.og [ds])))
/-- y.append(l), l a new list -/
def sAppG (i : Nat) (l : LE) : SE := fun ρ => match ρ[i]? with
  | some (some (.og dss)) => wOut (l ρ) ρ fun ds => if dss.length < 1000000 then .nx (ρ.set i (some (.og (dss ++ [ds])))) else .stuck
  | _ => .stuck
/-! a def that changes the list handed in first; t.count(k) -/
abbrev FM := List PyData → List SL → Option (List PyData)
/-- it ends without a value -/
def runM (p N : Nat) (g : SE) : FM := fun ds args => if args.length + 1 = p then (match g ((some (.mw ds) :: args.map some) ++ List.replicate (N - p) none) with
  | .nx (some (.mw es) :: _) => some es
  | _ => none) else none
/-- f(x, ..) as a statement, x an own list -/
def sCallM (F : FM) (i : Nat) (ra : AE) : SE := fun ρ => match ρ[i]? with
  | some (some (.ow ds)) => wOut (ra ρ) ρ fun ss => (match F ds ss with
    | some es => .nx (ρ.set i (some (.ow es)))
    | none => .stuck)
  | _ => .stuck
def cntOf (ds : List PyData) : PyData → Out PyData
  | .int k => (match asInts ds with
    | some ns => .ok (.int ((ns.count k : Nat) : Int))
    | none => .stuck)
  | _ => .stuck
def eTCount (a b : VE) : VE := fun ρ => (a ρ).bind fun d => match d with
  | .tuple ds => (b ρ).bind (cntOf ds)
  | _ => .stuck
/-! rows are made longer -/
def flatD : PyData → Bool
  | .int _ => true
  | .bool _ => true
  | .str _ => true
  | .none => true
  | _ => false
def flatS : SL → Bool
  | .fz d => flatD d
  | .ow ds => ds.all flatD
  | .bw ds => ds.all flatD
  | _ => false
def keepFlat (ρ : Env) : Env := ρ.map fun o => match o with
  | some s => if flatS s then some s else none
  | none => none
/-- no list within, two deep -/
def noL1 : PyData → Bool
  | .tuple ds => ds.all flatD
  | d => flatD d
def noL2 : PyData → Bool
  | .tuple ds => ds.all noL1
  | d => flatD d
/-- for y in x: y.append(e), x a list of new lists -/
def sThaw (i j : Nat) (f : VE) : SE := fun ρ => match ρ[i]?, f ρ with
  | some (some (.oo dss)), .ok d => if dss.all (fun ds => decide (ds.length < 1000000) && ds.all noL2) ∧ dss.length < 1000000 ∧ i ≠ j ∧ j < ρ.length then .nx (((keepFlat ρ).set j none).set i (some (.fz (.list (dss.map fun ds => .list (ds ++ [d])))))) else .stuck
  | _, _ => .stuck
/-! ### texts in lists; texts repeated -/
/-- x.index(y), x a list of texts -/
def eIndex (l : LE) (a : VE) : VE := fun ρ => (l ρ).bind fun ds => (a ρ).bind fun d => match d, allStr ds with
  | .str x, some ss => if x ∈ ss then .ok (.int ((ss.findIdx fun y => decide (y = x) : Nat) : Int)) else .stuck
  | _, _ => .stuck
/-- x.join(y), y a list of texts -/
def joinOf (a : Str) (ds : List PyData) : Out PyData := match allStr ds with
  | some ss => if (ss.map (·.length)).sum + ss.length * a.length ≤ 1000000 then .ok (.str (Txt.join a ss)) else .stuck
  | none => .stuck
def eJoin (a : VE) (l : LE) : VE := fun ρ => (a ρ).bind fun d => match d with
  | .str x => (l ρ).bind (joinOf x)
  | _ => .stuck
/-- s * k -/
def oRepS : Op2
  | .str z, .int k => if 0 ≤ k ∧ k ≤ 1000 ∧ z.length ≤ 1000 then .ok (.str (Txt.mul z k)) else .stuck
  | _, _ => .stuck
/-- x.extend(e), x a list handed in that is changed -/
def sExtM (i : Nat) (e : LE) : SE := fun ρ => match ρ[i]? with
  | some (some (.mw ds)) => wOut (e ρ) ρ fun es => if ds.length + es.length < 1000000 then .nx (ρ.set i (some (.mw (ds ++ es)))) else .stuck
  | _ => .stuck
/-- y = [l, m], two new lists -/
def sSetG2 (i : Nat) (l m : LE) : SE := fun ρ => wOut (l ρ) ρ fun ds => wOut (m ρ) ρ fun es => .nx (ρ.set i (some (.og [ds, es])))
/-- x[0].clear(), x a list of new lists -/
def sClr0 (i : Nat) : SE := fun ρ => match ρ[i]? with
  | some (some (.og (_ :: _))) => .nx ((keepFlat ρ).set i (some (.hd [])))
  | _ => .stuck
/-- x[0].append(d) -/
def sApp0 (i : Nat) (d : PyData) : SE := fun ρ => match ρ[i]? with
  | some (some (.hd ds)) => if ds.all flatD = true ∧ flatD d = true ∧ ds.length < 1000000 then .nx ((keepFlat ρ).set i (some (.hd (ds ++ [d])))) else .stuck
  | _ => .stuck
def lHd (i : Nat) : LE := fun ρ => match ρ[i]? with
  | some (some (.hd ds)) => .ok ds
  | _ => .stuck
/-! ### a Reader -/
inductive TakeO where
  | got (k : Nat)
  | more
  | bad
/-- what a bit does -/
def takeO (ws : List Str) (b s : Str) : TakeO := if s ≠ "0" ∧ s ≠ "1" then .bad else if b ++ s ∈ ws then .got (ws.findIdx fun y => decide (y = b ++ s))
  else if (ws.any fun w => Txt.startswith w (b ++ s)) = true then .more else .bad
def readGo (ws : List Str) : List Nat → Str → List Int → Option (Str × List Int)
  | [], b, ss => some (b, ss)
  | c :: r, b, ss => match takeO ws b ⟨#[c]⟩ with
    | .got k => readGo ws r Str.empty (ss ++ [(k : Int)])
    | .more => readGo ws r (b ++ ⟨#[c]⟩) ss
    | .bad => none
/-- read(words, bits), by what need_words tells -/
def readF (nw : FN) : FN := fun as => match as with
  | [.bw ds, .fz d] => (match nw [.bw ds] with
    | .ok _ => (match allStr ds with
      | some ws => if ws.length ≤ 1000 then (match d with
        | .str z => if z.length ≤ 900000 then (match readGo ws z.cps.toList Str.empty [] with
          | some (b, ss) => if b = Str.empty then .ok (.fresh (ss.map PyData.int)) else .exc "BadBits"
          | none => .exc "BadBits") else .stuck
        | _ => .exc "BadBits") else .stuck
      | none => .stuck)
    | .exc n => .exc n
    | .stuck => .stuck)
  | _ => .stuck
/-- Reader(words).held() -/
def heldF (nw : FN) : FN := fun as => match as with
  | [.bw ds] => (match nw [.bw ds] with
    | .ok _ => (match allStr ds with
      | some _ => .ok (.val (.str Str.empty))
      | none => .stuck)
    | .exc n => .exc n
    | .stuck => .stuck)
  | _ => .stuck
end PL

/-! PL2: how the plain values stand in the heap; the rules for expressions. -/
namespace PL
open PySem L2

/-! ### what stays: all but the tables of code objects, which may grow -/
def isTbl : HO → Bool
  | .tbl _ => true
  | _ => false
def Ex (H H' : Hp) : Prop := ∀ b o, H b = some o → isTbl o = false → H' b = some o
theorem Ex.refl (H : Hp) : Ex H H := fun _ _ h _ => h
theorem Ex.trans {H H1 H2 : Hp} (a : Ex H H1) (b : Ex H1 H2) : Ex H H2 := fun x o h n => b x o (a x o h n) n
theorem ex_rd {H H' : Hp} {a : Addr} {u : HO} (e : Ex H H') (hu : isTbl u = false) (h : Rd H a u) : Rd H' a u := by
  rcases h with h | ⟨o, h⟩
  · exact .inl (e _ _ h hu)
  · exact .inr ⟨o, e _ _ h rfl⟩
theorem ex_l {K : PySem.W.Frag} {H H' : Hp} {a : Addr} {xs : List V} (e : Ex H H') (h : SqL K H a xs) : SqL K H' a xs := by
  rcases h with h | h
  · exact .inl (ex_rd e rfl h)
  · exact .inr h
theorem ex_t {K : PySem.W.Frag} {H H' : Hp} {a : Addr} {xs : List V} (e : Ex H H') (h : SqT K H a xs) : SqT K H' a xs := by
  rcases h with h | h
  · exact .inl (ex_rd e rfl h)
  · exact .inr h
structure Gx (τ : List (Addr × Str)) (H H' : Hp) : Prop where
  ex : Ex H H'
  tb : ∀ b o, H b = some o → H' b ≠ none
  tab : ∀ p ∈ τ, LamX.TabS H p.1 p.2 → LamX.TabS H' p.1 p.2
theorem Gx.refl {τ : List (Addr × Str)} (H : Hp) : Gx τ H H := ⟨Ex.refl H, fun b o e z => (by rw [e] at z; cases z), fun _ _ t => t⟩
theorem Gx.trans {τ : List (Addr × Str)} {H H1 H2 : Hp} (a : Gx τ H H1) (b : Gx τ H1 H2) : Gx τ H H2 := by
  refine ⟨a.ex.trans b.ex, fun x o h => ?_, fun p hp t => b.tab p hp (a.tab p hp t)⟩
  cases e : H1 x with
  | none => exact absurd e (a.tb x o h)
  | some u => exact b.tb x u e
theorem Gx.of {τ : List (Addr × Str)} {H H' : Hp} (e : ∀ b o, H b = some o → H' b = some o) : Gx τ H H' := ⟨fun b o h _ => e b o h, fun b o h => by rw [e b o h]; nofun, fun p hp t => t.ext e⟩
theorem Gx.new {τ : List (Addr × Str)} {H : Hp} {p : Addr} {o : HO} (h : H p = none) : Gx τ H (upd H p o) := .of fun a u e => by
  rw [upd_ne (ne_of_none e h)]
  exact e
theorem fresh_back {τ : List (Addr × Str)} {H H' : Hp} {p : Addr} (e : Gx τ H H') (h : H' p = none) : H p = none := by
  cases q : H p with
  | none => rfl
  | some o => exact absurd h (e.tb p o q)
instance {τ : List (Addr × Str)} {H H' : Hp} : CoeOut (Gx τ H H') (Ex H H') := ⟨Gx.ex⟩
/-- all but what may be changed stays -/
structure ExM (τ : List (Addr × Str)) (M : List Addr) (H H' : Hp) : Prop where
  st : ∀ b o, b ∉ M → H b = some o → isTbl o = false → H' b = some o
  tb : ∀ b o, H b = some o → H' b ≠ none
  tab : ∀ p ∈ τ, LamX.TabS H p.1 p.2 → LamX.TabS H' p.1 p.2
theorem ExM.grow {τ : List (Addr × Str)} {M : List Addr} {H H1 H2 : Hp} (a : ExM τ M H H1) (b : Gx τ H1 H2) : ExM τ M H H2 := by
  refine ⟨fun x o hb h n => b.ex x o (a.st x o hb h n) n, fun x o h => ?_, fun p hp t => b.tab p hp (a.tab p hp t)⟩
  cases e : H1 x with
  | none => exact absurd e (a.tb x o h)
  | some u => exact b.tb x u e
theorem ExM.refl {τ : List (Addr × Str)} (M : List Addr) (H : Hp) : ExM τ M H H := ⟨fun _ _ _ h _ => h, fun b o e z => (by rw [e] at z; cases z), fun _ _ t => t⟩
theorem ExM.gx {τ : List (Addr × Str)} {H H' : Hp} (a : ExM τ [] H H') : Gx τ H H' := ⟨fun b o h n => a.st b o (nomatch ·) h n, a.tb, a.tab⟩
/-- a list, a dict changes: tables stay -/
theorem tab_upd {H : Hp} {p : Addr} {o o' : HO} (h : H p = some o) (n1 : isTbl o = false) (n2 : ∀ φ, o ≠ .ext φ) {P : Addr} {q : Str} (t : LamX.TabS H P q) : LamX.TabS (upd H p o') P q := by
  obtain ⟨ps, h1, h2, h3⟩ := t
  have hp : P ≠ p := fun z => by
    subst z
    rw [h] at h1
    cases h1
    cases n1
  refine ⟨ps, by rw [upd_ne hp]; exact h1, h2, fun pos cv hc => ?_⟩
  obtain ⟨c, e1, e2⟩ := h3 pos cv hc
  refine ⟨c, e1, ?_⟩
  have hc : c ≠ p := fun z => by
    subst z
    rw [h] at e2
    exact n2 _ (Option.some.inj e2)
  rw [upd_ne hc]
  exact e2
/-- an object that may be changed, or is new, changes -/
theorem ExM.put {τ : List (Addr × Str)} {M : List Addr} {H H' : Hp} {p : Addr} {o o' : HO} (a : ExM τ M H H') (hp0 : H p = none ∨ p ∈ M) (h : H' p = some o) (n1 : isTbl o = false) (n2 : ∀ φ, o ≠ .ext φ) : ExM τ M H (upd H' p o') := by
  refine ⟨fun b u hb e n => ?_, fun b u e => ?_, fun p hp t => tab_upd h n1 n2 (a.tab p hp t)⟩
  · have : b ≠ p := fun z => by
      subst z
      rcases hp0 with hp | hp
      · rw [hp] at e; cases e
      · exact hb hp
    rw [upd_ne this]
    exact a.st b u hb e n
  · by_cases hb : b = p
    · subst hb; rw [upd_same]; nofun
    · rw [upd_ne hb]; exact a.tb b u e
theorem Gx.mut {τ : List (Addr × Str)} {H H' : Hp} {p : Addr} {o o' : HO} (a : Gx τ H H') (hp0 : H p = none) (h : H' p = some o) (n1 : isTbl o = false := by rfl) (n2 : ∀ φ, o ≠ .ext φ := by nofun) : Gx τ H (upd H' p o') := by
  refine ⟨fun b u e n => ?_, fun b u e => ?_, fun p hp t => tab_upd h n1 n2 (a.tab p hp t)⟩
  · rw [upd_ne (ne_of_none e hp0)]
    exact a.ex b u e n
  · rw [upd_ne (ne_of_none e hp0)]
    exact a.tb b u e
/-! ### heaps without the hidden objects -/
/-- tuples of which is not known that they hold no instance dict -/
def badT : HO → Bool
  | .tup _ => true
  | .frz o (.tup _) => o.dict.isSome
  | _ => false
def hid (O : List Addr) (H : Hp) : Hp := fun b => if b ∈ O then none else match H b with
  | some u => if badT u = true then none else some u
  | none => none
theorem hid_out {O : List Addr} {H : Hp} {b : Addr} {o : HO} (h : b ∉ O) (e : H b = some o) (n : badT o = false := by rfl) : hid O H b = some o := by
  unfold hid
  rw [if_neg h, e]
  dsimp only
  rw [if_neg (by rw [n]; decide)]
theorem hid_in {O : List Addr} {H : Hp} {b : Addr} (h : b ∈ O) : hid O H b = none := if_pos h
theorem hid_none {O : List Addr} {H : Hp} {b : Addr} (h : H b = none) : hid O H b = none := by
  unfold hid
  rw [h]
  split <;> rfl
theorem hid_of3 {O : List Addr} {H : Hp} {b : Addr} {o : HO} (e : hid O H b = some o) : b ∉ O ∧ H b = some o ∧ badT o = false := by
  unfold hid at e
  split at e
  · cases e
  · rename_i hb
    cases q : H b with
    | none => rw [q] at e; cases e
    | some u =>
      rw [q] at e
      dsimp only at e
      split at e
      · cases e
      · rename_i hn
        cases e
        exact ⟨hb, rfl, Bool.eq_false_iff.mpr hn⟩
theorem hid_of {O : List Addr} {H : Hp} {b : Addr} {o : HO} (e : hid O H b = some o) : b ∉ O ∧ H b = some o := ⟨(hid_of3 e).1, (hid_of3 e).2.1⟩
theorem hid_ex {O : List Addr} {H : Hp} : Ex (hid O H) H := fun b o e _ => (hid_of e).2
theorem hid_mono {τ : List (Addr × Str)} {O : List Addr} {H H' : Hp} (x : Gx τ H H') : Ex (hid O H) (hid O H') := fun b o e n => by
  obtain ⟨hb, e', hn⟩ := hid_of3 e
  exact hid_out hb (x.ex b o e' n) hn
theorem hid_sub {O O' : List Addr} {H : Hp} (h : ∀ b ∈ O', b ∈ O) : Ex (hid O H) (hid O' H) := fun b o e _ => by
  obtain ⟨hb, e', hn⟩ := hid_of3 e
  exact hid_out (fun z => hb (h b z)) e' hn
/-- a new object is hidden, or not -/
theorem hid_new {O : List Addr} {H : Hp} {p : Addr} {o : HO} (h : H p = none) : Ex (hid O H) (hid (p :: O) (upd H p o)) := fun b u e _ => by
  obtain ⟨hb, e', hn⟩ := hid_of3 e
  have hp : b ≠ p := ne_of_none e' h
  exact hid_out (by simp only [List.mem_cons, not_or]; exact ⟨hp, hb⟩) (by rw [upd_ne hp]; exact e') hn
/-- a hidden object changes -/
theorem hid_upd {O : List Addr} {H : Hp} {p : Addr} {o : HO} (h : p ∈ O) : hid O (upd H p o) = hid O H := by
  funext b
  unfold hid
  split
  · rfl
  · rename_i hb
    have : b ≠ p := fun z => hb (by rw [z]; exact h)
    rw [upd_ne this]

/-! ### data -/
end PL
namespace L2
open PySem PL
section
variable {K : PySem.W.Frag}
mutual
theorem Dp.mono {G G' : Hp} (x : Ex G G') : ∀ {v : V} {d : PyData}, Dp K G v d → Dp K G' v d
  | _, _, .non => .non
  | _, _, .bl b => .bl b
  | _, _, .int i => .int i
  | _, _, .str s => .str s
  | _, _, .lst h a => .lst (ex_l x h) (DpAll.mono x a)
  | _, _, .tup h a => .tup (ex_t x h) (DpAll.mono x a)
theorem DpAll.mono {G G' : Hp} (x : Ex G G') : ∀ {vs : List V} {ds : List PyData}, DpAll K G vs ds → DpAll K G' vs ds
  | _, _, .nil => .nil
  | _, _, .cons h t => .cons (Dp.mono x h) (DpAll.mono x t)
end
variable {G : Hp}
theorem DpAll.len : ∀ {vs : List V} {ds : List PyData}, DpAll K G vs ds → vs.length = ds.length
  | _, _, .nil => rfl
  | _, _, .cons _ t => by rw [List.length_cons, List.length_cons, DpAll.len t]
theorem DpAll.get : ∀ {vs : List V} {ds : List PyData} {i : Nat} {d : PyData}, DpAll K G vs ds → ds[i]? = some d → ∃ v, vs[i]? = some v ∧ Dp K G v d
  | _, _, _, _, .nil, e => by simp at e
  | _, _, 0, _, .cons h _, e => by simp at e; subst e; exact ⟨_, rfl, h⟩
  | _, _, i + 1, _, .cons _ t, e => by
    obtain ⟨v, h1, h2⟩ := DpAll.get (i := i) t (by simpa using e)
    exact ⟨v, by simpa using h1, h2⟩
theorem DpAll.getV : ∀ {vs : List V} {ds : List PyData} {i : Nat} {v : V}, DpAll K G vs ds → vs[i]? = some v → ∃ d, ds[i]? = some d ∧ Dp K G v d
  | _, _, _, _, .nil, e => by simp at e
  | _, _, 0, _, .cons h _, e => by simp at e; subst e; exact ⟨_, rfl, h⟩
  | _, _, i + 1, _, .cons _ t, e => by
    obtain ⟨v, h1, h2⟩ := DpAll.getV (i := i) t (by simpa using e)
    exact ⟨v, by simpa using h1, h2⟩
theorem DpAll.append : ∀ {vs ws : List V} {ds es : List PyData}, DpAll K G vs ds → DpAll K G ws es → DpAll K G (vs ++ ws) (ds ++ es)
  | _, _, _, _, .nil, s => s
  | _, _, _, _, .cons h t, s => .cons h (DpAll.append t s)
theorem DpAll.take : ∀ {vs : List V} {ds : List PyData} (n : Nat), DpAll K G vs ds → DpAll K G (vs.take n) (ds.take n)
  | _, _, 0, _ => .nil
  | _, _, _ + 1, .nil => .nil
  | _, _, n + 1, .cons h t => .cons h (DpAll.take n t)
theorem DpAll.drop : ∀ {vs : List V} {ds : List PyData} (n : Nat), DpAll K G vs ds → DpAll K G (vs.drop n) (ds.drop n)
  | _, _, 0, r => r
  | _, _, _ + 1, .nil => .nil
  | _, _, n + 1, .cons _ t => DpAll.drop n t
theorem DpAll.set {v : V} {d : PyData} (h : Dp K G v d) : ∀ {vs : List V} {ds : List PyData} (i : Nat), DpAll K G vs ds → DpAll K G (vs.set i v) (ds.set i d)
  | _, _, _, .nil => .nil
  | _, _, 0, .cons _ t => .cons h t
  | _, _, i + 1, .cons q t => .cons q (DpAll.set h i t)
theorem DpAll.erase : ∀ {vs : List V} {ds : List PyData} (i : Nat), DpAll K G vs ds → DpAll K G (vs.eraseIdx i) (ds.eraseIdx i)
  | _, _, _, .nil => .nil
  | _, _, 0, .cons _ t => t
  | _, _, i + 1, .cons q t => .cons q (DpAll.erase i t)
theorem DpAll.reverse {vs : List V} {ds : List PyData} (h : DpAll K G vs ds) : DpAll K G vs.reverse ds.reverse := by
  induction vs generalizing ds with
  | nil => cases h; exact .nil
  | cons v vs ih =>
    cases h with
    | cons h t =>
      rw [List.reverse_cons, List.reverse_cons]
      exact (ih t).append (.cons h .nil)
theorem DpAll.rep {vs : List V} {ds : List PyData} (h : DpAll K G vs ds) : ∀ n : Nat, DpAll K G (List.replicate n vs).flatten (List.replicate n ds).flatten
  | 0 => .nil
  | n + 1 => by
    rw [List.replicate_succ, List.replicate_succ, List.flatten_cons, List.flatten_cons]
    exact h.append (DpAll.rep h n)
theorem DpAll.cut {vs : List V} {ds : List PyData} (h : DpAll K G vs ds) (lo hi : Option Int) : DpAll K G (cutV vs lo hi) (cutD ds lo hi) := by
  unfold cutV cutD
  rw [h.len]
  exact (h.drop _).take _
theorem DpAll.at_ {vs : List V} {ds : List PyData} {k : Int} {d : PyData} (h : DpAll K G vs ds) (e : atI ds k = some d) : ∃ v, L2.atI vs k = some v ∧ Dp K G v d := by
  unfold L2.atI at e ⊢
  rw [h.len]
  cases q : ixN ds.length k with
  | none => rw [q] at e; cases e
  | some j =>
    rw [q] at e
    exact h.get e
theorem DpAll.ints : ∀ {vs : List V} {ds : List PyData} {ns : List Int}, DpAll K G vs ds → asInts ds = some ns → vs = ns.map V.int
  | _, _, ns, .nil, e => by
    have : ns = [] := by simpa [asInts] using e.symm
    subst this; rfl
  | _, d :: ds, ns, .cons h t, e => by
    unfold asInts at e
    rw [List.mapM_cons] at e
    cases d with
    | int i =>
      cases h
      cases q : asInts ds with
      | none =>
        unfold asInts at q
        rw [q] at e
        simp at e
      | some ms =>
        unfold asInts at q
        rw [q] at e
        have e' : i :: ms = ns := by simpa using e
        subst e'
        rw [DpAll.ints t (ns := ms) (by unfold asInts; exact q)]
        rfl
    | _ => simp at e
theorem DpAll.bools : ∀ {vs : List V} {ds : List PyData} {ns : List Bool}, DpAll K G vs ds → asBools ds = some ns → vs = ns.map V.bl
  | _, _, ns, .nil, e => by
    have : ns = [] := by simpa [asBools] using e.symm
    subst this; rfl
  | _, d :: ds, ns, .cons h t, e => by
    unfold asBools at e
    rw [List.mapM_cons] at e
    cases d with
    | bool i =>
      cases h
      cases q : asBools ds with
      | none =>
        unfold asBools at q
        rw [q] at e
        simp at e
      | some ms =>
        unfold asBools at q
        rw [q] at e
        have e' : i :: ms = ns := by simpa using e
        subst e'
        rw [DpAll.bools t (ns := ms) (by unfold asBools; exact q)]
        rfl
    | _ => simp at e
theorem DpAll.strs : ∀ {vs : List V} {ds : List PyData} {ns : List Str}, DpAll K G vs ds → allStr ds = some ns → vs = ns.map V.str
  | _, _, ns, .nil, e => by
    have : ns = [] := by simpa [allStr] using e.symm
    subst this; rfl
  | _, d :: ds, ns, .cons h t, e => by
    unfold allStr at e
    rw [List.mapM_cons] at e
    cases d with
    | str i =>
      cases h
      cases q : allStr ds with
      | none =>
        unfold allStr at q
        rw [q] at e
        simp at e
      | some ms =>
        unfold allStr at q
        rw [q] at e
        have e' : i :: ms = ns := by simpa using e
        subst e'
        rw [DpAll.strs t (ns := ms) (by unfold allStr; exact q)]
        rfl
    | _ => simp at e
/-- pairs of a dict -/
inductive KvAll (K : PySem.W.Frag) (G : Hp) : List (List Key × V) → List (List Int × PyData) → Prop
  | nil : KvAll K G [] []
  | cons {k : List Int} {v : V} {d : PyData} {r : List (List Key × V)} {s : List (List Int × PyData)} : Dp K G v d → KvAll K G r s → KvAll K G ((k.map Sum.inl, v) :: r) ((k, d) :: s)
theorem KvAll.mono {G' : Hp} (x : Ex G G') {a : List (List Key × V)} {b : List (List Int × PyData)} (h : KvAll K G a b) : KvAll K G' a b := by
  induction h with
  | nil => exact .nil
  | cons h _ ih => exact .cons (Dp.mono x h) ih
theorem KvAll.len {a : List (List Key × V)} {b : List (List Int × PyData)} (h : KvAll K G a b) : a.length = b.length := by
  induction h with
  | nil => rfl
  | cons h _ ih => rw [List.length_cons, List.length_cons, ih]
end
end L2
namespace PL
open PySem L2

/-! ### the state -/
structure PC where
  M : List Addr
  H0 : Hp
  O0 : List Addr
  W : WX
  cv : String → Value
  EX : Addr → String → Prop
  T : List (Addr × Str)
def ownS : SL → Bool
  | .ow _ => true
  | .dow _ => true
  | .mw _ => true
  | .og _ => true
  | _ => false
/-- lists that are new, each another one -/
inductive Rows (K : PySem.W.Frag) (G : Hp) : List Addr → List (List PyData) → Prop
  | nil : Rows K G [] []
  | cons {q : Addr} {us : List V} {ds : List PyData} {qs : List Addr} {dss : List (List PyData)} : G q = some (.lst us) → DpAll K G us ds → Rows K G qs dss → Rows K G (q :: qs) (ds :: dss)
theorem Rows.mono {K : PySem.W.Frag} {G G' : Hp} (x : Ex G G') : ∀ {qs : List Addr} {dss : List (List PyData)}, Rows K G qs dss → Rows K G' qs dss
  | _, _, .nil => .nil
  | _, _, .cons h a t => .cons (x _ _ h rfl) (DpAll.mono x a) (Rows.mono x t)
theorem Rows.dp {K : PySem.W.Frag} {G : Hp} : ∀ {qs : List Addr} {dss : List (List PyData)}, Rows K G qs dss → DpAll K G (qs.map V.ref) (dss.map PyData.list)
  | _, _, .nil => .nil
  | _, _, .cons h a t => .cons (.lst (SqL.of h) a) (Rows.dp t)
structure Oo (K : PySem.W.Frag) (H0 G : Hp) (qs : List Addr) (dss : List (List PyData)) : Prop where
  nd : qs.Nodup
  new : ∀ q ∈ qs, H0 q = none
  row : Rows K G qs dss
theorem Oo.mono {K : PySem.W.Frag} {H0 G G' : Hp} {qs : List Addr} {dss : List (List PyData)} (x : Ex G G') (h : Oo K H0 G qs dss) : Oo K H0 G' qs dss := ⟨h.nd, h.new, h.row.mono x⟩
def OoF (K : PySem.W.Frag) (H0 G : Hp) (v : V) (dss : List (List PyData)) : Prop := ∃ p qs, v = .ref p ∧ G p = some (.lst (qs.map V.ref)) ∧ p ∉ qs ∧ Oo K H0 G qs dss
theorem OoF.mono {K : PySem.W.Frag} {H0 G G' : Hp} {v : V} {dss : List (List PyData)} (x : Ex G G') (h : OoF K H0 G v dss) : OoF K H0 G' v dss := by
  obtain ⟨p, qs, a, b, c, d⟩ := h
  exact ⟨p, qs, a, x _ _ b rfl, c, d.mono x⟩
theorem OoF.dp {K : PySem.W.Frag} {H0 G : Hp} {v : V} {dss : List (List PyData)} (h : OoF K H0 G v dss) : Dp K G v (.list (dss.map PyData.list)) := by
  obtain ⟨p, qs, rfl, b, c, d⟩ := h
  exact .lst (SqL.of b) d.row.dp
/-- a list, of which the first item is a new list -/
def HdF (K : PySem.W.Frag) (H0 G : Hp) (v : V) (ds : List PyData) : Prop := ∃ p q rest us, v = .ref p ∧ G p = some (.lst (.ref q :: rest)) ∧ G q = some (.lst us) ∧ H0 q = none ∧ H0 p = none ∧ p ≠ q ∧ DpAll K G us ds
theorem HdF.mono {K : PySem.W.Frag} {H0 G G' : Hp} {v : V} {ds : List PyData} (x : Ex G G') (h : HdF K H0 G v ds) : HdF K H0 G' v ds := by
  obtain ⟨p, q, rest, us, a, b, c, d, e, f, g⟩ := h
  exact ⟨p, q, rest, us, a, x _ _ b rfl, x _ _ c rfl, d, e, f, DpAll.mono x g⟩
def SlotOk (K : PySem.W.Frag) (C : PC) (O : List Addr) (H : Hp) (v : V) : SL → Prop
  | .fz d => Dp K (hid O H) v d
  | .ow ds => ∃ p vs, v = .ref p ∧ p ∈ O ∧ (C.H0 p = none ∨ p ∈ C.M) ∧ H p = some (.lst vs) ∧ DpAll K (hid O H) vs ds
  | .bw ds => ∃ p vs, v = .ref p ∧ p ∉ C.M ∧ SqL K C.H0 p vs ∧ DpAll K (hid O H) vs ds
  | .dow kvs => ∃ p vs, v = .ref p ∧ p ∈ O ∧ (C.H0 p = none ∨ p ∈ C.M) ∧ H p = some (.dT vs) ∧ KvAll K (hid O H) vs kvs
  | .dbw kvs => ∃ p vs, v = .ref p ∧ p ∉ C.M ∧ C.H0 p = some (.dT vs) ∧ KvAll K (hid O H) vs kvs
  | .er n => ∃ a, v = .ref a ∧ C.EX a n
  | .mw ds => ∃ p vs, v = .ref p ∧ p ∈ O ∧ p ∈ C.M ∧ H p = some (.lst vs) ∧ DpAll K (hid O H) vs ds
  | .og dss => ∃ p qs, v = .ref p ∧ p ∈ O ∧ C.H0 p = none ∧ H p = some (.lst (qs.map V.ref)) ∧ Oo K C.H0 (hid O H) qs dss
  | .oo dss => OoF K C.H0 (hid O H) v dss
  | .hd ds => HdF K C.H0 (hid O H) v ds
structure Rep (K : PySem.W.Frag) (C : PC) (O : List Addr) (H : Hp) (σ : St) (ρ : Env) : Prop where
  ex : ExM C.T C.M C.H0 H
  o0 : (∀ b ∈ C.O0, C.H0 b ≠ none) ∧ LamX.Tabs C.T C.H0
  sub : ∀ b ∈ C.O0, b ∈ O
  alive : ∀ b ∈ O, H b ≠ none
  len : σ.length = ρ.length
  slot : ∀ (i : Nat) (s : SL), ρ[i]? = some (some s) → ∃ v, σ[i]? = some (some v) ∧ SlotOk K C O H v s
  apart : ∀ (i j : Nat) (s t : SL) (p : Addr), i ≠ j → ρ[i]? = some (some s) → ownS s = true → σ[i]? = some (some (.ref p)) → ρ[j]? = some (some t) → ownS t = true → σ[j]? = some (some (.ref p)) → False
section
variable {K : PySem.W.Frag} {C : PC} {O O' : List Addr} {H H' : Hp} {σ : St} {ρ : Env}
/-- the heap has grown -/
theorem Rep.grow (R : Rep K C O H σ ρ) (x : Gx C.T H H') : Rep K C O H' σ ρ where
  ex := R.ex.grow x
  o0 := R.o0
  sub := R.sub
  alive := fun b hb e => R.alive b hb (fresh_back x e)
  len := R.len
  slot := fun i s e => by
    obtain ⟨v, h1, h2⟩ := R.slot i s e
    refine ⟨v, h1, ?_⟩
    cases s with
    | fz d => exact Dp.mono (hid_mono x) h2
    | ow ds => obtain ⟨p, vs, a, b, c, d, e⟩ := h2; exact ⟨p, vs, a, b, c, x.ex _ _ d rfl, DpAll.mono (hid_mono x) e⟩
    | bw ds => obtain ⟨p, vs, a, b, c, e⟩ := h2; exact ⟨p, vs, a, b, c, DpAll.mono (hid_mono x) e⟩
    | dow ds => obtain ⟨p, vs, a, b, c, d, e⟩ := h2; exact ⟨p, vs, a, b, c, x.ex _ _ d rfl, KvAll.mono (hid_mono x) e⟩
    | dbw ds => obtain ⟨p, vs, a, b, c, e⟩ := h2; exact ⟨p, vs, a, b, c, KvAll.mono (hid_mono x) e⟩
    | er n => exact h2
    | mw ds => obtain ⟨p, vs, a, b, c, d, e⟩ := h2; exact ⟨p, vs, a, b, c, x.ex _ _ d rfl, DpAll.mono (hid_mono x) e⟩
    | og dss => obtain ⟨p, vs, a, b, c, d, e⟩ := h2; exact ⟨p, vs, a, b, c, x.ex _ _ d rfl, e.mono (hid_mono x)⟩
    | oo dss => exact OoF.mono (hid_mono x) h2
    | hd ds => exact HdF.mono (hid_mono x) h2
  apart := R.apart
/-- the tables -/
theorem Rep.tabs (R : Rep K C O H σ ρ) : LamX.Tabs C.T H := fun p hp => R.ex.tab p hp (R.o0.2 p hp)
/-- a borrowed list in the heap at hand -/
theorem Rep.bwL (R : Rep K C O H σ ρ) {p : Addr} {vs : List V} (hM : p ∉ C.M) (h : SqL K C.H0 p vs) : SqL K H p vs := by
  rcases h with (h | ⟨o, h⟩) | h
  · exact .inl (.inl (R.ex.st p _ hM h rfl))
  · exact .inl (.inr ⟨o, R.ex.st p _ hM h rfl⟩)
  · exact .inr h
/-- the value in a slot, to be read -/
theorem Rep.rd (R : Rep K C O H σ ρ) {i : Nat} {d : PyData} (e : rVar i ρ = .ok d) : ∃ v, σ[i]? = some (some v) ∧ Dp K H v d := by
  unfold rVar at e
  cases q : ρ[i]? with
  | none => rw [q] at e; cases e
  | some o =>
    cases o with
    | none => rw [q] at e; cases e
    | some s =>
      obtain ⟨v, h1, h2⟩ := R.slot i s q
      refine ⟨v, h1, ?_⟩
      rw [q] at e
      cases s with
      | fz d' => cases e; exact Dp.mono hid_ex h2
      | ow ds => obtain ⟨p, vs, rfl, _, _, a, b⟩ := h2; cases e; exact .lst (SqL.of a) (DpAll.mono hid_ex b)
      | bw ds => obtain ⟨p, vs, rfl, hM, a, b⟩ := h2; cases e; exact .lst (R.bwL hM a) (DpAll.mono hid_ex b)
      | dow ds => cases e
      | dbw ds => cases e
      | er n => cases e
      | mw ds => obtain ⟨p, vs, rfl, _, _, a, b⟩ := h2; cases e; exact .lst (SqL.of a) (DpAll.mono hid_ex b)
      | og ds => obtain ⟨p, vs, rfl, _, _, a, b⟩ := h2; cases e; exact .lst (SqL.of a) (DpAll.mono hid_ex b.row.dp)
      | oo ds => cases e; exact Dp.mono hid_ex (OoF.dp h2)
      | hd ds => cases e
theorem Rep.rl (R : Rep K C O H σ ρ) {i : Nat} {ds : List PyData} (e : lVar i ρ = .ok ds) : ∃ p vs, σ[i]? = some (some (.ref p)) ∧ SqL K H p vs ∧ DpAll K (hid O H) vs ds := by
  unfold lVar at e
  cases q : ρ[i]? with
  | none => rw [q] at e; cases e
  | some o =>
    cases o with
    | none => rw [q] at e; cases e
    | some s =>
      obtain ⟨v, h1, h2⟩ := R.slot i s q
      rw [q] at e
      cases s with
      | fz d' =>
        cases d' with
        | list ds' =>
          cases e
          cases (show Dp K (hid O H) v (.list ds) from h2) with
          | lst a b => exact ⟨_, _, h1, ex_l hid_ex a, b⟩
        | _ => cases e
      | ow ds => obtain ⟨p, vs, rfl, _, _, a, b⟩ := h2; cases e; exact ⟨p, vs, h1, SqL.of a, b⟩
      | bw ds => obtain ⟨p, vs, rfl, hM, a, b⟩ := h2; cases e; exact ⟨p, vs, h1, R.bwL hM a, b⟩
      | dow ds => cases e
      | dbw ds => cases e
      | er n => cases e
      | mw ds => obtain ⟨p, vs, rfl, _, _, a, b⟩ := h2; cases e; exact ⟨p, vs, h1, SqL.of a, b⟩
      | og ds => obtain ⟨p, vs, rfl, _, _, a, b⟩ := h2; cases e; exact ⟨p, _, h1, SqL.of a, b.row.dp⟩
      | oo ds => obtain ⟨p, vs, rfl, a, _, b⟩ := h2; cases e; exact ⟨p, _, h1, ex_l hid_ex (SqL.of a), b.row.dp⟩
      | hd ds => cases e
theorem Rep.fz (R : Rep K C O H σ ρ) {i : Nat} {d : PyData} (e : eVar i ρ = .ok d) : ∃ v, σ[i]? = some (some v) ∧ Dp K (hid O H) v d := by
  unfold eVar at e
  cases q : ρ[i]? with
  | none => rw [q] at e; cases e
  | some o =>
    cases o with
    | none => rw [q] at e; cases e
    | some s =>
      obtain ⟨v, h1, h2⟩ := R.slot i s q
      rw [q] at e
      cases s with
      | fz d' => cases e; exact ⟨v, h1, h2⟩
      | oo dss => cases e; exact ⟨v, h1, OoF.dp h2⟩
      | _ => cases e
theorem Rep.own (R : Rep K C O H σ ρ) {i : Nat} {ds : List PyData} (q : ρ[i]? = some (some (.ow ds))) : ∃ p vs, σ[i]? = some (some (.ref p)) ∧ p ∈ O ∧ (C.H0 p = none ∨ p ∈ C.M) ∧ H p = some (.lst vs) ∧ DpAll K (hid O H) vs ds := by
  obtain ⟨v, h1, p, vs, rfl, h2⟩ := R.slot i _ q
  exact ⟨p, vs, h1, h2⟩
end

/-! ### judgements -/
section
variable (K : PySem.W.Frag) (C : PC)
/-- what is shown of an expression's end -/
def Fin {α : Type} (σ : St) (H : Hp) (o : Out α) (k : α → Prop) : Prop := match o with
  | .ok a => k a
  | .exc n => ∀ H', Gx C.T H H' → C.W (C.cv n) none σ H'
  | .stuck => False
/-- a value that never changes -/
def tV (f : VE) : TE := fun σ H Q => ∃ O ρ, Rep K C O H σ ρ ∧ Fin C σ H (f ρ) fun d => ∀ v H', Gx C.T H H' → Dp K (hid O H') v d → Q v H'
/-- a thing that is read -/
def tR (f : VE) : TE := fun σ H Q => ∃ O ρ, Rep K C O H σ ρ ∧ Fin C σ H (f ρ) fun d => ∀ v H', Gx C.T H H' → Dp K H' v d → Q v H'
/-- a list that is read -/
def tL (f : LE) : TE := fun σ H Q => ∃ O ρ, Rep K C O H σ ρ ∧ Fin C σ H (f ρ) fun ds => ∀ p vs H', Gx C.T H H' → SqL K H' p vs → DpAll K (hid O H') vs ds → Q (.ref p) H'
/-- a list of the program's own -/
def tO (f : LE) : TE := fun σ H Q => ∃ O ρ, Rep K C O H σ ρ ∧ Fin C σ H (f ρ) fun ds => ∀ p vs H', Gx C.T H H' → H' p = some (.lst vs) → DpAll K (hid O H') vs ds → Q (.ref p) H'
/-- a new list -/
def tF (f : LE) : TE := fun σ H Q => ∃ O ρ, Rep K C O H σ ρ ∧ Fin C σ H (f ρ) fun ds => ∀ p vs H', Gx C.T H H' → H p = none → H' p = some (.lst vs) → DpAll K (hid (p :: O) H') vs ds → Q (.ref p) H'
/-- what a call hands back -/
def RetC (O : List Addr) (H H' : Hp) (v : V) : RV → Prop
  | .val d => Dp K (hid O H') v d
  | .fresh ds => ∃ p vs, v = .ref p ∧ H p = none ∧ H' p = some (.lst vs) ∧ DpAll K (hid (p :: O) H') vs ds
  | .dfresh kvs => ∃ p vs, v = .ref p ∧ H p = none ∧ H' p = some (.dT vs) ∧ KvAll K (hid (p :: O) H') vs kvs
  | .gfresh dss => ∃ p qs, v = .ref p ∧ H p = none ∧ H' p = some (.lst (qs.map V.ref)) ∧ Oo K H (hid (p :: O) H') qs dss
def tX (f : XE) : TE := fun σ H Q => ∃ O ρ, Rep K C O H σ ρ ∧ Fin C σ H (f ρ) fun r => ∀ v H', Gx C.T H H' → RetC K O H H' v r → Q v H'
/-- a test -/
def tT (f : BE) : TT := fun σ H Q => ∃ O ρ, Rep K C O H σ ρ ∧ Fin C σ H (f ρ) fun b => ∀ H', Gx C.T H H' → Q b H'
/-- several values -/
def tA (f : LE) : TA := fun σ H Q => ∃ O ρ, Rep K C O H σ ρ ∧ Fin C σ H (f ρ) fun ds => ∀ vs H', Gx C.T H H' → DpAll K (hid O H') vs ds → Q vs H'
/-- arguments of a def -/
def ArgOk (O : List Addr) (H : Hp) (v : V) : SL → Prop
  | .fz d => Dp K (hid O H) v d
  | .bw ds => ∃ p vs, v = .ref p ∧ SqL K H p vs ∧ DpAll K (hid O H) vs ds
  | .dbw kvs => ∃ p vs, v = .ref p ∧ H p = some (.dT vs) ∧ KvAll K (hid O H) vs kvs
  | _ => False
inductive ArgsOk (O : List Addr) (H : Hp) : List V → List SL → Prop
  | nil : ArgsOk O H [] []
  | cons {v : V} {vs : List V} {s : SL} {ss : List SL} : ArgOk K O H v s → ArgsOk O H vs ss → ArgsOk O H (v :: vs) (s :: ss)
def tAr (f : AE) : TA := fun σ H Q => ∃ O ρ, Rep K C O H σ ρ ∧ Fin C σ H (f ρ) fun ss => ∀ vs H', Gx C.T H H' → ArgsOk K O H' vs ss → Q vs H'
/-- a part of a slice -/
def tP (f : OE) : TO := fun σ H Q => ∃ O ρ, Rep K C O H σ ρ ∧ Fin C σ H (f ρ) fun o => ∀ H', Gx C.T H H' → Q o H'
end
section
variable {K : PySem.W.Frag} {C : PC} {O : List Addr} {H H' : Hp} {σ : St} {ρ : Env}
theorem Fin.bind {α β : Type} {o : Out α} {f : α → Out β} {k : β → Prop} (h : Fin C σ H (o.bind f) k) : Fin C σ H o fun a => Fin C σ H (f a) k := by
  cases o with
  | ok a => exact h
  | exc n => exact h
  | stuck => exact h
theorem Fin.imp {α : Type} {o : Out α} {k k' : α → Prop} (h : Fin C σ H o k) (i : ∀ a, o = .ok a → k a → k' a) : Fin C σ H o k' := by
  cases o with
  | ok a => exact i a rfl h
  | exc n => exact h
  | stuck => exact h
theorem Fin.grow {α : Type} {o : Out α} {k : α → Prop} (h : Fin C σ H o k) (x : Gx C.T H H') : Fin C σ H' o k := by
  cases o with
  | ok a => exact h
  | exc n => exact fun H2 x2 => h H2 (x.trans x2)
  | stuck => exact h
theorem ArgsOk.mono {vs : List V} {ss : List SL} (x : Gx C.T H H') (h : ArgsOk K O H vs ss) : ArgsOk K O H' vs ss := by
  induction h with
  | nil => exact .nil
  | @cons v vs s ss h _ ih =>
    refine .cons ?_ ih
    cases s with
    | fz d => exact Dp.mono (hid_mono x) h
    | bw ds => obtain ⟨p, vs, a, b, c⟩ := h; exact ⟨p, vs, a, ex_l x b, DpAll.mono (hid_mono x) c⟩
    | dbw ds => obtain ⟨p, vs, a, b, c⟩ := h; exact ⟨p, vs, a, x.ex _ _ b rfl, KvAll.mono (hid_mono x) c⟩
    | ow ds => exact h
    | dow ds => exact h
    | er n => exact h
    | mw ds => exact h
    | og ds => exact h
    | oo ds => exact h
    | hd ds => exact h
theorem ArgsOk.len {vs : List V} {ss : List SL} (h : ArgsOk K O H vs ss) : vs.length = ss.length := by
  induction h with
  | nil => rfl
  | cons _ _ ih => rw [List.length_cons, List.length_cons, ih]
end

/-! ### weakening -/
section
variable {X : Cx} {e : Expr} {es : List Expr} {st : Stmt} {sts : List Stmt}
theorem pe_imp {t t' : TE} (h : PE X e t) (i : ∀ σ H Q, t' σ H Q → t σ H Q) : PE X e t' := ⟨fun pins s σ H Q I q => h.run pins s σ H Q I (i σ H Q q)⟩
theorem pt_imp {t t' : TT} (h : PT X e t) (i : ∀ σ H Q, t' σ H Q → t σ H Q) : PT X e t' := ⟨fun pins s σ H Q I q => h.run pins s σ H Q I (i σ H Q q)⟩
theorem pw_imp {t t' : TT} (h : PW X e t) (i : ∀ σ H Q, t' σ H Q → t σ H Q) : PW X e t' := ⟨fun w pins s σ H Q I q => h.run w pins s σ H Q I (i σ H Q q)⟩
theorem pa_imp {t t' : TA} (h : PA X es t) (i : ∀ σ H Q, t' σ H Q → t σ H Q) : PA X es t' := ⟨fun pos pins s σ H Q I q => h.run pos pins s σ H Q I (i σ H Q q)⟩
theorem po_imp {o : Option Expr} {t t' : TO} (h : PO X o t) (i : ∀ σ H Q, t' σ H Q → t σ H Q) : PO X o t' := ⟨fun pins s σ H Q I q => h.run pins s σ H Q I (i σ H Q q)⟩
theorem ps_imp {t t' : TS} (h : PS X st t) (i : ∀ D σ H, t' D σ H → t D σ H) : PS X st t' := ⟨fun pins s σ H D I q => h.run pins s σ H D I (i D σ H q)⟩
theorem pss_imp {t t' : TS} (h : PSs X sts t) (i : ∀ D σ H, t' D σ H → t D σ H) : PSs X sts t' := ⟨fun pins s σ H D I q => h.run pins s σ H D I (i D σ H q)⟩
theorem pts_imp {t t' : TT} (h : PTs X es t) (i : ∀ σ H Q, t' σ H Q → t σ H Q) : PTs X es t' := ⟨fun pins s σ H Q I q => h.run pins s σ H Q I (i σ H Q q)⟩
theorem pi_imp {tg : Expr} {t t' : TI} (h : PI X tg e t) (i : ∀ σ H R, t' σ H R → t σ H R) : PI X tg e t' := ⟨fun pins s σ H R I q => h.run pins s σ H R I (i σ H R q)⟩
end

/-! ### coercions -/
section
variable {X : Cx} {C : PC} {e : Expr}
theorem r_V {f : VE} (h : PE X e (tV X.K C f)) : PE X e (tR X.K C f) := pe_imp h fun σ H Q ⟨O, ρ, R, q⟩ => ⟨O, ρ, R, q.imp fun d _ k v H' x p => k v H' x (Dp.mono hid_ex p)⟩
theorem v_F {f : LE} (h : PE X e (tF X.K C f)) : PE X e (tV X.K C (eOfL f)) := pe_imp h fun σ H Q ⟨O, ρ, R, q⟩ => ⟨O, ρ, R, (Fin.bind q).imp fun ds _ k p vs H' x n a b => k (.ref p) H' x (.lst (SqL.of (hid_out (fun z => R.alive p z n) a)) (DpAll.mono (hid_sub fun b z => List.mem_cons_of_mem _ z) b))⟩
theorem o_F {f : LE} (h : PE X e (tF X.K C f)) : PE X e (tO X.K C f) := pe_imp h fun σ H Q ⟨O, ρ, R, q⟩ => ⟨O, ρ, R, q.imp fun ds _ k p vs H' x n a b => k p vs H' x a (DpAll.mono (hid_sub fun b z => List.mem_cons_of_mem _ z) b)⟩
theorem l_O {f : LE} (h : PE X e (tO X.K C f)) : PE X e (tL X.K C f) := pe_imp h fun σ H Q ⟨O, ρ, R, q⟩ => ⟨O, ρ, R, q.imp fun ds _ k p vs H' x a b => k p vs H' x (SqL.of a) b⟩
theorem l_F {f : LE} (h : PE X e (tF X.K C f)) : PE X e (tL X.K C f) := l_O (o_F h)
theorem l_V {f : VE} (h : PE X e (tV X.K C f)) : PE X e (tL X.K C (lOfV f)) := pe_imp h fun σ H Q ⟨O, ρ, R, q⟩ => ⟨O, ρ, R, (Fin.bind q).imp fun d _ k v H' x p => by
  cases p with
  | lst a b => exact (show _ from k) _ _ H' x (ex_l hid_ex a) b
  | non => exact k.elim
  | bl _ => exact k.elim
  | int _ => exact k.elim
  | str _ => exact k.elim
  | tup _ _ => exact k.elim⟩
theorem r_L {f : LE} (h : PE X e (tL X.K C f)) : PE X e (tR X.K C (eOfL f)) := pe_imp h fun σ H Q ⟨O, ρ, R, q⟩ => ⟨O, ρ, R, (Fin.bind q).imp fun ds _ k p vs H' x a b => k (.ref p) H' x (.lst a (DpAll.mono hid_ex b))⟩
theorem v_X {f : XE} (h : PE X e (tX X.K C f)) : PE X e (tV X.K C (eX f)) := pe_imp h fun σ H Q ⟨O, ρ, R, q⟩ => ⟨O, ρ, R, (Fin.bind q).imp fun r _ k v H' x p => by
  cases r with
  | val d => exact k v H' x p
  | fresh ds =>
    obtain ⟨a, vs, rfl, n, h1, h2⟩ := p
    exact k _ H' x (.lst (SqL.of (hid_out (fun z => R.alive a z n) h1)) (DpAll.mono (hid_sub fun b z => List.mem_cons_of_mem _ z) h2))
  | dfresh _ => exact k.elim
  | gfresh _ => exact k.elim⟩
theorem f_X {f : XE} (h : PE X e (tX X.K C f)) : PE X e (tF X.K C (lX f)) := pe_imp h fun σ H Q ⟨O, ρ, R, q⟩ => ⟨O, ρ, R, (Fin.bind q).imp fun r _ k v H' x p => by
  cases r with
  | val d => exact k.elim
  | fresh ds =>
    obtain ⟨a, vs, rfl, n, h1, h2⟩ := p
    exact k a vs H' x n h1 h2
  | dfresh _ => exact k.elim
  | gfresh _ => exact k.elim⟩

/-! ### names, constants -/
theorem v_var (i : Nat) {x : Str} {pos : Pos} (hN : X.N[i]? = some x := by rfl) (hv : Vis X.env.scope x := by first | exact Or.inl rfl | exact Or.inr (Or.inl rfl) | exact Or.inr (Or.inr rfl)) (hd : (x == ("__debug__" : Str)) = false := by decide)
    (hcd : (x == ("__classdict__" : Str)) = false := by decide) : PE X (.Name x pos) (tV X.K C (eVar i)) := pe_imp (pe_var (i := i) hN hv hd hcd) fun σ H Q ⟨O, ρ, R, q⟩ => by
  cases e : eVar i ρ with
  | ok d =>
    rw [e] at q
    obtain ⟨v, h1, h2⟩ := R.fz e
    exact ⟨v, h1, q v H (Gx.refl H) h2⟩
  | exc n =>
    unfold eVar at e
    split at e <;> cases e
  | stuck => rw [e] at q; exact q.elim
theorem r_var (i : Nat) {x : Str} {pos : Pos} (hN : X.N[i]? = some x := by rfl) (hv : Vis X.env.scope x := by first | exact Or.inl rfl | exact Or.inr (Or.inl rfl) | exact Or.inr (Or.inr rfl)) (hd : (x == ("__debug__" : Str)) = false := by decide)
    (hcd : (x == ("__classdict__" : Str)) = false := by decide) : PE X (.Name x pos) (tR X.K C (rVar i)) := pe_imp (pe_var (i := i) hN hv hd hcd) fun σ H Q ⟨O, ρ, R, q⟩ => by
  cases e : rVar i ρ with
  | ok d =>
    rw [e] at q
    obtain ⟨v, h1, h2⟩ := R.rd e
    exact ⟨v, h1, q v H (Gx.refl H) h2⟩
  | exc n =>
    unfold rVar at e
    split at e <;> cases e
  | stuck => rw [e] at q; exact q.elim
theorem l_var (i : Nat) {x : Str} {pos : Pos} (hN : X.N[i]? = some x := by rfl) (hv : Vis X.env.scope x := by first | exact Or.inl rfl | exact Or.inr (Or.inl rfl) | exact Or.inr (Or.inr rfl)) (hd : (x == ("__debug__" : Str)) = false := by decide)
    (hcd : (x == ("__classdict__" : Str)) = false := by decide) : PE X (.Name x pos) (tL X.K C (lVar i)) := pe_imp (pe_var (i := i) hN hv hd hcd) fun σ H Q ⟨O, ρ, R, q⟩ => by
  cases e : lVar i ρ with
  | ok d =>
    rw [e] at q
    obtain ⟨p, vs, h1, h2, h3⟩ := R.rl e
    exact ⟨.ref p, h1, q p vs H (Gx.refl H) h2 h3⟩
  | exc n =>
    unfold lVar at e
    split at e <;> cases e
  | stuck => rw [e] at q; exact q.elim
theorem o_var (i : Nat) {x : Str} {pos : Pos} (hN : X.N[i]? = some x := by rfl) (hv : Vis X.env.scope x := by first | exact Or.inl rfl | exact Or.inr (Or.inl rfl) | exact Or.inr (Or.inr rfl)) (hd : (x == ("__debug__" : Str)) = false := by decide)
    (hcd : (x == ("__classdict__" : Str)) = false := by decide) : PE X (.Name x pos) (tO X.K C (kVar i)) := pe_imp (pe_var (i := i) hN hv hd hcd) fun σ H Q ⟨O, ρ, R, q⟩ => by
  unfold kVar at q
  split at q
  · rename_i ds e
    obtain ⟨p, vs, h1, h2, h3, h4, h5⟩ := R.own e
    exact ⟨.ref p, h1, q p vs H (Gx.refl H) h4 h5⟩
  · exact q.elim
theorem v_int {i : Int} {j : Nat} {pos : Pos} : PE X (.Constant (.int i) j pos) (tV X.K C (eC (.int i))) := pe_imp pe_int fun σ H Q ⟨O, ρ, R, q⟩ => q _ H (Gx.refl H) (.int i)
theorem v_str {x : Str} {j : Nat} {pos : Pos} : PE X (.Constant (.str x) j pos) (tV X.K C (eC (.str x))) := pe_imp pe_str fun σ H Q ⟨O, ρ, R, q⟩ => q _ H (Gx.refl H) (.str x)
theorem v_non {j : Nat} {pos : Pos} : PE X (.Constant .none j pos) (tV X.K C (eC .none)) := pe_imp pe_non fun σ H Q ⟨O, ρ, R, q⟩ => q _ H (Gx.refl H) .non
theorem v_bl {b : Bool} {j : Nat} {pos : Pos} : PE X (.Constant (.bool b) j pos) (tV X.K C (eC (.bool b))) := pe_imp pe_bl fun σ H Q ⟨O, ρ, R, q⟩ => q _ H (Gx.refl H) (.bl b)
/-- a module's int -/
theorem v_glob {x : Str} {i : Int} {t : Tok} {pos : Pos} (hg : Gl X x) (hm : X.mg x = some (.int i t)) (hd : (x == ("__debug__" : Str)) = false := by decide) : PE X (.Name x pos) (tV X.K C (eC (.int i))) :=
  pe_imp (pe_glob (v := .int i) hg hm ⟨t, rfl⟩ hd) fun σ H Q ⟨O, ρ, R, q⟩ => q _ H (Gx.refl H) (.int i)

/-! ### operators -/
variable {a b c : Expr} {f g h : VE} {pos : Pos}
/-- two values, then a rule on them -/
theorem two {f g : VE} {σ : St} {H : Hp} {k : PyData → PyData → Out PyData} {Q : VK} {r : R2} {K : PySem.W.Frag}
    (hr : ∀ (O : List Addr) (H : Hp) (x y : V) (d e z : PyData), (∀ b ∈ O, H b ≠ none) → Dp K (hid O H) x d → Dp K (hid O H) y e → k d e = .ok z → (∀ v H', Gx C.T H H' → Dp K (hid O H') v z → Q v H') → r x y H Q)
    (hx : ∀ d e n, k d e ≠ .exc n) (q : tV K C (eOp k f g) σ H Q) : tOp r (tV K C f) (tV K C g) σ H Q := by
  obtain ⟨O, ρ, R, q⟩ := q
  refine ⟨O, ρ, R, (Fin.bind q).imp fun d _ q1 v H1 x1 p1 => ?_⟩
  refine ⟨O, ρ, R.grow x1, ((Fin.bind q1).grow x1).imp fun e _ q2 u H2 x2 p2 => ?_⟩
  cases z : k d e with
  | ok z' =>
    rw [z] at q2
    exact hr O H2 v u d e z' (fun b hb => (R.grow (x1.trans x2)).alive b hb) (Dp.mono (hid_mono x2) p1) p2 z fun w H3 x3 p3 => q2 w H3 ((x1.trans x2).trans x3) p3
  | exc n => exact absurd z (hx d e n)
  | stuck => rw [z] at q2; exact q2.elim
/-- .. that are read -/
theorem twoR {f g : VE} {σ : St} {H : Hp} {k : PyData → PyData → Out PyData} {Q : VK} {r : R2} {K : PySem.W.Frag}
    (hr : ∀ (O : List Addr) (H : Hp) (x y : V) (d e z : PyData), Dp K H x d → Dp K H y e → k d e = .ok z → (∀ v H', Gx C.T H H' → Dp K (hid O H') v z → Q v H') → r x y H Q)
    (hx : ∀ d e n, k d e ≠ .exc n) (q : tV K C (eOp k f g) σ H Q) : tOp r (tR K C f) (tR K C g) σ H Q := by
  obtain ⟨O, ρ, R, q⟩ := q
  refine ⟨O, ρ, R, (Fin.bind q).imp fun d _ q1 v H1 x1 p1 => ?_⟩
  refine ⟨O, ρ, R.grow x1, ((Fin.bind q1).grow x1).imp fun e _ q2 u H2 x2 p2 => ?_⟩
  cases z : k d e with
  | ok z' =>
    rw [z] at q2
    exact hr O H2 v u d e z' (Dp.mono x2 p1) p2 z fun w H3 x3 p3 => q2 w H3 ((x1.trans x2).trans x3) p3
  | exc n => exact absurd z (hx d e n)
  | stuck => rw [z] at q2; exact q2.elim
/-- what an operator's rule gives -/
structure OpD (X : Cx) (fn : Value → Value → Sem Value) (k : Op2) : Prop where
  ok : ∃ r : R2, OpR X fn r ∧ ∀ {τ : List (Addr × Str)} (O : List Addr) (H : Hp) (x y : V) (d e z : PyData) (Q : VK), (∀ b ∈ O, H b ≠ none) → Dp X.K (hid O H) x d → Dp X.K (hid O H) y e → k d e = .ok z → (∀ v H', Gx τ H H' → Dp X.K (hid O H') v z → Q v H') → r x y H Q
  nx : ∀ d e n, k d e ≠ .exc n
structure OpDR (X : Cx) (fn : Value → Value → Sem Value) (k : Op2) : Prop where
  ok : ∃ r : R2, OpR X fn r ∧ ∀ {τ : List (Addr × Str)} (O : List Addr) (H : Hp) (x y : V) (d e z : PyData) (Q : VK), Dp X.K H x d → Dp X.K H y e → k d e = .ok z → (∀ v H', Gx τ H H' → Dp X.K (hid O H') v z → Q v H') → r x y H Q
  nx : ∀ d e n, k d e ≠ .exc n
theorem v_op {op : Operator} {k : Op2} (o : OpD X (binaryOp op) k) (ha : PE X a (tV X.K C f)) (hb : PE X b (tV X.K C g)) : PE X (.BinOp a op b pos) (tV X.K C (eOp k f g)) := by
  obtain ⟨r, hr, hk⟩ := o.ok
  exact pe_imp (pe_op hr ha hb) fun σ H Q q => two (fun O H x y d e z h1 h2 h3 h4 h5 => hk O H x y d e z Q h1 h2 h3 h4 h5) o.nx q
theorem v_cmp {op : CmpOp} {k : Op2} (o : OpD X (compareOp op) k) (ha : PE X a (tV X.K C f)) (hb : PE X b (tV X.K C g)) (hm : behindInMarks op b = false := by first | exact nomark _ | rfl) : PE X (.Compare a [op] [b] pos) (tV X.K C (eOp k f g)) := by
  obtain ⟨r, hr, hk⟩ := o.ok
  exact pe_imp (pe_cmpR hr ha hb hm) fun σ H Q q => two (fun O H x y d e z h1 h2 h3 h4 h5 => hk O H x y d e z Q h1 h2 h3 h4 h5) o.nx q
theorem v_cmpR {op : CmpOp} {k : Op2} (o : OpDR X (compareOp op) k) (ha : PE X a (tR X.K C f)) (hb : PE X b (tR X.K C g)) (hm : behindInMarks op b = false := by first | exact nomark _ | rfl) : PE X (.Compare a [op] [b] pos) (tV X.K C (eOp k f g)) := by
  obtain ⟨r, hr, hk⟩ := o.ok
  exact pe_imp (pe_cmpR hr ha hb hm) fun σ H Q q => twoR (fun O H x y d e z h2 h3 h4 h5 => hk O H x y d e z Q h2 h3 h4 h5) o.nx q
/-- a value that is a bool, as a test -/
theorem tT_tV {K : PySem.W.Frag} {f : VE} {σ : St} {H : Hp} {Q : Bool → Hp → Prop} (q : tT K C (bOf f) σ H Q) : tV K C f σ H fun x H' => ∃ k, x = .bl k ∧ Q k H' := by
  obtain ⟨O, ρ, R, q⟩ := q
  refine ⟨O, ρ, R, (Fin.bind q).imp fun d _ k v H' x p => ?_⟩
  cases p with
  | bl b => exact ⟨b, rfl, k H' x⟩
  | lst a b => exact k.elim
  | non => exact k.elim
  | int _ => exact k.elim
  | str _ => exact k.elim
  | tup _ _ => exact k.elim
theorem t_cmp {op : CmpOp} {k : Op2} (o : OpD X (compareOp op) k) (ha : PE X a (tV X.K C f)) (hb : PE X b (tV X.K C g)) (hm : behindInMarks op b = false := by first | exact nomark _ | rfl) : PT X (.Compare a [op] [b] pos) (tT X.K C (bOf (eOp k f g))) := by
  obtain ⟨r, hr, hk⟩ := o.ok
  exact pt_imp (pt_cmpR hr ha hb hm) fun σ H Q q => two (fun O H x y d e z h1 h2 h3 h4 h5 => hk O H x y d e z _ h1 h2 h3 h4 h5) o.nx (tT_tV q)
theorem t_cmpR {op : CmpOp} {k : Op2} (o : OpDR X (compareOp op) k) (ha : PE X a (tR X.K C f)) (hb : PE X b (tR X.K C g)) (hm : behindInMarks op b = false := by first | exact nomark _ | rfl) : PT X (.Compare a [op] [b] pos) (tT X.K C (bOf (eOp k f g))) := by
  obtain ⟨r, hr, hk⟩ := o.ok
  exact pt_imp (pt_cmpR hr ha hb hm) fun σ H Q q => twoR (fun O H x y d e z h2 h3 h4 h5 => hk O H x y d e z _ h2 h3 h4 h5) o.nx (tT_tV q)
/-- a call or a name as a test -/
theorem t_val {e : Expr} {f : VE} (h : PE X e (tV X.K C f)) (he : ∀ whole, isTrue e X.env whole = (do let v ← whole; standAt e.pos; holding [v] (truthy v)) := by intro _; rfl) : PT X e (tT X.K C (bOf f)) :=
  pt_imp (pt_val h he) fun σ H Q q => tT_tV q
end
end PL

/-! PL3: operators, tests, lists, tuples, texts, built-ins: the rules. -/
namespace PL
open PySem L2
section
variable {K : PySem.W.Frag} {G : Hp} {v : V}
theorem dp_int {i : Int} (h : Dp K G v (.int i)) : v = .int i := by cases h; rfl
theorem dp_str {s : Str} (h : Dp K G v (.str s)) : v = .str s := by cases h; rfl
theorem dp_bl {s : Bool} (h : Dp K G v (.bool s)) : v = .bl s := by cases h; rfl
theorem dp_tup {ds : List PyData} (h : Dp K G v (.tuple ds)) : ∃ a vs, v = .ref a ∧ SqT K G a vs ∧ DpAll K G vs ds := by cases h with | tup a b => exact ⟨_, _, rfl, a, b⟩
theorem dp_lst {ds : List PyData} (h : Dp K G v (.list ds)) : ∃ a vs, v = .ref a ∧ SqL K G a vs ∧ DpAll K G vs ds := by cases h with | lst a b => exact ⟨_, _, rfl, a, b⟩
theorem dp_isN {d : PyData} (h : Dp K G v d) : decide (v = .non) = isN d := by cases h <;> simp [isN]
end
section
variable {X : Cx} {C : PC} {a b c e : Expr} {f g h : VE} {l m : LE} {pos : Pos}
/-! ### operators on ints -/
theorem opI_D {fn : Value → Value → Sem Value} {k : Op2} {Cd : Int → Int → Prop} {gi : Int → Int → Int} (o : OpR X fn (rI Cd fun i j => .int (gi i j)))
    (hk : ∀ d e z, k d e = .ok z → ∃ i j, d = .int i ∧ e = .int j ∧ Cd i j ∧ z = .int (gi i j)) (hx : ∀ d e n, k d e ≠ .exc n) : OpD X fn k :=
  ⟨⟨_, o, fun O H x y d e z Q al h1 h2 hz hq => by
    obtain ⟨i, j, rfl, rfl, hc, rfl⟩ := hk d e z hz
    exact ⟨i, j, dp_int h1, dp_int h2, hc, hq _ H (Gx.refl H) (.int _)⟩⟩, hx⟩
theorem opB_D {fn : Value → Value → Sem Value} {k : Op2} {gi : Int → Int → Bool} (o : OpR X fn (rI0 fun i j => .bl (gi i j)))
    (hk : ∀ d e z, k d e = .ok z → ∃ i j, d = .int i ∧ e = .int j ∧ z = .bool (gi i j)) (hx : ∀ d e n, k d e ≠ .exc n) : OpD X fn k :=
  ⟨⟨_, o, fun O H x y d e z Q al h1 h2 hz hq => by
    obtain ⟨i, j, rfl, rfl, rfl⟩ := hk d e z hz
    exact ⟨i, j, dp_int h1, dp_int h2, hq _ H (Gx.refl H) (.bl _)⟩⟩, hx⟩
theorem opI0_rI {fn : Value → Value → Sem Value} {gi : Int → Int → V} (o : OpR X fn (rI0 gi)) : OpR X fn (rI (fun _ _ => True) gi) := by
  intro pins s σ H x y v u Q I rx ry h
  obtain ⟨i, j, e1, e2, _, q⟩ := h
  exact o pins s σ H x y v u Q I rx ry ⟨i, j, e1, e2, q⟩
theorem d_add : OpD X (binaryOp .Add) oAdd := opI_D (opI0_rI op_add) (fun d e z h => by
  unfold oAdd at h
  split at h
  · cases h; exact ⟨_, _, rfl, rfl, trivial, rfl⟩
  · cases h) (fun d e n h => by unfold oAdd at h; split at h <;> cases h)
theorem d_sub : OpD X (binaryOp .Sub) oSub := opI_D (opI0_rI op_sub) (fun d e z h => by
  unfold oSub at h
  split at h
  · cases h; exact ⟨_, _, rfl, rfl, trivial, rfl⟩
  · cases h) (fun d e n h => by unfold oSub at h; split at h <;> cases h)
theorem d_mul : OpD X (binaryOp .Mult) oMul := opI_D op_mul (fun d e z h => by
  unfold oMul at h
  split at h
  · split at h
    · rename_i hc
      cases h
      refine ⟨_, _, rfl, rfl, ?_, rfl⟩
      rw [Bool.or_eq_true] at hc
      rcases hc with hc | hc
      · exact .inl (of_decide_eq_true hc)
      · exact .inr (of_decide_eq_true hc)
    · cases h
  · cases h) (fun d e n h => by
    unfold oMul at h
    split at h
    · split at h <;> cases h
    · cases h)
theorem d_fdiv : OpD X (binaryOp .FloorDiv) oFdiv := opI_D op_fdiv (fun d e z h => by
  unfold oFdiv at h
  split at h
  · split at h
    · rename_i hc
      cases h
      exact ⟨_, _, rfl, rfl, hc, rfl⟩
    · cases h
  · cases h) (fun d e n h => by
    unfold oFdiv at h
    split at h
    · split at h <;> cases h
    · cases h)
theorem d_mod : OpD X (binaryOp .Mod) oMod := opI_D op_mod (fun d e z h => by
  unfold oMod at h
  split at h
  · split at h
    · rename_i hc
      cases h
      exact ⟨_, _, rfl, rfl, hc, rfl⟩
    · cases h
  · cases h) (fun d e n h => by
    unfold oMod at h
    split at h
    · split at h <;> cases h
    · cases h)
theorem d_lt : OpD X (compareOp .Lt) oLt := opB_D op_lt (fun d e z h => by
  unfold oLt at h
  split at h
  · cases h; exact ⟨_, _, rfl, rfl, rfl⟩
  · cases h) (fun d e n h => by unfold oLt at h; split at h <;> cases h)
theorem d_le : OpD X (compareOp .LtE) oLe := opB_D op_le (fun d e z h => by
  unfold oLe at h
  split at h
  · cases h; exact ⟨_, _, rfl, rfl, rfl⟩
  · cases h) (fun d e n h => by unfold oLe at h; split at h <;> cases h)
theorem d_gt : OpD X (compareOp .Gt) oGt := opB_D op_gt (fun d e z h => by
  unfold oGt at h
  split at h
  · cases h; exact ⟨_, _, rfl, rfl, rfl⟩
  · cases h) (fun d e n h => by unfold oGt at h; split at h <;> cases h)
theorem d_ge : OpD X (compareOp .GtE) oGe := opB_D op_ge (fun d e z h => by
  unfold oGe at h
  split at h
  · cases h; exact ⟨_, _, rfl, rfl, rfl⟩
  · cases h) (fun d e n h => by unfold oGe at h; split at h <;> cases h)
theorem line_le {n : Nat} (h : n ≤ 1000000) : n ≤ sizeLine := Nat.le_trans h (by rw [sizeLine_eq]; decide)
theorem line_lt {n : Nat} (h : n < 1000000) : n < sizeLine := Nat.lt_of_lt_of_le h (by rw [sizeLine_eq]; decide)
theorem d_catS : OpD X (binaryOp .Add) oCatS := ⟨⟨_, op_add_str, fun O H x y d e z Q al h1 h2 hz hq => by
  unfold oCatS at hz
  split at hz
  · split at hz
    · rename_i hc
      cases hz
      exact ⟨_, _, dp_str h1, dp_str h2, line_le hc, hq _ H (Gx.refl H) (.str _)⟩
    · cases hz
  · cases hz⟩, fun d e n h => by
  unfold oCatS at h
  split at h
  · split at h <;> cases h
  · cases h⟩
theorem r_catT {a b : Expr} {f g : VE} {pos : Pos} (ha : PE X a (tV X.K C f)) (hb : PE X b (tV X.K C g)) : PE X (.BinOp a .Add b pos) (tR X.K C (eOp oCatT f g)) := pe_imp (pe_op op_catT ha hb) fun σ H Q ⟨O, ρ, R, q⟩ => by
  refine ⟨O, ρ, R, (Fin.bind q).imp fun d _ q1 x H1 x1 h1 => ?_⟩
  refine ⟨O, ρ, R.grow x1, ((Fin.bind q1).grow x1).imp fun e _ q2 y H2 x2 h2 => ?_⟩
  have h1 := Dp.mono (hid_mono x2) h1
  cases hz : oCatT d e with
  | ok z =>
    rw [hz] at q2
    have hq : ∀ v H', Gx C.T H2 H' → Dp X.K H' v z → Q v H' := fun v H' x3 p => q2 v H' ((x1.trans x2).trans x3) p
    unfold oCatT at hz
    split at hz
    · rename_i da db _ _ _
      split at hz
      · rename_i hc
        cases hz
        obtain ⟨p, vs, rfl, s1, a1⟩ := dp_tup h1
        obtain ⟨q, ws, rfl, s2, a2⟩ := dp_tup h2
        refine ⟨p, q, vs, ws, rfl, rfl, ex_t hid_ex s1, ex_t hid_ex s2, fun z => hc.1 ?_, line_le (by rw [a1.len, a2.len]; exact hc.2), fun z => ?_, fun z r nr => ?_⟩
        · subst z
          have := a1.len
          exact List.length_eq_zero_iff.mp this.symm
        · subst z
          have : db = [] := List.length_eq_zero_iff.mp a2.len.symm
          subst this
          rw [List.append_nil] at hq
          exact hq _ H2 (Gx.refl H2) (Dp.mono hid_ex h1)
        · exact hq _ _ (Gx.new nr) (.tup (SqT.of upd_same) (DpAll.mono (Gx.new (τ := []) nr).ex ((DpAll.mono hid_ex a1).append (DpAll.mono hid_ex a2))))
      · cases hz
    · cases hz
  | exc n =>
    unfold oCatT at hz
    split at hz
    · split at hz <;> cases hz
    · cases hz
  | stuck => rw [hz] at q2; exact q2.elim
theorem d_eq (hu : X.A.units + 64 < cLine) : OpDR X (compareOp .Eq) oEq := ⟨⟨_, op_eqD hu, fun O H x y d e z Q h1 h2 hz hq => by
  unfold oEq at hz
  split at hz
  · rename_i hc
    rw [Bool.and_eq_true] at hc
    cases hz
    exact ⟨d, e, h1, h2, hc.1, hc.2, hq _ H (Gx.refl H) (.bl _)⟩
  · cases hz⟩, fun d e n h => by
  unfold oEq at h
  split at h <;> cases h⟩
theorem d_ne (hu : X.A.units + 64 < cLine) : OpDR X (compareOp .NotEq) oNe := ⟨⟨_, op_neD hu, fun O H x y d e z Q h1 h2 hz hq => by
  unfold oNe at hz
  split at hz
  · rename_i hc
    rw [Bool.and_eq_true] at hc
    cases hz
    exact ⟨d, e, h1, h2, hc.1, hc.2, hq _ H (Gx.refl H) (.bl _)⟩
  · cases hz⟩, fun d e n h => by
  unfold oNe at h
  split at h <;> cases h⟩
theorem d_inS : OpD X (compareOp .In) oInS := ⟨⟨_, op_in_sign, fun O H x y d e z Q al h1 h2 hz hq => by
  unfold oInS at hz
  split at hz
  · rename_i c zz
    split at hz
    · rename_i k hc
      cases hz
      refine ⟨k, zz, ?_, dp_str h2, hq _ H (Gx.refl H) (.bl _)⟩
      rw [dp_str h1]
      exact congrArg V.str (Str.ext' (Array.toList_inj.mp hc))
    · cases hz
  · cases hz⟩, fun d e n h => by
  unfold oInS at h
  split at h
  · split at h <;> cases h
  · cases h⟩
theorem d_notInS : OpD X (compareOp .NotIn) oNotInS := ⟨⟨_, op_notIn_sign, fun O H x y d e z Q al h1 h2 hz hq => by
  unfold oNotInS at hz
  split at hz
  · rename_i c zz
    split at hz
    · rename_i k hc
      cases hz
      refine ⟨k, zz, ?_, dp_str h2, hq _ H (Gx.refl H) (.bl _)⟩
      rw [dp_str h1]
      exact congrArg V.str (Str.ext' (Array.toList_inj.mp hc))
    · cases hz
  · cases hz⟩, fun d e n h => by
  unfold oNotInS at h
  split at h
  · split at h <;> cases h
  · cases h⟩

/-! ### None -/
theorem v_isN {j : Nat} {p2 : Pos} (ha : PE X a (tR X.K C f)) : PE X (.Compare a [.Is] [.Constant .none j p2] pos) (tV X.K C (eIsN f)) := pe_imp (pe_cmp (pc_isN ha) (by first | exact nomark _ | rfl)) fun σ H Q ⟨O, ρ, R, q⟩ =>
  ⟨O, ρ, R, (Fin.bind q).imp fun d _ k v H' x p => k _ H' x (by rw [dp_isN p]; exact .bl _)⟩
theorem v_notN {j : Nat} {p2 : Pos} (ha : PE X a (tR X.K C f)) : PE X (.Compare a [.IsNot] [.Constant .none j p2] pos) (tV X.K C (eNotN f)) := pe_imp (pe_cmp (pc_notN ha) (by first | exact nomark _ | rfl)) fun σ H Q ⟨O, ρ, R, q⟩ =>
  ⟨O, ρ, R, (Fin.bind q).imp fun d _ k v H' x p => k _ H' x (by rw [dp_isN p]; exact .bl _)⟩
theorem t_isN {j : Nat} {p2 : Pos} (ha : PE X a (tR X.K C f)) : PT X (.Compare a [.Is] [.Constant .none j p2] pos) (tT X.K C (bOf (eIsN f))) := pt_imp (pt_cmp (pc_isN ha) (by first | exact nomark _ | rfl)) fun σ H Q ⟨O, ρ, R, q⟩ =>
  ⟨O, ρ, R, (Fin.bind (Fin.bind q)).imp fun d _ k v H' x p => ⟨_, rfl, by rw [dp_isN p]; exact k H' x⟩⟩
theorem t_notN {j : Nat} {p2 : Pos} (ha : PE X a (tR X.K C f)) : PT X (.Compare a [.IsNot] [.Constant .none j p2] pos) (tT X.K C (bOf (eNotN f))) := pt_imp (pt_cmp (pc_notN ha) (by first | exact nomark _ | rfl)) fun σ H Q ⟨O, ρ, R, q⟩ =>
  ⟨O, ρ, R, (Fin.bind (Fin.bind q)).imp fun d _ k v H' x p => ⟨_, rfl, by rw [dp_isN p]; exact k H' x⟩⟩

/-! ### and, or, not -/
variable {tb tc : BE} {rest : List Expr}
theorem bAnd_t {K : PySem.W.Frag} {σ : L2.St} {H : Hp} {Q : Bool → Hp → Prop} (q : tT K C (bAnd tb tc) σ H Q) : tAnd (tT K C tb) (tT K C tc) σ H Q := by
  obtain ⟨O, ρ, R, q⟩ := q
  refine ⟨O, ρ, R, (Fin.bind q).imp fun b _ k H' x => ?_⟩
  cases b with
  | true => exact iteT ⟨O, ρ, R.grow x, (Fin.grow (show Fin C σ H (tc ρ) _ from k) x).imp fun b' _ k' H2 x2 => k' H2 (x.trans x2)⟩
  | false => exact iteF ((show ∀ H', Gx C.T H H' → Q false H' from k) H' x)
theorem bOr_t {K : PySem.W.Frag} {σ : L2.St} {H : Hp} {Q : Bool → Hp → Prop} (q : tT K C (bOr tb tc) σ H Q) : tOr (tT K C tb) (tT K C tc) σ H Q := by
  obtain ⟨O, ρ, R, q⟩ := q
  refine ⟨O, ρ, R, (Fin.bind q).imp fun b _ k H' x => ?_⟩
  cases b with
  | true => exact iteT ((show ∀ H', Gx C.T H H' → Q true H' from k) H' x)
  | false => exact iteF ⟨O, ρ, R.grow x, (Fin.grow (show Fin C σ H (tc ρ) _ from k) x).imp fun b' _ k' H2 x2 => k' H2 (x.trans x2)⟩
theorem w_and1 (ha : PT X a (tT X.K C tb)) : PW X (.BoolOp .And [a] pos) (tT X.K C tb) := pw_and1 ha
theorem w_or1 (ha : PT X a (tT X.K C tb)) : PW X (.BoolOp .Or [a] pos) (tT X.K C tb) := pw_or1 ha
theorem w_and (ha : PT X a (tT X.K C tb)) (hb : PW X (.BoolOp .And (b :: rest) pos) (tT X.K C tc)) : PW X (.BoolOp .And (a :: b :: rest) pos) (tT X.K C (bAnd tb tc)) := pw_imp (pw_and ha hb) fun σ H Q q => bAnd_t q
theorem w_or (ha : PT X a (tT X.K C tb)) (hb : PW X (.BoolOp .Or (b :: rest) pos) (tT X.K C tc)) : PW X (.BoolOp .Or (a :: b :: rest) pos) (tT X.K C (bOr tb tc)) := pw_imp (pw_or ha hb) fun σ H Q q => bOr_t q
theorem t_not (ha : PT X a (tT X.K C tb)) : PT X (.UnaryOp .Not a pos) (tT X.K C (bNot tb)) := pt_imp (pt_not ha) fun σ H Q ⟨O, ρ, R, q⟩ => ⟨O, ρ, R, (Fin.bind q).imp fun b _ k H' x => k H' x⟩
/-- .. as values -/
def tBV (K : PySem.W.Frag) (C : PC) (f : BE) : TE := fun σ H Q => ∃ O ρ, Rep K C O H σ ρ ∧ Fin C σ H (f ρ) fun b => ∀ H', Gx C.T H H' → Q (.bl b) H'
theorem bv_V (ha : PE X a (tV X.K C f)) : PE X a (tBV X.K C (bOf f)) := pe_imp ha fun σ H Q ⟨O, ρ, R, q⟩ => ⟨O, ρ, R, (Fin.bind q).imp fun d _ k v H' x p => by
  cases p with
  | bl b => exact (show ∀ H', Gx C.T H H' → Q (.bl b) H' from k) H' x
  | lst a b => exact k.elim
  | non => exact k.elim
  | int _ => exact k.elim
  | str _ => exact k.elim
  | tup _ _ => exact k.elim⟩
theorem v_BV (ha : PE X a (tBV X.K C tb)) : PE X a (tV X.K C (eOfB tb)) := pe_imp ha fun σ H Q ⟨O, ρ, R, q⟩ => ⟨O, ρ, R, (Fin.bind q).imp fun b _ k H' x => (show ∀ v H', Gx C.T H H' → Dp X.K (hid O H') v (.bool b) → Q v H' from k) _ H' x (.bl b)⟩
theorem v_one {op : PySem.BoolOp} (ha : PE X a (tBV X.K C tb)) : PE X (.BoolOp op [a] pos) (tBV X.K C tb) := pe_one ha
theorem v_and (ha : PE X a (tBV X.K C tb)) (hb : PE X (.BoolOp .And (b :: rest) pos) (tBV X.K C tc)) : PE X (.BoolOp .And (a :: b :: rest) pos) (tBV X.K C (bAnd tb tc)) := pe_imp (pe_and ha hb) fun σ H Q ⟨O, ρ, R, q⟩ => by
  refine ⟨O, ρ, R, (Fin.bind q).imp fun b _ k H' x => ⟨b, rfl, ?_⟩⟩
  cases b with
  | true => exact iteT ⟨O, ρ, R.grow x, (Fin.grow (show Fin C σ H (tc ρ) _ from k) x).imp fun b' _ k' H2 x2 => k' H2 (x.trans x2)⟩
  | false => exact iteF ((show ∀ H', Gx C.T H H' → Q (.bl false) H' from k) H' x)
theorem v_or (ha : PE X a (tBV X.K C tb)) (hb : PE X (.BoolOp .Or (b :: rest) pos) (tBV X.K C tc)) : PE X (.BoolOp .Or (a :: b :: rest) pos) (tBV X.K C (bOr tb tc)) := pe_imp (pe_or ha hb) fun σ H Q ⟨O, ρ, R, q⟩ => by
  refine ⟨O, ρ, R, (Fin.bind q).imp fun b _ k H' x => ⟨b, rfl, ?_⟩⟩
  cases b with
  | true => exact iteT ((show ∀ H', Gx C.T H H' → Q (.bl true) H' from k) H' x)
  | false => exact iteF ⟨O, ρ, R.grow x, (Fin.grow (show Fin C σ H (tc ρ) _ from k) x).imp fun b' _ k' H2 x2 => k' H2 (x.trans x2)⟩
theorem v_not (ha : PE X a (tBV X.K C tb)) : PE X (.UnaryOp .Not a pos) (tBV X.K C (bNot tb)) := pe_imp (pe_not ha) fun σ H Q ⟨O, ρ, R, q⟩ => ⟨O, ρ, R, (Fin.bind q).imp fun b _ k H' x => ⟨b, rfl, k H' x⟩⟩

/-! ### chains -/
theorem chain_t {K : PySem.W.Frag} {k k' : Op2} {r r' : R2} {σ : L2.St} {H : Hp} {Q : VK}
    (hk : ∀ (O : List Addr) (H : Hp) (x y : V) (d e z : PyData) (Q : VK), (∀ b ∈ O, H b ≠ none) → Dp K (hid O H) x d → Dp K (hid O H) y e → k d e = .ok z → (∀ v H', Gx C.T H H' → Dp K (hid O H') v z → Q v H') → r x y H Q)
    (hk' : ∀ (O : List Addr) (H : Hp) (x y : V) (d e z : PyData) (Q : VK), (∀ b ∈ O, H b ≠ none) → Dp K (hid O H) x d → Dp K (hid O H) y e → k' d e = .ok z → (∀ v H', Gx C.T H H' → Dp K (hid O H') v z → Q v H') → r' x y H Q)
    (hx : ∀ d e n, k d e ≠ .exc n) (hx' : ∀ d e n, k' d e ≠ .exc n) (q : tV K C (eChain k k' f g h) σ H Q) : tChain r r' (tV K C f) (tV K C g) (tV K C h) σ H Q := by
  obtain ⟨O, ρ, R, q⟩ := q
  refine ⟨O, ρ, R, (Fin.bind q).imp fun d _ q1 v H1 x1 p1 => ?_⟩
  refine ⟨O, ρ, R.grow x1, ((Fin.bind q1).grow x1).imp fun e _ q2 u H2 x2 p2 => ?_⟩
  have q3 := Fin.bind q2
  cases z : k d e with
  | exc n => exact absurd z (hx d e n)
  | stuck => rw [z] at q3; exact q3.elim
  | ok z' =>
    rw [z] at q3
    refine hk O H2 v u d e z' _ (R.grow (x1.trans x2)).alive (Dp.mono (hid_mono x2) p1) p2 z fun w H3 x3 p3 => ?_
    have x13 := (x1.trans x2).trans x3
    cases p3 with
    | bl b =>
      refine ⟨b, rfl, ?_⟩
      cases b with
      | false => exact iteF ((show ∀ v H', Gx C.T H H' → Dp K (hid O H') v (.bool false) → Q v H' from q3) _ H3 x13 (.bl false))
      | true =>
        refine iteT ⟨O, ρ, R.grow x13, ((Fin.bind (show Fin C σ H ((h ρ).bind fun u => k' e u) _ from q3)).grow x13).imp fun t _ q4 w4 H4 x4 p4 => ?_⟩
        cases z4 : k' e t with
        | exc n => exact absurd z4 (hx' e t n)
        | stuck => rw [z4] at q4; exact q4.elim
        | ok z' =>
          rw [z4] at q4
          exact hk' O H4 u w4 e t z' Q (R.grow (x13.trans x4)).alive (Dp.mono (hid_mono (x3.trans x4)) p2) p4 z4 fun w5 H5 x5 p5 => q4 w5 H5 ((x13.trans x4).trans x5) p5
    | non => exact q3.elim
    | int _ => exact q3.elim
    | str _ => exact q3.elim
    | lst _ _ => exact q3.elim
    | tup _ _ => exact q3.elim
theorem v_chain {op op' : CmpOp} {k k' : Op2} (o : OpD X (compareOp op) k) (o' : OpD X (compareOp op') k') (ha : PE X a (tV X.K C f)) (hb : PE X b (tV X.K C g)) (hc : PE X c (tV X.K C h))
    (hm : lastMarks [op, op'] [b, c] = false := by with_unfolding_all rfl) : PE X (.Compare a [op, op'] [b, c] pos) (tV X.K C (eChain k k' f g h)) := by
  obtain ⟨r, hr, hk⟩ := o.ok
  obtain ⟨r', hr', hk'⟩ := o'.ok
  exact pe_imp (pe_chain hr hr' ha hb hc hm) fun σ H Q q => chain_t hk hk' o.nx o'.nx q
theorem t_chain {op op' : CmpOp} {k k' : Op2} (o : OpD X (compareOp op) k) (o' : OpD X (compareOp op') k') (ha : PE X a (tV X.K C f)) (hb : PE X b (tV X.K C g)) (hc : PE X c (tV X.K C h))
    (hm : lastMarks [op, op'] [b, c] = false := by with_unfolding_all rfl) : PT X (.Compare a [op, op'] [b, c] pos) (tT X.K C (bOf (eChain k k' f g h))) := by
  obtain ⟨r, hr, hk⟩ := o.ok
  obtain ⟨r', hr', hk'⟩ := o'.ok
  exact pt_imp (pt_chain hr hr' ha hb hc hm) fun σ H Q q => chain_t hk hk' o.nx o'.nx (tT_tV q)

/-! ### indices, slices -/
theorem v_ix (ha : PE X a (tL X.K C l)) (hb : PE X b (tV X.K C g)) (hs : PlainIx b := by intro _ _; rfl) : PE X (.Subscript a b pos) (tV X.K C (eIx l g)) := pe_imp (pe_ix ix_list ha hb hs) fun σ H Q ⟨O, ρ, R, q⟩ => by
  refine ⟨O, ρ, R, (Fin.bind q).imp fun ds _ q1 p vs H1 x1 s1 a1 => ?_⟩
  refine ⟨O, ρ, R.grow x1, ((Fin.bind q1).grow x1).imp fun e _ q2 u H2 x2 p2 => ?_⟩
  cases p2 with
  | int k =>
    cases z : L2.atI ds k with
    | none => exact (show False from by simpa [Fin, z] using q2).elim
    | some d =>
      obtain ⟨v, h1, h2⟩ := DpAll.at_ a1 z
      have q3 : ∀ v H', Gx C.T H H' → Dp X.K (hid O H') v d → Q v H' := by simpa [Fin, z] using q2
      exact ⟨p, vs, k, v, rfl, rfl, ex_l x2 s1, h1, q3 v H2 (x1.trans x2) (Dp.mono (hid_mono x2) h2)⟩
  | non => exact q2.elim
  | bl _ => exact q2.elim
  | str _ => exact q2.elim
  | lst _ _ => exact q2.elim
  | tup _ _ => exact q2.elim
theorem v_ixT (ha : PE X a (tV X.K C f)) (hb : PE X b (tV X.K C g)) (hs : PlainIx b := by intro _ _; rfl) : PE X (.Subscript a b pos) (tV X.K C (eIxT f g)) := pe_imp (pe_ix ix_tup ha hb hs) fun σ H Q ⟨O, ρ, R, q⟩ => by
  refine ⟨O, ρ, R, (Fin.bind q).imp fun d _ q1 w H1 x1 p1 => ?_⟩
  refine ⟨O, ρ, R.grow x1, ((Fin.bind q1).grow x1).imp fun e _ q2 u H2 x2 p2 => ?_⟩
  cases d with
  | tuple ds =>
    obtain ⟨p, vs, rfl, s1, a1⟩ := dp_tup p1
    cases p2 with
    | int k =>
      cases z : L2.atI ds k with
      | none => exact (show False from by simpa [Fin, z] using q2).elim
      | some d =>
        obtain ⟨v, h1, h2⟩ := DpAll.at_ a1 z
        have q3 : ∀ v H', Gx C.T H H' → Dp X.K (hid O H') v d → Q v H' := by simpa [Fin, z] using q2
        exact ⟨p, vs, k, v, rfl, rfl, ex_t (hid_ex.trans x2) s1, h1, q3 v H2 (x1.trans x2) (Dp.mono (hid_mono x2) h2)⟩
    | non => exact q2.elim
    | bl _ => exact q2.elim
    | str _ => exact q2.elim
    | lst _ _ => exact q2.elim
    | tup _ _ => exact q2.elim
  | _ => exact q2.elim
theorem v_ixS (ha : PE X a (tV X.K C f)) (hb : PE X b (tV X.K C g)) (hs : PlainIx b := by intro _ _; rfl) : PE X (.Subscript a b pos) (tV X.K C (eIxS f g)) := pe_imp (pe_ix ix_str ha hb hs) fun σ H Q ⟨O, ρ, R, q⟩ => by
  refine ⟨O, ρ, R, (Fin.bind q).imp fun d _ q1 w H1 x1 p1 => ?_⟩
  refine ⟨O, ρ, R.grow x1, ((Fin.bind q1).grow x1).imp fun e _ q2 u H2 x2 p2 => ?_⟩
  cases d with
  | str zz =>
    cases p2 with
    | int k =>
      by_cases hc : zz.length ≤ 1000000
      · cases z : L2.atI zz.cps.toList k with
        | none => exact (show False from by simpa [Fin, z, hc] using q2).elim
        | some d =>
          have q3 : ∀ v H', Gx C.T H H' → Dp X.K (hid O H') v (.str ⟨#[d]⟩) → Q v H' := by simpa [Fin, z, hc] using q2
          exact ⟨zz, k, d, dp_str p1, rfl, line_le hc, z, q3 _ H2 (x1.trans x2) (.str _)⟩
      · exact (show False from by simpa [Fin, hc] using q2).elim
    | non => exact q2.elim
    | bl _ => exact q2.elim
    | str _ => exact q2.elim
    | lst _ _ => exact q2.elim
    | tup _ _ => exact q2.elim
  | _ => exact q2.elim
theorem p_none : PO X none (tP X.K C oNo) := po_imp po_none fun σ H Q ⟨O, ρ, R, q⟩ => (show ∀ H', Gx C.T H H' → Q none H' from q) H (Gx.refl H)
theorem p_some (h : PE X e (tV X.K C f)) : PO X (some e) (tP X.K C (oPart f)) := po_imp (po_some h) fun σ H Q ⟨O, ρ, R, q⟩ => ⟨O, ρ, R, (Fin.bind q).imp fun d _ k v H' x p => by
  cases p with
  | int i => exact ⟨i, rfl, (show ∀ H', Gx C.T H H' → Q (some i) H' from k) H' x⟩
  | non => exact k.elim
  | bl _ => exact k.elim
  | str _ => exact k.elim
  | lst _ _ => exact k.elim
  | tup _ _ => exact k.elim⟩
variable {lo hi : Option Expr} {ol oh : OE} {p2 : Pos}
theorem f_sl (ha : PE X a (tL X.K C l)) (hl : PO X lo (tP X.K C ol)) (hh : PO X hi (tP X.K C oh)) : PE X (.Subscript a (.Slice lo hi none p2) pos) (tF X.K C (lSl l ol oh)) := pe_imp (pe_slice sl_list ha hl hh) fun σ H Q ⟨O, ρ, R, q⟩ => by
  refine ⟨O, ρ, R, (Fin.bind q).imp fun ds _ q1 p vs H1 x1 s1 a1 => ?_⟩
  refine ⟨O, ρ, R.grow x1, ((Fin.bind q1).grow x1).imp fun u _ q2 H2 x2 => ?_⟩
  refine ⟨O, ρ, R.grow (x1.trans x2), ((Fin.bind q2).grow (x1.trans x2)).imp fun w _ q3 H3 x3 => ?_⟩
  have x13 := (x1.trans x2).trans x3
  exact ⟨p, vs, rfl, ex_l (x2.trans x3) s1, fun r nr => (show ∀ p vs H', Gx C.T H H' → H p = none → H' p = some (.lst vs) → DpAll X.K (hid (p :: O) H') vs (cutD ds u w) → Q (.ref p) H' from q3) r _ _ (x13.trans (Gx.new nr)) (fresh_back x13 nr) upd_same
    (DpAll.mono (hid_new nr) ((DpAll.mono (hid_mono (x2.trans x3)) a1).cut u w))⟩
theorem v_slS (ha : PE X a (tV X.K C f)) (hl : PO X lo (tP X.K C ol)) (hh : PO X hi (tP X.K C oh)) : PE X (.Subscript a (.Slice lo hi none p2) pos) (tV X.K C (eSlS f ol oh)) := pe_imp (pe_slice sl_str ha hl hh) fun σ H Q ⟨O, ρ, R, q⟩ => by
  refine ⟨O, ρ, R, (Fin.bind q).imp fun d _ q1 v H1 x1 p1 => ?_⟩
  refine ⟨O, ρ, R.grow x1, ((Fin.bind q1).grow x1).imp fun u _ q2 H2 x2 => ?_⟩
  refine ⟨O, ρ, R.grow (x1.trans x2), ((Fin.bind q2).grow (x1.trans x2)).imp fun w _ q3 H3 x3 => ?_⟩
  have x13 := (x1.trans x2).trans x3
  cases d with
  | str z =>
    by_cases hc : z.length ≤ 1000000
    · have q4 : ∀ v H', Gx C.T H H' → Dp X.K (hid O H') v (.str (cutS z u w)) → Q v H' := by simpa [Fin, hc] using q3
      exact ⟨z, dp_str p1, line_le hc, q4 _ H3 x13 (.str _)⟩
    · exact (show False from by simpa [Fin, hc] using q3).elim
  | _ => exact q3.elim
theorem f_cat (ha : PE X a (tO X.K C l)) (hb : PE X b (tO X.K C m)) : PE X (.BinOp a .Add b pos) (tF X.K C (lCat l m)) := pe_imp (pe_op op_cat ha hb) fun σ H Q ⟨O, ρ, R, q⟩ => by
  refine ⟨O, ρ, R, (Fin.bind q).imp fun ds _ q1 p vs H1 x1 s1 a1 => ?_⟩
  refine ⟨O, ρ, R.grow x1, ((Fin.bind q1).grow x1).imp fun es _ q2 p' ws H2 x2 s2 a2 => ?_⟩
  by_cases hc : ds.length + es.length ≤ 1000000
  · have q4 : ∀ p vs H', Gx C.T H H' → H p = none → H' p = some (.lst vs) → DpAll X.K (hid (p :: O) H') vs (ds ++ es) → Q (.ref p) H' := by simpa [Fin, hc] using q2
    have x12 := x1.trans x2
    exact ⟨p, p', vs, ws, rfl, rfl, x2.ex _ _ s1 rfl, s2, line_le (by rw [a1.len, a2.len]; exact hc), fun r nr => q4 r _ _ (x12.trans (Gx.new nr)) (fresh_back x12 nr) upd_same (DpAll.mono (hid_new nr) ((DpAll.mono (hid_mono x2) a1).append a2))⟩
  · exact (show False from by simpa [Fin, hc] using q2).elim
theorem f_rep (ha : PE X a (tO X.K C l)) (hb : PE X b (tV X.K C g)) : PE X (.BinOp a .Mult b pos) (tF X.K C (lRep l g)) := pe_imp (pe_op op_rep ha hb) fun σ H Q ⟨O, ρ, R, q⟩ => by
  refine ⟨O, ρ, R, (Fin.bind q).imp fun ds _ q1 p vs H1 x1 s1 a1 => ?_⟩
  refine ⟨O, ρ, R.grow x1, ((Fin.bind q1).grow x1).imp fun e _ q2 u H2 x2 p2 => ?_⟩
  cases e with
  | int n =>
    by_cases hc : -1000000 ≤ n ∧ n ≤ 1000000 ∧ ds.length ≤ 1
    · have q4 : ∀ p vs H', Gx C.T H H' → H p = none → H' p = some (.lst vs) → DpAll X.K (hid (p :: O) H') vs (List.replicate n.toNat ds).flatten → Q (.ref p) H' := by simpa [Fin, hc] using q2
      have x12 := x1.trans x2
      refine ⟨p, n, vs, rfl, dp_int p2, x2.ex _ _ s1 rfl, by omega, by omega, line_le ?_, fun r nr => q4 r _ _ (x12.trans (Gx.new nr)) (fresh_back x12 nr) upd_same (DpAll.mono (hid_new nr) ((DpAll.mono (hid_mono x2) a1).rep _))⟩
      rw [a1.len]
      have h1 : ds.length = 0 ∨ ds.length = 1 := by omega
      rcases h1 with h1 | h1 <;> rw [h1] <;> omega
    · exact (show False from by simpa [Fin, hc] using q2).elim
  | _ => exact q2.elim

/-! ### displays -/
variable {es : List Expr} {fs : List VE}
theorem a_nil : PA X [] (tA X.K C (aAll [])) := pa_imp pa_nil fun σ H Q ⟨O, ρ, R, q⟩ => (show ∀ vs H', Gx C.T H H' → DpAll X.K (hid O H') vs [] → Q vs H' from q) [] H (Gx.refl H) .nil
theorem a_cons (ha : PE X e (tV X.K C f)) (hr : PA X es (tA X.K C (aAll fs))) (hs : starEach (e :: es) X.env = (false, eval e X.env) :: starEach es X.env := by rfl) : PA X (e :: es) (tA X.K C (aAll (f :: fs))) := pa_imp (pa_cons ha hr hs) fun σ H Q ⟨O, ρ, R, q⟩ => by
  refine ⟨O, ρ, R, (Fin.bind q).imp fun d _ q1 v H1 x1 p1 => ?_⟩
  refine ⟨O, ρ, R.grow x1, ((Fin.bind q1).grow x1).imp fun ds _ q2 vs H2 x2 p2 => ?_⟩
  exact (show ∀ vs H', Gx C.T H H' → DpAll X.K (hid O H') vs (d :: ds) → Q vs H' from q2) _ H2 (x1.trans x2) (.cons (Dp.mono (hid_mono x2) p1) p2)
/-- a tuple's display: the new tuple holds no instance dict -/
theorem pe_tupF {t : TA} {x1 : Nat} (h : PA X es t) : PE X (.Tuple es x1 pos) (fun σ H Q => t σ H fun xs H1 => xs.length ≤ sizeLine ∧ ∀ (p : Addr) (o : Obj), H1 p = none → o.dict = none → Q (.ref p) (upd H1 p (.frz o (.tup xs)))) := by
  refine ⟨fun pins s σ H Q I hq => ?_⟩
  refine wpAny_Tuple_spliced (thn (h.run pos pins s σ H _ I hq) fun us s1 ⟨xs, H1, I1, r, z, q⟩ => ⟨by rw [← r.length]; exact z, ?_⟩)
  have hf : H1 s1.heap.objs.size = none := I1.hok.fresh (Nat.le_refl _)
  refine ⟨.ref s1.heap.objs.size, upd H1 s1.heap.objs.size (.frz { cls := .type "tuple", data := .seq us.toArray } (.tup xs)), I1.laid (t' := s1.toks) (fun b u e => Heap.get?_push_of_some _ e) (Nat.le_refl _) ?_, rfl, q _ _ hf rfl⟩
  exact ⟨Heap.get?_push_size _ rfl, z, us, r, ⟨_, Heap.get?_push_size _ rfl, rfl, _, rfl⟩⟩
/-- such a tuple among the data -/
theorem tup_new {K : PySem.W.Frag} {O : List Addr} {H : Hp} {p : Addr} {o : Obj} {xs : List V} (hp : p ∉ O) (h : o.dict = none) : SqT K (hid O (upd H p (.frz o (.tup xs)))) p xs := .inl (.inr ⟨o, hid_out hp upd_same (by show o.dict.isSome = false; rw [h]; rfl)⟩)
theorem v_tup {k : Nat} (h : PA X es (tA X.K C (aAll fs))) (hl : fs.length ≤ 1000 := by exact Nat.le_of_ble_eq_true rfl) : PE X (.Tuple es k pos) (tV X.K C (eTup fs)) := pe_imp (pe_tupF h) fun σ H Q ⟨O, ρ, R, q⟩ => by
  refine ⟨O, ρ, R, (Fin.bind q).imp fun ds ed q1 vs H1 x1 p1 => ?_⟩
  have R1 := R.grow x1
  refine ⟨line_le (by rw [p1.len, aAll_len _ _ _ ed]; omega), fun p o np hd => ?_⟩
  exact (show ∀ v H', Gx C.T H H' → Dp X.K (hid O H') v (.tuple ds) → Q v H' from q1) _ _ (x1.trans (Gx.new np)) (.tup (tup_new (fun z => R1.alive p z np) hd) (DpAll.mono (hid_mono (τ := []) (Gx.new np)) p1))
theorem f_lst (h : PA X es (tA X.K C (aAll fs))) (hl : fs.length ≤ 1000 := by exact Nat.le_of_ble_eq_true rfl) : PE X (.List es pos) (tF X.K C (lLst fs)) := pe_imp (pe_lst h) fun σ H Q ⟨O, ρ, R, q⟩ => by
  refine ⟨O, ρ, R, (show Fin C σ H (aAll fs ρ) _ from q).imp fun ds ed q1 vs H1 x1 p1 => ?_⟩
  refine ⟨line_le (by rw [p1.len, aAll_len _ _ _ ed]; omega), fun p np => ?_⟩
  exact q1 p vs _ (x1.trans (Gx.new np)) (fresh_back x1 np) upd_same (DpAll.mono (hid_new np) p1)
end
end PL

/-! PL4: built-in functions, calls of defs, what is walked, comprehensions. -/
namespace PL
open PySem L2
section
variable {X : Cx} {C : PC} {a b c e : Expr} {f g h : VE} {l m : LE} {pos p1 : Pos} {es : List Expr}
/-! ### len, isinstance, sum .. -/
theorem dp_ty {K : PySem.W.Frag} {H : Hp} {v : V} {d : PyData} (h : Dp K H v d) : TyX K H v (.type (tyName d)) := by
  cases h with
  | non => exact .base .non
  | bl b => exact .base (.bl b)
  | int i => exact .base (.int i)
  | str s => exact .base (.str s)
  | lst s a =>
    rcases s with (s | ⟨o, s⟩) | ⟨o, its, n, h1, h2, _⟩
    · exact .base (.lst s)
    · exact .base (.frz s)
    · exact .kList h1 h2
  | tup s a =>
    rcases s with (s | ⟨o, s⟩) | ⟨o, its, n, h1, h2, _⟩
    · exact .base (.tup s)
    · exact .fTuple s
    · exact .kTuple h1 h2
/-- one argument that is read, by a rule on values -/
theorem one_cb {K : PySem.W.Frag} {r : List V → Hp → VK → Prop} {k : PyData → Out PyData} {σ : L2.St} {H : Hp} {Q : VK} {f : VE}
    (hr : ∀ (O : List Addr) (H : Hp) (x : V) (d z : PyData), Dp K H x d → k d = .ok z → (∀ v H', Gx C.T H H' → Dp K (hid O H') v z → Q v H') → r [x] H Q) (hx : ∀ d n, k d ≠ .exc n)
    (q : tV K C (fun ρ => (f ρ).bind k) σ H Q) : tCB r (tCons (tR K C f) tNil) σ H Q := by
  obtain ⟨O, ρ, R, q⟩ := q
  refine ⟨O, ρ, R, (Fin.bind q).imp fun d _ q1 v H1 x1 p1 => ?_⟩
  cases z : k d with
  | ok z' =>
    rw [z] at q1
    exact hr O H1 v d z' p1 z fun w H2 x2 p2 => q1 w H2 (x1.trans x2) p2
  | exc n => exact absurd z (hx d n)
  | stuck => rw [z] at q1; exact q1.elim
theorem v_len (hg : Gl X "len") (hm : X.mg "len" = none) (ha : PE X a (tR X.K C f)) (he : starEach [a] X.env = (false, eval a X.env) :: starEach [] X.env := by rfl) :
    PE X (.Call (.Name "len" p1) [a] [] pos) (tV X.K C (eLenV f)) := pe_imp (pe_callB call_len hg hm PySem.boot_len (pa_cons ha pa_nil he) (by decide) (by decide) he) fun σ H Q q => one_cb (fun O H x d z p hz hq => by
  unfold lenOf at hz
  split at hz
  · split at hz
    · rename_i hc
      cases hz
      rw [dp_str p]
      exact ⟨_, _, rfl, ⟨line_le hc, rfl⟩, hq _ H (Gx.refl H) (.int _)⟩
    · cases hz
  · cases hz
    obtain ⟨p, vs, rfl, s, t⟩ := dp_tup p
    exact ⟨_, _, rfl, .inr ⟨vs, s, rfl⟩, hq _ H (Gx.refl H) (by rw [t.len]; exact .int _)⟩
  · cases hz
    obtain ⟨p, vs, rfl, s, t⟩ := dp_lst p
    exact ⟨_, _, rfl, .inl ⟨vs, s, rfl⟩, hq _ H (Gx.refl H) (by rw [t.len]; exact .int _)⟩
  · cases hz) (fun d n h => by
  unfold lenOf at h
  split at h
  · split at h <;> cases h
  · cases h
  · cases h
  · cases h) q
theorem v_isI {T : String} (hg : Gl X "isinstance") (hm : X.mg "isinstance" = none) (hgT : Gl X (Str.ofString T)) (hmT : X.mg (Str.ofString T) = none) (hvT : bootBuiltins (Str.ofString T) = some (.type T)) (ha : PE X a (tR X.K C f)) (he : starEach (a :: [.Name (Str.ofString T) p1]) X.env = (false, eval a X.env) :: starEach [.Name (Str.ofString T) p1] X.env := by rfl)
    (hn : Str.ofString T ≠ "__name__" := by decide) (hd : (Str.ofString T == ("__debug__" : Str)) = false := by decide) {p2 : Pos} :
    PE X (.Call (.Name "isinstance" p2) [a, .Name (Str.ofString T) p1] [] pos) (tV X.K C (eIsI f T)) :=
  pe_imp (pe_callB call_isi hg hm (by decide +kernel) (pa_cons ha (pa_cons (pe_bltn (v := .ty T) hgT hmT hvT rfl hn hd) pa_nil) he) (by decide) (by decide) he) fun σ H Q ⟨O, ρ, R, q⟩ => by
  refine ⟨O, ρ, R, (Fin.bind q).imp fun d _ q1 v H1 x1 p1 => ?_⟩
  cases z : kitB (tyName d) T with
  | none => exact (show False from by simpa [Fin, z] using q1).elim
  | some b =>
    have q2 : ∀ v H', Gx C.T H H' → Dp X.K (hid O H') v (.bool b) → Q v H' := by simpa [Fin, z] using q1
    exact ⟨v, .ty T, .type (tyName d), .type T, b, rfl, .ty T, dp_ty p1, kit_ty z, q2 _ H1 x1 (.bl b)⟩
theorem v_sum (hc : X.calm = true) (hg : Gl X "sum") (hm : X.mg "sum" = none) (ha : PE X a (tL X.K C l)) (he : starEach [a] X.env = (false, eval a X.env) :: starEach [] X.env := by rfl) :
    PE X (.Call (.Name "sum" p1) [a] [] pos) (tV X.K C (eSum l)) := pe_imp (pe_callB (cr_sum hc) hg hm (by decide +kernel) (pa_cons ha pa_nil he) (by decide) (by decide) he) fun σ H Q ⟨O, ρ, R, q⟩ => by
  refine ⟨O, ρ, R, (Fin.bind q).imp fun ds _ q1 p vs H1 x1 s1 a1 => ?_⟩
  cases z : asInts ds with
  | none => exact (show False from by simpa [Fin, z] using q1).elim
  | some ns =>
    have q2 : ∀ v H', Gx C.T H H' → Dp X.K (hid O H') v (.int ns.sum) → Q v H' := by simpa [Fin, z] using q1
    refine ⟨p, ns, rfl, ?_, q2 _ H1 x1 (.int _)⟩
    rw [← a1.ints z]
    exact s1
theorem v_any (hc : X.calm = true) (hg : Gl X "any") (hm : X.mg "any" = none) (ha : PE X a (tL X.K C l)) (he : starEach [a] X.env = (false, eval a X.env) :: starEach [] X.env := by rfl) :
    PE X (.Call (.Name "any" p1) [a] [] pos) (tV X.K C (eAny l)) := pe_imp (pe_callB (cr_any hc) hg hm (by decide +kernel) (pa_cons ha pa_nil he) (by decide) (by decide) he) fun σ H Q ⟨O, ρ, R, q⟩ => by
  refine ⟨O, ρ, R, (Fin.bind q).imp fun ds _ q1 p vs H1 x1 s1 a1 => ?_⟩
  cases z : asBools ds with
  | none => exact (show False from by simpa [Fin, z] using q1).elim
  | some ns =>
    have q2 : ∀ v H', Gx C.T H H' → Dp X.K (hid O H') v (.bool (ns.any _root_.id)) → Q v H' := by simpa [Fin, z] using q1
    refine ⟨p, ns, rfl, ?_, q2 _ H1 x1 (.bl _)⟩
    rw [← a1.bools z]
    exact s1
theorem v_all (hc : X.calm = true) (hg : Gl X "all") (hm : X.mg "all" = none) (ha : PE X a (tL X.K C l)) (he : starEach [a] X.env = (false, eval a X.env) :: starEach [] X.env := by rfl) :
    PE X (.Call (.Name "all" p1) [a] [] pos) (tV X.K C (eAll l)) := pe_imp (pe_callB (cr_all hc) hg hm (by decide +kernel) (pa_cons ha pa_nil he) (by decide) (by decide) he) fun σ H Q ⟨O, ρ, R, q⟩ => by
  refine ⟨O, ρ, R, (Fin.bind q).imp fun ds _ q1 p vs H1 x1 s1 a1 => ?_⟩
  cases z : asBools ds with
  | none => exact (show False from by simpa [Fin, z] using q1).elim
  | some ns =>
    have q2 : ∀ v H', Gx C.T H H' → Dp X.K (hid O H') v (.bool (ns.all _root_.id)) → Q v H' := by simpa [Fin, z] using q1
    refine ⟨p, ns, rfl, ?_, q2 _ H1 x1 (.bl _)⟩
    rw [← a1.bools z]
    exact s1
theorem foldl_min_mem : ∀ (r : List Int) (x : Int), r.foldl min x ∈ x :: r ∧ ∀ y ∈ x :: r, r.foldl min x ≤ y
  | [], x => ⟨List.mem_cons_self, fun y hy => by
    have : y = x := by simpa using hy
    subst this
    exact Int.le_refl _⟩
  | y :: r, x => by
    obtain ⟨h1, h2⟩ := foldl_min_mem r (min x y)
    rw [List.foldl_cons]
    refine ⟨?_, fun z hz => ?_⟩
    · rcases List.mem_cons.mp h1 with e | e
      · rw [e]
        rcases Int.le_total x y with h | h
        · rw [Int.min_eq_left h]; exact List.mem_cons_self
        · rw [Int.min_eq_right h]; exact List.mem_cons_of_mem _ List.mem_cons_self
      · exact List.mem_cons_of_mem _ (List.mem_cons_of_mem _ e)
    · have h0 := h2 (min x y) List.mem_cons_self
      rcases List.mem_cons.mp hz with rfl | hz
      · omega
      · rcases List.mem_cons.mp hz with rfl | hz
        · omega
        · exact h2 z (List.mem_cons_of_mem _ hz)
theorem least_is {ns : List Int} {m m' : Int} (h : leastOf ns = some m) (h1 : m' ∈ ns) (h2 : ∀ y ∈ ns, m' ≤ y) : m' = m := by
  cases ns with
  | nil => cases h
  | cons x r =>
    cases h
    obtain ⟨a1, a2⟩ := foldl_min_mem r x
    have := h2 _ a1
    have := a2 _ h1
    omega
theorem v_minL (hc : X.calm = true) (hg : Gl X "min") (hm : X.mg "min" = none) (ha : PE X a (tL X.K C l)) (he : starEach [a] X.env = (false, eval a X.env) :: starEach [] X.env := by rfl) :
    PE X (.Call (.Name "min" p1) [a] [] pos) (tV X.K C (eMinL l)) := pe_imp (pe_callB (cr_min hc) hg hm (by decide +kernel) (pa_cons ha pa_nil he) (by decide) (by decide) he) fun σ H Q ⟨O, ρ, R, q⟩ => by
  refine ⟨O, ρ, R, (Fin.bind q).imp fun ds _ q1 p vs H1 x1 s1 a1 => ?_⟩
  cases z : asInts ds with
  | none => exact (show False from by simpa [Fin, z] using q1).elim
  | some ns =>
    cases z2 : leastOf ns with
    | none => exact (show False from by simpa [Fin, z, z2] using q1).elim
    | some m =>
      have q2 : ∀ v H', Gx C.T H H' → Dp X.K (hid O H') v (.int m) → Q v H' := by simpa [Fin, z, z2] using q1
      refine ⟨p, ns, rfl, ?_, ?_, fun m' hm1 hm2 => ?_⟩
      · rw [← a1.ints z]
        exact s1
      · cases ns with
        | nil => cases z2
        | cons x r => exact Nat.succ_pos _
      · rw [least_is z2 hm1 hm2]
        exact q2 _ H1 x1 (.int _)
theorem two_cb {K : PySem.W.Frag} {r : List V → Hp → VK → Prop} {k : Op2} {σ : L2.St} {H : Hp} {Q : VK} {f g : VE}
    (hr : ∀ (O : List Addr) (H : Hp) (x y : V) (d e z : PyData), Dp K (hid O H) x d → Dp K (hid O H) y e → k d e = .ok z → (∀ v H', Gx C.T H H' → Dp K (hid O H') v z → Q v H') → r [x, y] H Q) (hx : ∀ d e n, k d e ≠ .exc n)
    (q : tV K C (eOp k f g) σ H Q) : tCB r (tCons (tV K C f) (tCons (tV K C g) tNil)) σ H Q := by
  obtain ⟨O, ρ, R, q⟩ := q
  refine ⟨O, ρ, R, (Fin.bind q).imp fun d _ q1 v H1 x1 p1 => ?_⟩
  refine ⟨O, ρ, R.grow x1, ((Fin.bind q1).grow x1).imp fun e _ q2 u H2 x2 p2 => ?_⟩
  cases z : k d e with
  | ok z' =>
    rw [z] at q2
    exact hr O H2 v u d e z' (Dp.mono (hid_mono x2) p1) p2 z fun w H3 x3 p3 => q2 w H3 ((x1.trans x2).trans x3) p3
  | exc n => exact absurd z (hx d e n)
  | stuck => rw [z] at q2; exact q2.elim
theorem v_min2 (hc : X.calm = true) (hg : Gl X "min") (hm : X.mg "min" = none) (ha : PE X a (tV X.K C f)) (hb : PE X b (tV X.K C g)) (he : starEach [a, b] X.env = (false, eval a X.env) :: starEach [b] X.env := by rfl) (he2 : starEach [b] X.env = (false, eval b X.env) :: starEach [] X.env := by rfl) :
    PE X (.Call (.Name "min" p1) [a, b] [] pos) (tV X.K C (eOp oMin f g)) := pe_imp (pe_callB (call_min2 hc) hg hm (by decide +kernel) (pa_cons ha (pa_cons hb pa_nil he2) he) (by decide) (by decide) he (by rw [he2]; rfl)) fun σ H Q q => two_cb (fun O H x y d e z h1 h2 hz hq => by
  unfold oMin at hz
  split at hz
  · cases hz; exact ⟨_, _, by rw [dp_int h1, dp_int h2], hq _ H (Gx.refl H) (.int _)⟩
  · cases hz) (fun d e n h => by unfold oMin at h; split at h <;> cases h) q
theorem v_max2 (hc : X.calm = true) (hg : Gl X "max") (hm : X.mg "max" = none) (ha : PE X a (tV X.K C f)) (hb : PE X b (tV X.K C g)) (he : starEach [a, b] X.env = (false, eval a X.env) :: starEach [b] X.env := by rfl) (he2 : starEach [b] X.env = (false, eval b X.env) :: starEach [] X.env := by rfl) :
    PE X (.Call (.Name "max" p1) [a, b] [] pos) (tV X.K C (eOp oMax f g)) := pe_imp (pe_callB (call_max2 hc) hg hm (by decide +kernel) (pa_cons ha (pa_cons hb pa_nil he2) he) (by decide) (by decide) he (by rw [he2]; rfl)) fun σ H Q q => two_cb (fun O H x y d e z h1 h2 hz hq => by
  unfold oMax at hz
  split at hz
  · cases hz; exact ⟨_, _, by rw [dp_int h1, dp_int h2], hq _ H (Gx.refl H) (.int _)⟩
  · cases hz) (fun d e n h => by unfold oMax at h; split at h <;> cases h) q
theorem v_intB (hg : Gl X "int") (hm : X.mg "int" = none) (ha : PE X a (tV X.K C f)) (he : starEach [a] X.env = (false, eval a X.env) :: starEach [] X.env := by rfl) :
    PE X (.Call (.Name "int" p1) [a] [] pos) (tV X.K C (eIntB f)) := pe_imp (pe_callTy call_int1 hg hm (by decide +kernel) (pa_cons ha pa_nil he) (by decide) (by decide) he) fun σ H Q ⟨O, ρ, R, q⟩ => by
  refine ⟨O, ρ, R, (Fin.bind q).imp fun d _ q1 v H1 x1 p1 => ?_⟩
  cases d with
  | bool b => exact .inr ⟨b, by rw [dp_bl p1], (show ∀ v H', Gx C.T H H' → Dp X.K (hid O H') v (.int (if b then 1 else 0)) → Q v H' from q1) _ H1 x1 (.int _)⟩
  | _ => exact q1.elim
/-- list(x): a new list -/
theorem f_listL (hg : Gl X "list") (hm : X.mg "list" = none) (ha : PE X a (tL X.K C l)) (he : starEach [a] X.env = (false, eval a X.env) :: starEach [] X.env := by rfl) :
    PE X (.Call (.Name "list" p1) [a] [] pos) (tF X.K C l) := pe_imp (pe_callTy call_list_of hg hm (by decide +kernel) (pa_cons ha pa_nil he) (by decide) (by decide) he) fun σ H Q ⟨O, ρ, R, q⟩ => by
  refine ⟨O, ρ, R, q.imp fun ds _ q1 p vs H1 x1 s1 a1 => ?_⟩
  exact ⟨p, vs, rfl, .inl s1, fun r nr => q1 r vs _ (x1.trans (Gx.new nr)) (fresh_back x1 nr) upd_same (DpAll.mono (hid_new nr) a1)⟩
theorem call_tupleF : CallR X (.type "tuple") (fun xs H Q => ∃ p ys, xs = [.ref p] ∧ SqL X.K H p ys ∧ ∀ (l : Addr) (o : Obj), H l = none → o.dict = none → Q (.ref l) (upd H l (.frz o (.tup ys)))) := by
  intro pins s σ H xs us Q I r h
  obtain ⟨p, ys, rfl, hq, q⟩ := h
  obtain ⟨u, rfl, rx⟩ := vals1 r
  cases rx
  obtain ⟨its, r', pl, hz⟩ := I.list hq
  have hlen := r'.length
  refine call_tuple_list pl.isList (fun h' kp => ?_) (by simp only [List.size_toArray] <;> omega)
  have I1 : Inv X pins σ H { s with heap := h' } := I.kept (t' := s.toks) kp
  have I2 : Inv X pins σ (upd H h'.objs.size (.frz { cls := .type "tuple", data := .seq its.toArray } (.tup ys))) { s with heap := h'.push { cls := .type "tuple", data := .seq its.toArray } } :=
    I1.laid (t' := s.toks) (fun b o e => Heap.get?_push_of_some _ e) (Nat.le_refl _) (show ObjOk X.prog X.w _ _ _ (.frz _ (.tup ys)) from ⟨Heap.get?_push_size _ rfl, hz, its, r', ⟨_, Heap.get?_push_size _ rfl, rfl, _, rfl⟩⟩)
  exact ⟨.ref h'.objs.size, _, I2, rfl, q _ _ (I1.hok.fresh (Nat.le_refl _)) rfl⟩
/-- tuple(x), x a list -/
theorem v_tupL (hg : Gl X "tuple") (hm : X.mg "tuple" = none) (ha : PE X a (tL X.K C l)) (he : starEach [a] X.env = (false, eval a X.env) :: starEach [] X.env := by rfl) :
    PE X (.Call (.Name "tuple" p1) [a] [] pos) (tV X.K C (eTupL l)) := pe_imp (pe_callTy call_tupleF hg hm (by decide +kernel) (pa_cons ha pa_nil he) (by decide) (by decide) he) fun σ H Q ⟨O, ρ, R, q⟩ => by
  refine ⟨O, ρ, R, (Fin.bind q).imp fun ds _ q1 p vs H1 x1 s1 a1 => ?_⟩
  refine ⟨p, vs, rfl, s1, fun r o nr hd => ?_⟩
  have R1 := R.grow x1
  exact (show ∀ v H', Gx C.T H H' → Dp X.K (hid O H') v (.tuple ds) → Q v H' from q1) _ _ (x1.trans (Gx.new nr)) (.tup (tup_new (fun z => R1.alive r z nr) hd) (DpAll.mono (hid_mono (τ := []) (Gx.new nr)) a1))

/-! ### calls of defs -/
/-- a def's promise, by its plain function -/
def spP (K : PySem.W.Frag) (tb : List (Addr × Str)) (cv : String → Value) (n : Nat) (F : FN) : Sp := fun vs H Q E => ∃ O args, args.length = n ∧ LamX.Tabs tb H ∧ (∀ b ∈ O, H b ≠ none) ∧ ArgsOk K O H vs args ∧ match F args with
  | .ok r => ∀ v H', Gx tb H H' → RetC K O H H' v r → Q v H'
  | .exc nm => ∀ H', Gx tb H H' → E (cv nm) none H'
  | .stuck => False
/-- a def that stands, with its plain function -/
structure Dfn (P : Program) (w : World) (K : PySem.W.Frag) (mg : Str → Option Value) (base : Heap) (tb : List (Addr × Str)) (cv : String → Value) (k : Nat) (x : Str) (n : Nat) (F : FN) : Prop where
  ex : ∃ (f : Addr) (fd : FuncData) (ps : List Str), FnOk P w K mg base (L2.CX P w) k f fd ps (spP K tb cv n F) ∧ mg x = some (.ref f) ∧ PySem.W.keepIn K (.ref f) = true ∧ Binds K fd ps []
theorem Dfn.imp {P : Program} {w : World} {K : PySem.W.Frag} {mg : Str → Option Value} {base : Heap} {tb : List (Addr × Str)} {cv : String → Value} {k : Nat} {x : Str} {n : Nat} {F F' : FN} (D : Dfn P w K mg base tb cv k x n F) (h : ∀ as, as.length = n → F' as ≠ .stuck → F as = F' as) : Dfn P w K mg base tb cv k x n F' := by
  obtain ⟨f, fd, ps, F0, r⟩ := D.ex
  refine ⟨f, fd, ps, F0.imp fun vs H Q E ⟨O, args, hl, ht, al, ha, q⟩ => ⟨O, args, hl, ht, al, ha, ?_⟩, r⟩
  have : F' args ≠ .stuck := fun z => by rw [z] at q; exact q
  rw [h args hl this]
  exact q
theorem Dfn.mono {P : Program} {w : World} {K : PySem.W.Frag} {mg : Str → Option Value} {base : Heap} {tb : List (Addr × Str)} {cv : String → Value} {j k : Nat} {x : Str} {n : Nat} {F : FN} (D : Dfn P w K mg base tb cv j x n F) (h : j ≤ k) : Dfn P w K mg base tb cv k x n F := by
  obtain ⟨f, fd, ps, F0, r⟩ := D.ex
  exact ⟨f, fd, ps, F0.mono h, r⟩
variable {ra : AE} {F : FN} {k : Nat} {n : Nat} {x : Str}
/-- what a callee raises is taken -/
def Wk (X : Cx) (C : PC) : Prop := ∀ σ, PassesAt (L2.CX X.prog X.w) X σ (WE C.W σ)
theorem x_call (D : Dfn X.prog X.w X.K X.mg X.base C.T C.cv k x n F) (hr : Room k X.A) (hx : Wk X C) (hg : Gl X x) (ha : PA X (e :: es) (tAr X.K C ra)) (hn : ∀ ρ ss, ra ρ = .ok ss → ss.length = n) (hdb : (x == ("__debug__" : Str)) = false := by decide)
    (he : starEach (e :: es) X.env = (false, eval e X.env) :: starEach es X.env := by rfl) (hpl : (backTo pos (starEach es X.env)).any (·.1) = false := by rfl) :
    PE X (.Call (.Name x p1) (e :: es) [] pos) (tX X.K C (xCall F ra)) := by
  obtain ⟨f, fd, ps, F0, hmg, hk, hb⟩ := D.ex
  refine pe_imp (pe_callS F0 hr hg hmg hk hb hx ha hdb he hpl) fun σ H Q ⟨O, ρ, R, q⟩ => ?_
  refine ⟨O, ρ, R, (Fin.bind q).imp fun ss es q1 vs H1 x1 a1 => ?_⟩
  refine ⟨O, ss, hn ρ ss es, (R.grow x1).tabs, (R.grow x1).alive, a1, ?_⟩
  cases z : F ss with
  | ok r =>
    rw [z] at q1
    refine fun v H' x2 p2 => q1 v H' (x1.trans x2) ?_
    cases r with
    | val d => exact p2
    | fresh ds => obtain ⟨p, vs, a, b, c⟩ := p2; exact ⟨p, vs, a, fresh_back x1 b, c⟩
    | dfresh ds => obtain ⟨p, vs, a, b, c⟩ := p2; exact ⟨p, vs, a, fresh_back x1 b, c⟩
    | gfresh ds => obtain ⟨p, vs, a, b, c, d⟩ := p2; exact ⟨p, vs, a, fresh_back x1 b, c, d.nd, fun q hq => fresh_back x1 (d.new q hq), d.row⟩
  | exc nm => rw [z] at q1; exact fun H' x2 => q1 H' (x1.trans x2)
  | stuck => rw [z] at q1; exact q1
theorem ar_nil : PA X [] (tAr X.K C rNil) := pa_imp pa_nil fun σ H Q ⟨O, ρ, R, q⟩ => (show ∀ vs H', Gx C.T H H' → ArgsOk X.K O H' vs [] → Q vs H' from q) [] H (Gx.refl H) .nil
theorem ar_V (ha : PE X e (tV X.K C f)) (hr : PA X es (tAr X.K C ra)) (hs : starEach (e :: es) X.env = (false, eval e X.env) :: starEach es X.env := by rfl) : PA X (e :: es) (tAr X.K C (rV f ra)) := pa_imp (pa_cons ha hr hs) fun σ H Q ⟨O, ρ, R, q⟩ => by
  refine ⟨O, ρ, R, (Fin.bind q).imp fun d _ q1 v H1 x1 p1 => ?_⟩
  refine ⟨O, ρ, R.grow x1, ((Fin.bind q1).grow x1).imp fun ds _ q2 vs H2 x2 p2 => ?_⟩
  exact (show ∀ vs H', Gx C.T H H' → ArgsOk X.K O H' vs (.fz d :: ds) → Q vs H' from q2) _ H2 (x1.trans x2) (.cons (Dp.mono (hid_mono x2) p1) p2)
theorem ar_L (ha : PE X e (tL X.K C l)) (hr : PA X es (tAr X.K C ra)) (hs : starEach (e :: es) X.env = (false, eval e X.env) :: starEach es X.env := by rfl) : PA X (e :: es) (tAr X.K C (rL l ra)) := pa_imp (pa_cons ha hr hs) fun σ H Q ⟨O, ρ, R, q⟩ => by
  refine ⟨O, ρ, R, (Fin.bind q).imp fun d _ q1 p vs H1 x1 s1 a1 => ?_⟩
  refine ⟨O, ρ, R.grow x1, ((Fin.bind q1).grow x1).imp fun ds _ q2 ws H2 x2 p2 => ?_⟩
  exact (show ∀ vs H', Gx C.T H H' → ArgsOk X.K O H' vs (.bw d :: ds) → Q vs H' from q2) _ H2 (x1.trans x2) (.cons ⟨p, vs, rfl, ex_l x2 s1, DpAll.mono (hid_mono x2) a1⟩ p2)
/-- a dict that is read -/
def tD (K : PySem.W.Frag) (C : PC) (i : Nat) : TE := fun σ H Q => ∃ O ρ, Rep K C O H σ ρ ∧ Fin C σ H (dVar i ρ) fun kvs => ∀ p vs H', Gx C.T H H' → H' p = some (.dT vs) → KvAll K (hid O H') vs kvs → Q (.ref p) H'
theorem d_var (i : Nat) {x : Str} {pos : Pos} (hN : X.N[i]? = some x := by rfl) (hv : Vis X.env.scope x := by first | exact Or.inl rfl | exact Or.inr (Or.inl rfl) | exact Or.inr (Or.inr rfl)) (hd : (x == ("__debug__" : Str)) = false := by decide)
    (hcd : (x == ("__classdict__" : Str)) = false := by decide) : PE X (.Name x pos) (tD X.K C i) := pe_imp (pe_var (i := i) hN hv hd hcd) fun σ H Q ⟨O, ρ, R, q⟩ => by
  unfold dVar at q
  split at q
  · rename_i ds e
    obtain ⟨v, h1, p, vs, rfl, _, _, h4, h5⟩ := R.slot i _ e
    exact ⟨.ref p, h1, q p vs H (Gx.refl H) h4 h5⟩
  · rename_i ds e
    obtain ⟨v, h1, p, vs, rfl, hM, h4, h5⟩ := R.slot i _ e
    exact ⟨.ref p, h1, q p vs H (Gx.refl H) (R.ex.st _ _ hM h4 rfl) h5⟩
  · exact q.elim
theorem ar_D {i : Nat} (ha : PE X e (tD X.K C i)) (hr : PA X es (tAr X.K C ra)) (hs : starEach (e :: es) X.env = (false, eval e X.env) :: starEach es X.env := by rfl) : PA X (e :: es) (tAr X.K C (rD i ra)) := pa_imp (pa_cons ha hr hs) fun σ H Q ⟨O, ρ, R, q⟩ => by
  refine ⟨O, ρ, R, (Fin.bind q).imp fun d _ q1 p vs H1 x1 s1 a1 => ?_⟩
  refine ⟨O, ρ, R.grow x1, ((Fin.bind q1).grow x1).imp fun ds _ q2 ws H2 x2 p2 => ?_⟩
  exact (show ∀ vs H', Gx C.T H H' → ArgsOk X.K O H' vs (.dbw d :: ds) → Q vs H' from q2) _ H2 (x1.trans x2) (.cons ⟨p, vs, rfl, x2.ex _ _ s1 rfl, KvAll.mono (hid_mono x2) a1⟩ p2)
end
end PL

/-! PL5: what loops and comprehensions walk. -/
namespace PL
open PySem L2
/-- J yields ds, whatever of the program's own has changed meanwhile -/
def ItOk (K : PySem.W.Frag) (C : PC) (O : List Addr) (H : Hp) (J : It) (ds : List PyData) : Prop := ∀ (O' : List Addr) (H' : Hp), Ex (hid O H) (hid O' H') → (ExM C.T C.M C.H0 H') → (∀ b ∈ O', H' b ≠ none) → ∀ i : Nat,
  (i < ds.length → J.go i H' ∧ ∀ x H3, J.yld i H' x H3 → Gx C.T H' H3 ∧ ∃ d, ds[i]? = some d ∧ Dp K (hid O' H3) x d) ∧ (ds.length ≤ i → J.stop i H')
/-- a value; or (s is false) a tuple that is taken apart at once -/
def DpB (s : Bool) (K : PySem.W.Frag) (O : List Addr) (H : Hp) (v : V) (d : PyData) : Prop := Dp K (hid O H) v d ∨ (s = false ∧ ∃ a vs ds, v = .ref a ∧ d = .tuple ds ∧ SqT K H a vs ∧ DpAll K (hid O H) vs ds)
theorem DpB.tup {s : Bool} {K : PySem.W.Frag} {O : List Addr} {H : Hp} {v : V} {ds : List PyData} (h : DpB s K O H v (.tuple ds)) : ∃ a vs, v = .ref a ∧ SqT K H a vs ∧ DpAll K (hid O H) vs ds := by
  rcases h with h | ⟨_, a, vs, ds', rfl, e, h1, h2⟩
  · obtain ⟨a, vs, rfl, s, al⟩ := dp_tup h
    exact ⟨a, vs, rfl, ex_t hid_ex s, al⟩
  · cases e
    exact ⟨a, vs, rfl, h1, h2⟩
theorem DpB.st {K : PySem.W.Frag} {O : List Addr} {H : Hp} {v : V} {d : PyData} (h : DpB true K O H v d) : Dp K (hid O H) v d := h.elim id fun z => nomatch z.1
/-- .. while nothing changes -/
def ItOkE (s : Bool) (K : PySem.W.Frag) (τ : List (Addr × Str)) (O : List Addr) (H : Hp) (J : It) (ds : List PyData) : Prop := ∀ (O' : List Addr) (H' : Hp), Gx τ H H' → Ex (hid O H) (hid O' H') → (∀ b ∈ O', H' b ≠ none) → ∀ i : Nat,
  (i < ds.length → J.go i H' ∧ ∀ x H3, J.yld i H' x H3 → Gx τ H' H3 ∧ ∃ d, ds[i]? = some d ∧ DpB s K O' H3 x d) ∧ (ds.length ≤ i → J.stop i H')
section
variable (K : PySem.W.Frag) (C : PC)
def tW (w : LE) : TI := fun σ H R => ∃ O ρ, Rep K C O H σ ρ ∧ Fin C σ H (w ρ) fun ds => ∀ J H', Gx C.T H H' → ItOk K C O H' J ds → R J H'
def tWE (s : Bool) (w : LE) : TI := fun σ H R => ∃ O ρ, Rep K C O H σ ρ ∧ Fin C σ H (w ρ) fun ds => ∀ J H', Gx C.T H H' → ItOkE s K C.T O H' J ds → R J H'
end
section
variable {X : Cx} {C : PC} {a b c e tg : Expr} {f g h : VE} {l m : LE} {pos p1 : Pos} {es : List Expr}
theorem wE_W (hi : PI X tg e (tW X.K C l)) : PI X tg e (tWE X.K C true l) := pi_imp hi fun σ H R ⟨O, ρ, Rp, q⟩ => ⟨O, ρ, Rp, q.imp fun ds _ k J H' x it => k J H' x fun O2 H2 x2 xh al => fun i => (it O2 H2 xh (Rp.grow (x.trans x2)).ex al i).imp (fun f hi => (f hi).imp id fun g x H3 y => (g x H3 y).imp id fun ⟨d, a, b⟩ => ⟨d, a, .inl b⟩) id⟩
theorem get_rng (lo : Int) (n : Nat) (c : Int) (i : Nat) (h : i < n) : (rngD lo n c)[i]? = some (.int (lo + (i : Nat) * c)) := by
  unfold rngD
  rw [List.getElem?_map, List.getElem?_range h]
  rfl
theorem len_rng (lo : Int) (n : Nat) (c : Int) : (rngD lo n c).length = n := by
  unfold rngD
  rw [List.length_map, List.length_range]
theorem itr_ok {K : PySem.W.Frag} {O : List Addr} {H : Hp} {lo : Int} {n : Nat} : ItOk K C O H (Itr lo n) (rngD lo n 1) := fun O' H' _ _ _ i => by
  rw [len_rng]
  refine ⟨fun hi => ⟨hi, fun x H3 y => ?_⟩, fun hi => hi⟩
  obtain ⟨rfl, rfl⟩ := y
  refine ⟨Gx.refl _, _, get_rng lo n 1 i hi, ?_⟩
  rw [Int.mul_one]
  exact .int _
theorem itc_ok {K : PySem.W.Frag} {O : List Addr} {H : Hp} {lo c : Int} {n : Nat} : ItOk K C O H (Itc lo c n) (rngD lo n c) := fun O' H' _ _ _ i => by
  rw [len_rng]
  refine ⟨fun hi => ⟨hi, fun x H3 y => ?_⟩, fun hi => hi⟩
  obtain ⟨rfl, rfl⟩ := y
  exact ⟨Gx.refl _, _, get_rng lo n c i hi, .int _⟩
theorem w_range1 (hg : Gl X "range") (hm : X.mg "range" = none) (ha : PE X a (tV X.K C f)) (hs : starEach [a] X.env = [(false, eval a X.env)] := by rfl) : PI X tg (.Call (.Name "range" p1) [a] [] pos) (tW X.K C (wRange1 f)) :=
  pi_imp (pi_range1 hg hm (pa_cons ha pa_nil hs) hs) fun σ H R ⟨O, ρ, Rp, q⟩ => by
  refine ⟨O, ρ, Rp, (Fin.bind q).imp fun d _ q1 v H1 x1 p1 => ?_⟩
  cases d with
  | int n =>
    by_cases hc : okR n = true
    · have hb := of_decide_eq_true hc
      have q2 : ∀ J H', Gx C.T H H' → ItOk X.K C O H' J (rngD 0 n.toNat 1) → R J H' := by simpa [Fin, hc] using q1
      exact ⟨n, by rw [dp_int p1], by omega, by omega, q2 _ H1 x1 itr_ok⟩
    · exact (show False from by simpa [Fin, hc] using q1).elim
  | _ => exact q1.elim
theorem w_range2 (hg : Gl X "range") (hm : X.mg "range" = none) (ha : PE X a (tV X.K C f)) (hb : PE X b (tV X.K C g)) (hs : starEach [a, b] X.env = [(false, eval a X.env), (false, eval b X.env)] := by rfl) (hs2 : starEach [b] X.env = [(false, eval b X.env)] := by rfl) : PI X tg (.Call (.Name "range" p1) [a, b] [] pos) (tW X.K C (wRange2 f g)) :=
  pi_imp (pi_range2 hg hm (pa_cons ha (pa_cons hb pa_nil hs2) (by rw [hs, hs2])) hs hs2) fun σ H R ⟨O, ρ, Rp, q⟩ => by
  refine ⟨O, ρ, Rp, (Fin.bind q).imp fun d _ q1 v H1 x1 p1 => ?_⟩
  refine ⟨O, ρ, Rp.grow x1, ((Fin.bind q1).grow x1).imp fun e _ q2 u H2 x2 p2 => ?_⟩
  cases d with
  | int lo =>
    cases e with
    | int hi =>
      by_cases hc : (okR lo && okR hi) = true
      · have hc' := hc
        rw [Bool.and_eq_true] at hc'
        have hb1 := of_decide_eq_true hc'.1
        have hb2 := of_decide_eq_true hc'.2
        have q3 : ∀ J H', Gx C.T H H' → ItOk X.K C O H' J (rngD lo (hi - lo).toNat 1) → R J H' := by
          have q4 := q2
          simp only [Fin, hc, if_true] at q4
          exact q4
        exact ⟨lo, hi, by rw [dp_int p1, dp_int p2], ⟨by omega, by omega, by omega, by omega⟩, q3 _ H2 (x1.trans x2) itr_ok⟩
      · exact (show False from by
          have q4 := q2
          simp only [Fin, hc] at q4
          exact q4).elim
    | _ => exact q2.elim
  | _ => exact q2.elim
theorem small_two {a b : Int} (h1 : -100000 ≤ a) (h2 : a ≤ 100000) (h3 : -100000 ≤ b) (h4 : b ≤ 100000) : RgC a b 2 ((b - a + 1) / 2).toNat := by
  refine ⟨by decide, by decide, ?_, ?_⟩
  · unfold Builtin.Range.small Builtin.Range.rangeSize
    simp only [Builtin.Range.rangeFitsLong, Bool.and_eq_true, Bool.or_eq_true, decide_eq_true_eq, beq_iff_eq, show ((2 : Int) > 0) from by decide, if_true]
    split <;> (first | omega | (refine ⟨?_, ?_⟩ <;> omega))
  · unfold Builtin.Range.rangeSize
    simp only [show ((2 : Int) > 0) from by decide, if_true]
    split <;> omega
theorem w_range3 (hg : Gl X "range") (hm : X.mg "range" = none) (ha : PE X a (tV X.K C f)) (hb : PE X b (tV X.K C g)) (hc : PE X c (tV X.K C h)) (hs : starEach [a, b, c] X.env = (false, eval a X.env) :: starEach [b, c] X.env := by rfl) (hs2 : starEach [b, c] X.env = (false, eval b X.env) :: starEach [c] X.env := by rfl) (hs3 : starEach [c] X.env = [(false, eval c X.env)] := by rfl) :
    PI X tg (.Call (.Name "range" p1) [a, b, c] [] pos) (tW X.K C (wRange3 f g h)) :=
  pi_imp (pi_range3 hg hm (pa_cons ha (pa_cons hb (pa_cons hc pa_nil hs3) hs2) hs) hs (by rw [hs2, hs3]; rfl)) fun σ H R ⟨O, ρ, Rp, q⟩ => by
  refine ⟨O, ρ, Rp, (Fin.bind q).imp fun d _ q1 v H1 x1 p1 => ?_⟩
  refine ⟨O, ρ, Rp.grow x1, ((Fin.bind q1).grow x1).imp fun e _ q2 u H2 x2 p2 => ?_⟩
  refine ⟨O, ρ, Rp.grow (x1.trans x2), ((Fin.bind q2).grow (x1.trans x2)).imp fun e' _ q3 u3 H3 x3 p3 => ?_⟩
  cases d with
  | int lo =>
    cases e with
    | int hi =>
      cases e' with
      | int c =>
        by_cases hc : c = 2 ∧ -100000 ≤ lo ∧ lo ≤ 100000 ∧ -100000 ≤ hi ∧ hi ≤ 100000
        · have q4 := q3
          simp only [Fin, if_pos hc] at q4
          obtain ⟨rfl, h1, h2, h3, h4⟩ := hc
          exact ⟨lo, hi, 2, _, by rw [dp_int p1, dp_int p2, dp_int p3], small_two h1 h2 h3 h4, q4 _ H3 ((x1.trans x2).trans x3) itc_ok⟩
        · exact (show False from by
            have q4 := q3
            simp only [Fin, if_neg hc] at q4).elim
      | _ => exact q3.elim
    | _ => exact q3.elim
  | _ => exact q3.elim
/-- a list that stands still -/
theorem itl_ok {K : PySem.W.Frag} {O : List Addr} {H : Hp} {p : Addr} {vs : List V} {ds : List PyData} (st : ∀ H', (ExM C.T C.M C.H0 H') → ∀ O', Ex (hid O H) (hid O' H') → SqL K H' p vs) (al : DpAll K (hid O H) vs ds) : ItOk K C O H (Itl K p) ds := fun O' H' x ex _ i => by
  have s := st H' ex O' x
  refine ⟨fun hi => ?_, fun hi => ⟨vs, s, by rw [al.len]; exact hi⟩⟩
  obtain ⟨v, h1, h2⟩ := al.get (List.getElem?_eq_getElem hi)
  refine ⟨⟨vs, v, s, h1⟩, fun y H3 hy => ?_⟩
  obtain ⟨rfl, hy⟩ := hy
  have e : y = v := Option.some.inj ((hy vs s).symm.trans h1)
  subst e
  exact ⟨Gx.refl _, _, List.getElem?_eq_getElem hi, Dp.mono x h2⟩
theorem w_V (ha : PE X e (tV X.K C f)) : PI X tg e (tW X.K C (lOfV f)) := pi_imp (pi_list ha) fun σ H R ⟨O, ρ, Rp, q⟩ => by
  refine ⟨O, ρ, Rp, (Fin.bind q).imp fun d _ q1 v H1 x1 p1 => ?_⟩
  cases d with
  | list ds =>
    obtain ⟨p, vs, rfl, s, al⟩ := dp_lst p1
    exact ⟨p, rfl, ⟨vs, ex_l hid_ex s⟩, (show ∀ J H', Gx C.T H H' → ItOk X.K C O H' J ds → R J H' from q1) _ H1 x1 (itl_ok (fun H' _ O' x => ex_l (x.trans hid_ex) s) al)⟩
  | _ => exact q1.elim
/-- a name whose list stands still -/
theorem w_var (i : Nat) {x : Str} {pos : Pos} (hN : X.N[i]? = some x := by rfl) (hv : Vis X.env.scope x := by first | exact Or.inl rfl | exact Or.inr (Or.inl rfl) | exact Or.inr (Or.inr rfl)) (hd : (x == ("__debug__" : Str)) = false := by decide)
    (hcd : (x == ("__classdict__" : Str)) = false := by decide) : PI X tg (.Name x pos) (tW X.K C (sVar i)) := pi_imp (pi_list (pe_var (i := i) hN hv hd hcd)) fun σ H R ⟨O, ρ, Rp, q⟩ => by
  unfold sVar at q
  split at q
  · rename_i ds e
    obtain ⟨v, h1, h2⟩ := Rp.slot i _ e
    obtain ⟨p, vs, rfl, s, al⟩ := dp_lst (show Dp X.K (hid O H) v (.list ds) from h2)
    exact ⟨.ref p, h1, p, rfl, ⟨vs, ex_l hid_ex s⟩, q _ H (Gx.refl H) (itl_ok (fun H' _ O' x => ex_l (x.trans hid_ex) s) al)⟩
  · rename_i ds e
    obtain ⟨v, h1, p, vs, rfl, hM, s, al⟩ := Rp.slot i _ e
    refine ⟨.ref p, h1, p, rfl, ⟨vs, Rp.bwL hM s⟩, q _ H (Gx.refl H) (itl_ok (fun H' ex O' x => ?_) al)⟩
    rcases s with (s | ⟨o, s⟩) | s
    · exact .inl (.inl (ex.st p _ hM s rfl))
    · exact .inl (.inr ⟨o, ex.st p _ hM s rfl⟩)
    · exact .inr s
  · rename_i ds e
    obtain ⟨v, h1, h2⟩ := Rp.slot i _ e
    obtain ⟨p, vs, rfl, s, al⟩ := dp_lst (OoF.dp (show OoF X.K C.H0 (hid O H) v ds from h2))
    exact ⟨.ref p, h1, p, rfl, ⟨vs, ex_l hid_ex s⟩, q _ H (Gx.refl H) (itl_ok (fun H' _ O' x => ex_l (x.trans hid_ex) s) al)⟩
  · exact q.elim
theorem w_str (ha : PE X e (tV X.K C f)) : PI X tg e (tW X.K C (wStr f)) := pi_imp (pi_str ha) fun σ H R ⟨O, ρ, Rp, q⟩ => by
  refine ⟨O, ρ, Rp, (Fin.bind q).imp fun d _ q1 v H1 x1 p1 => ?_⟩
  cases d with
  | str z =>
    refine ⟨z, dp_str p1, (show ∀ J H', Gx C.T H H' → ItOk X.K C O H' J (z.cps.toList.map fun c => .str ⟨#[c]⟩) → R J H' from q1) _ H1 x1 fun O' H' x ex _ i => ?_⟩
    have hl : (z.cps.toList.map fun c => PyData.str ⟨#[c]⟩).length = z.cps.size := by simp
    rw [hl]
    refine ⟨fun hi => ⟨hi, fun y H3 hy => ?_⟩, fun hi => hi⟩
    obtain ⟨rfl, c, hc, rfl⟩ := hy
    refine ⟨Gx.refl _, .str ⟨#[c]⟩, ?_, .str _⟩
    rw [List.getElem?_map, Array.getElem?_toList, hc]
    rfl
  | _ => exact q1.elim
/-- any list, while nothing changes -/
theorem wE_L (ha : PE X e (tL X.K C l)) : PI X tg e (tWE X.K C true l) := pi_imp (pi_list ha) fun σ H R ⟨O, ρ, Rp, q⟩ => by
  refine ⟨O, ρ, Rp, q.imp fun ds _ q1 p vs H1 x1 s1 al => ?_⟩
  refine ⟨p, rfl, ⟨vs, s1⟩, q1 _ H1 x1 fun O' H' x xh _ i => ?_⟩
  have s := ex_l x.ex s1
  refine ⟨fun hi => ?_, fun hi => ⟨vs, s, by rw [al.len]; exact hi⟩⟩
  obtain ⟨v, h1, h2⟩ := al.get (List.getElem?_eq_getElem hi)
  refine ⟨⟨vs, v, s, h1⟩, fun y H3 hy => ?_⟩
  obtain ⟨rfl, hy⟩ := hy
  have e : y = v := Option.some.inj ((hy vs s).symm.trans h1)
  subst e
  exact ⟨Gx.refl _, _, List.getElem?_eq_getElem hi, .inl (Dp.mono xh h2)⟩
theorem get_enum (ds : List PyData) (i : Nat) (d : PyData) (h : ds[i]? = some d) : (enumD ds)[i]? = some (.tuple [.int (i : Nat), d]) := by
  unfold enumD
  have hi : i < ds.length := (List.getElem?_eq_some_iff.mp h).1
  rw [List.getElem?_zipWith, List.getElem?_range hi, h]
theorem len_enum (ds : List PyData) : (enumD ds).length = ds.length := by
  unfold enumD
  rw [List.length_zipWith, List.length_range, Nat.min_self]
variable {elts : List Expr} {kk : Nat} {tpos : Pos}
theorem wE_enum (hg : Gl X "enumerate") (hm : X.mg "enumerate" = none) (ha : PE X a (tL X.K C l)) (hs : starEach [a] X.env = [(false, eval a X.env)] := by rfl) : PI X (.Tuple elts kk tpos) (.Call (.Name "enumerate" p1) [a] [] pos) (tWE X.K C false (wEnum l)) :=
  pi_imp (pi_enum hg hm (pa_cons ha pa_nil hs) hs) fun σ H R ⟨O, ρ, Rp, q⟩ => by
  refine ⟨O, ρ, Rp, (Fin.bind q).imp fun ds _ q1 p vs H1 x1 s1 al => ?_⟩
  refine ⟨p, vs, rfl, s1, (show ∀ J H', Gx C.T H H' → ItOkE false X.K C.T O H' J (enumD ds) → R J H' from q1) _ H1 x1 fun O' H' x xh ali i => ?_⟩
  have s := ex_l x.ex s1
  rw [len_enum]
  refine ⟨fun hi => ?_, fun hi => ⟨vs, s, by rw [al.len]; exact hi⟩⟩
  obtain ⟨v, h1, h2⟩ := al.get (List.getElem?_eq_getElem hi)
  refine ⟨⟨vs, v, s, h1⟩, fun y H3 hy => ?_⟩
  obtain ⟨T, x', rfl, nT, rfl, hy⟩ := hy
  have e : x' = v := Option.some.inj ((hy vs s).symm.trans h1)
  subst e
  exact ⟨Gx.new nT, _, get_enum ds i _ (List.getElem?_eq_getElem hi), .inr ⟨rfl, _, _, _, rfl, rfl, SqT.of upd_same, .cons (.int _) (.cons (Dp.mono (xh.trans (hid_mono (τ := []) (Gx.new nT))) h2) .nil)⟩⟩
theorem get_zip (a b : List PyData) (i : Nat) (d e : PyData) (h : a[i]? = some d) (h2 : b[i]? = some e) : (zipD a b)[i]? = some (.tuple [d, e]) := by
  unfold zipD
  rw [List.getElem?_zipWith, h, h2]
theorem wE_zip (hg : Gl X "zip") (hm : X.mg "zip" = none) (ha : PE X a (tL X.K C l)) (hb : PE X b (tL X.K C m)) (hs : starEach [a, b] X.env = (false, eval a X.env) :: starEach [b] X.env := by rfl) (hs2 : starEach [b] X.env = [(false, eval b X.env)] := by rfl) : PI X (.Tuple elts kk tpos) (.Call (.Name "zip" p1) [a, b] [] pos) (tWE X.K C false (wZip l m)) :=
  pi_imp (pi_zip hg hm (pa_cons ha (pa_cons hb pa_nil hs2) hs) hs (by rw [hs2]; rfl)) fun σ H R ⟨O, ρ, Rp, q⟩ => by
  refine ⟨O, ρ, Rp, (Fin.bind q).imp fun ds _ q1 p vs H1 x1 s1 al => ?_⟩
  refine ⟨O, ρ, Rp.grow x1, ((Fin.bind q1).grow x1).imp fun es _ q2 r ws H2 x2 s2 bl => ?_⟩
  refine ⟨p, r, vs, ws, rfl, ex_l x2 s1, s2, (show ∀ J H', Gx C.T H H' → ItOkE false X.K C.T O H' J (zipD ds es) → R J H' from q2) _ H2 (x1.trans x2) fun O' H' x xh ali i => ?_⟩
  have sa := ex_l (x2.trans x).ex s1
  have sb := ex_l x.ex s2
  have hl : (zipD ds es).length = min ds.length es.length := by unfold zipD; rw [List.length_zipWith]
  rw [hl]
  refine ⟨fun hi => ?_, fun hi => ⟨vs, ws, sa, sb, by rw [al.len, bl.len]; omega⟩⟩
  have h1 : i < ds.length := by omega
  have h2 : i < es.length := by omega
  obtain ⟨v, a1, a2⟩ := al.get (List.getElem?_eq_getElem h1)
  obtain ⟨u, b1, b2⟩ := bl.get (List.getElem?_eq_getElem h2)
  refine ⟨⟨vs, ws, v, u, sa, sb, a1, b1⟩, fun y H3 hy => ?_⟩
  obtain ⟨T, x', y', rfl, nT, rfl, hy1, hy2⟩ := hy
  have e1 : x' = v := Option.some.inj ((hy1 vs sa).symm.trans a1)
  have e2 : y' = u := Option.some.inj ((hy2 ws sb).symm.trans b1)
  subst e1 e2
  exact ⟨Gx.new nT, _, get_zip ds es i _ _ (List.getElem?_eq_getElem h1) (List.getElem?_eq_getElem h2), .inr ⟨rfl, _, _, _, rfl, rfl, SqT.of upd_same, .cons (Dp.mono ((hid_mono x2).trans (xh.trans (hid_mono (τ := []) (Gx.new nT)))) a2) (.cons (Dp.mono (xh.trans (hid_mono (τ := []) (Gx.new nT))) b2) .nil)⟩⟩

/-! ### targets -/
section
variable {K : PySem.W.Frag} {O O' : List Addr} {H H' : Hp} {σ : L2.St} {ρ : Env}
theorem Rep.set (R : Rep K C O H σ ρ) {i : Nat} {v : V} {d : PyData} (h : Dp K (hid O H) v d) : Rep K C O H (σ.set i (some v)) (ρ.set i (some (.fz d))) where
  ex := R.ex
  o0 := R.o0
  sub := R.sub
  alive := R.alive
  len := by rw [List.length_set, List.length_set]; exact R.len
  slot := fun j s e => by
    by_cases hj : j = i
    · subst hj
      have hl : j < ρ.length := by
        have := (List.getElem?_eq_some_iff.mp e).1
        rw [List.length_set] at this
        exact this
      rw [List.getElem?_set_self hl] at e
      cases e
      exact ⟨v, by rw [List.getElem?_set_self (by rw [R.len]; exact hl)], h⟩
    · rw [List.getElem?_set_ne (Ne.symm hj)] at e
      rw [List.getElem?_set_ne (Ne.symm hj)]
      exact R.slot j s e
  apart := fun j k s t p hjk e1 o1 e2 e3 o3 e4 => by
    by_cases hj : j = i
    · subst hj
      have hl : j < ρ.length := by
        have := (List.getElem?_eq_some_iff.mp e1).1
        rw [List.length_set] at this
        exact this
      rw [List.getElem?_set_self hl] at e1
      cases e1
      cases o1
    · by_cases hk : k = i
      · subst hk
        have hl : k < ρ.length := by
          have := (List.getElem?_eq_some_iff.mp e3).1
          rw [List.length_set] at this
          exact this
        rw [List.getElem?_set_self hl] at e3
        cases e3
        cases o3
      · rw [List.getElem?_set_ne (Ne.symm hj)] at e1 e2
        rw [List.getElem?_set_ne (Ne.symm hk)] at e3 e4
        exact R.apart j k s t p hjk e1 o1 e2 e3 o3 e4
theorem Rep.back0 (R : Rep K C O H σ ρ) {q : Addr} (h : H q = none) : C.H0 q = none := by
  cases e : C.H0 q with
  | none => rfl
  | some o => exact absurd h (R.ex.tb q o e)
theorem Rep.setG (R : Rep K C O H σ ρ) {i : Nat} {v : V} {dss : List (List PyData)} (h : OoF K C.H0 (hid O H) v dss) : Rep K C O H (σ.set i (some v)) (ρ.set i (some (.oo dss))) where
  ex := R.ex
  o0 := R.o0
  sub := R.sub
  alive := R.alive
  len := by rw [List.length_set, List.length_set]; exact R.len
  slot := fun j s e => by
    by_cases hj : j = i
    · subst hj
      have hl : j < ρ.length := by
        have := (List.getElem?_eq_some_iff.mp e).1
        rw [List.length_set] at this
        exact this
      rw [List.getElem?_set_self hl] at e
      cases e
      exact ⟨v, by rw [List.getElem?_set_self (by rw [R.len]; exact hl)], h⟩
    · rw [List.getElem?_set_ne (Ne.symm hj)] at e
      rw [List.getElem?_set_ne (Ne.symm hj)]
      exact R.slot j s e
  apart := fun j k s t p hjk e1 o1 e2 e3 o3 e4 => by
    by_cases hj : j = i
    · subst hj
      have hl : j < ρ.length := by
        have := (List.getElem?_eq_some_iff.mp e1).1
        rw [List.length_set] at this
        exact this
      rw [List.getElem?_set_self hl] at e1
      cases e1
      cases o1
    · by_cases hk : k = i
      · subst hk
        have hl : k < ρ.length := by
          have := (List.getElem?_eq_some_iff.mp e3).1
          rw [List.length_set] at this
          exact this
        rw [List.getElem?_set_self hl] at e3
        cases e3
        cases o3
      · rw [List.getElem?_set_ne (Ne.symm hj)] at e1 e2
        rw [List.getElem?_set_ne (Ne.symm hk)] at e3 e4
        exact R.apart j k s t p hjk e1 o1 e2 e3 o3 e4
/-- less is known -/
theorem Rep.weak (R : Rep K C O H σ ρ) {σ' : L2.St} {ρ' : Env} (hl : σ'.length = ρ'.length) (h : ∀ (i : Nat) s, ρ'[i]? = some (some s) → ρ[i]? = some (some s) ∧ σ'[i]? = σ[i]?) : Rep K C O H σ' ρ' where
  ex := R.ex
  o0 := R.o0
  sub := R.sub
  alive := R.alive
  len := hl
  slot := fun j s e => by
    obtain ⟨e1, e2⟩ := h j s e
    rw [e2]
    exact R.slot j s e1
  apart := fun j k s t p hjk e1 o1 e2 e3 o3 e4 => by
    obtain ⟨a1, a2⟩ := h j s e1
    obtain ⟨b1, b2⟩ := h k t e3
    rw [a2] at e2
    rw [b2] at e4
    exact R.apart j k s t p hjk a1 o1 e2 b1 o3 e4
theorem wp_some {ρ : Env} {i : Nat} {s : SL} : ∀ {ws : List Nat}, (wp ws ρ)[i]? = some (some s) → ρ[i]? = some (some s) ∧ i ∉ ws
  | [], h => ⟨h, by simp⟩
  | v :: vs, h => by
    unfold wp at h
    by_cases hi : v = i
    · subst hi
      by_cases hv : v < (wp vs ρ).length
      · rw [List.getElem?_set_self hv] at h; cases h
      · rw [List.getElem?_eq_none (by rw [List.length_set]; omega)] at h; cases h
    · rw [List.getElem?_set_ne hi] at h
      obtain ⟨h1, h2⟩ := wp_some h
      exact ⟨h1, by simp only [List.mem_cons, not_or]; exact ⟨fun e => hi e.symm, h2⟩⟩
theorem wp_len {ρ : Env} : ∀ {ws : List Nat}, (wp ws ρ).length = ρ.length
  | [] => rfl
  | v :: vs => by unfold wp; rw [List.length_set, wp_len]
/-- the value keeps its slot, the plain state forgets it -/
theorem Rep.wp (R : Rep K C O H σ ρ) {ws : List Nat} : Rep K C O H σ (wp ws ρ) := R.weak (by rw [wp_len]; exact R.len) fun i s e => ⟨(wp_some e).1, rfl⟩
theorem wipe_at {σ : L2.St} {i : Nat} : ∀ {ws : List Nat}, i ∉ ws → (wipe σ ws)[i]? = σ[i]? := wipe_out
/-- .. both forget it -/
theorem Rep.wipe (R : Rep K C O H σ ρ) {ws : List Nat} : Rep K C O H (L2.wipe σ ws) (PL.wp ws ρ) := R.weak (by rw [wp_len, wipe_length]; exact R.len) fun i s e => ⟨(wp_some e).1, wipe_at (wp_some e).2⟩
end
/-- a target's plain form; ts: the slots that it stores -/
def TgOk (s : Bool) (K : PySem.W.Frag) (C : PC) (g : TG) (tg : TGT) (ts : List Nat) : Prop := ∀ (v : V) (d : PyData) (O : List Addr) (H : Hp) (σ : L2.St) (ρ ρ' : Env) (Q : L2.St → Hp → Prop), Rep K C O H σ ρ → DpB s K O H v d → tg d ρ = some ρ' →
  (∀ σ', Rep K C O H σ' ρ' → (∀ ws : List Nat, (∀ t ∈ ts, t ∈ ws) → wipe σ' ws = wipe σ ws) → Q σ' H) → g v σ H Q
theorem wipe_get (σ : L2.St) (j : Nat) : ∀ ws : List Nat, (wipe σ ws)[j]? = if j ∈ ws ∧ j < σ.length then some none else σ[j]?
  | [] => by simp [wipe]
  | v :: vs => by
    unfold wipe
    by_cases hv : v = j
    · subst hv
      by_cases hl : v < σ.length
      · rw [List.getElem?_set_self (by rw [wipe_length]; exact hl), if_pos ⟨List.mem_cons_self, hl⟩]
      · rw [if_neg (fun z => hl z.2), List.getElem?_eq_none (by rw [List.length_set, wipe_length]; omega), List.getElem?_eq_none (by omega)]
    · rw [List.getElem?_set_ne hv, wipe_get σ j vs]
      by_cases hm : j ∈ vs ∧ j < σ.length
      · rw [if_pos hm, if_pos ⟨List.mem_cons_of_mem _ hm.1, hm.2⟩]
      · rw [if_neg hm, if_neg (fun z => hm ⟨(List.mem_cons.mp z.1).resolve_left (fun e => hv e.symm), z.2⟩)]
theorem wipe_set {σ : L2.St} {i : Nat} {x : Option V} {ws : List Nat} (h : i ∈ ws) : wipe (σ.set i x) ws = wipe σ ws := by
  refine List.ext_getElem? fun j => ?_
  rw [wipe_get, wipe_get, List.length_set]
  by_cases hj : j ∈ ws ∧ j < σ.length
  · rw [if_pos hj, if_pos hj]
  · rw [if_neg hj, if_neg hj]
    by_cases e : i = j
    · subst e
      have hl : ¬ i < σ.length := fun z => hj ⟨h, z⟩
      rw [List.getElem?_eq_none (by rw [List.length_set]; omega), List.getElem?_eq_none (by omega)]
    · rw [List.getElem?_set_ne e]
theorem tg_name {K : PySem.W.Frag} (i : Nat) : TgOk true K C (gName i) (tgN i) [i] := fun v d O H σ ρ ρ' Q R p e k => by
  cases e
  exact k _ (R.set p.st) fun ws hw => wipe_set (hw i List.mem_cons_self)
theorem tg_pair {K : PySem.W.Frag} {s : Bool} (i j : Nat) : TgOk s K C (gTup K 2 (gCons (gName i) (gCons (gName j) gNil))) (tgP i j) [i, j] := fun v d O H σ ρ ρ' Q R p e k => by
  unfold tgP at e
  split at e
  · rename_i x y
    cases e
    obtain ⟨a, vs, rfl, s, al⟩ := DpB.tup p
    cases al with
    | cons h1 t =>
      cases t with
      | cons h2 t =>
        cases t
        exact ⟨a, _, rfl, s, rfl, _, _, rfl, _, _, rfl, rfl, k _ ((R.set h1).set h2) fun ws hw => by
          rw [wipe_set (hw j (List.mem_cons_of_mem _ List.mem_cons_self)), wipe_set (hw i List.mem_cons_self)]⟩
  · cases e

/-! ### comprehensions -/
theorem hid_more {O : List Addr} {H H' : Hp} {D : Addr} (x : Gx C.T H H') (h : H D = none) : Ex (hid O H) (hid (D :: O) H') := fun b u e n => by
  obtain ⟨hb, e'⟩ := hid_of e
  exact hid_out (by simp only [List.mem_cons, not_or]; exact ⟨ne_of_none e' h, hb⟩) (x.ex b u e' n) (hid_of3 e).2.2
theorem Rep.more {K : PySem.W.Frag} {O : List Addr} {H H' : Hp} {σ : L2.St} {ρ : Env} {D : Addr} (R : Rep K C O H σ ρ) (x : Gx C.T H H') (h : H D = none) (hD : H' D ≠ none) : Rep K C (D :: O) H' σ ρ where
  ex := R.ex.grow x
  o0 := R.o0
  sub := fun b hb => List.mem_cons_of_mem _ (R.sub b hb)
  alive := fun b hb e => by
    rcases List.mem_cons.mp hb with rfl | hb
    · exact hD e
    · exact R.alive b hb (fresh_back x e)
  len := R.len
  slot := fun i s e => by
    obtain ⟨v, h1, h2⟩ := R.slot i s e
    refine ⟨v, h1, ?_⟩
    have xm : Ex (hid O H) (hid (D :: O) H') := hid_more x h
    cases s with
    | fz d => exact Dp.mono xm h2
    | ow ds => obtain ⟨p, vs, a, b, c, d, e⟩ := h2; exact ⟨p, vs, a, List.mem_cons_of_mem _ b, c, x.ex _ _ d rfl, DpAll.mono xm e⟩
    | bw ds => obtain ⟨p, vs, a, b, c, e⟩ := h2; exact ⟨p, vs, a, b, c, DpAll.mono xm e⟩
    | dow ds => obtain ⟨p, vs, a, b, c, d, e⟩ := h2; exact ⟨p, vs, a, List.mem_cons_of_mem _ b, c, x.ex _ _ d rfl, KvAll.mono xm e⟩
    | dbw ds => obtain ⟨p, vs, a, b, c, e⟩ := h2; exact ⟨p, vs, a, b, c, KvAll.mono xm e⟩
    | er n => exact h2
    | mw ds => obtain ⟨p, vs, a, b, c, d, e⟩ := h2; exact ⟨p, vs, a, List.mem_cons_of_mem _ b, c, x.ex _ _ d rfl, DpAll.mono xm e⟩
    | og ds => obtain ⟨p, vs, a, b, c, d, e⟩ := h2; exact ⟨p, vs, a, List.mem_cons_of_mem _ b, c, x.ex _ _ d rfl, e.mono xm⟩
    | oo ds => exact OoF.mono xm h2
    | hd ds => exact HdF.mono xm h2
  apart := R.apart
theorem wipe_idem (σ : L2.St) (vs : List Nat) : wipe (wipe σ vs) vs = wipe σ vs := by
  refine List.ext_getElem? fun j => ?_
  rw [wipe_get, wipe_get, wipe_length]
  by_cases hj : j ∈ vs ∧ j < σ.length
  · rw [if_pos hj, if_pos hj]
  · rw [if_neg hj]
abbrev PC.blk (C : PC) : PC := { C with W := fun _ _ _ _ => False }
theorem Rep.blk {K : PySem.W.Frag} {O : List Addr} {H : Hp} {σ : L2.St} {ρ : Env} (R : Rep K C O H σ ρ) : Rep K C.blk O H σ ρ := ⟨R.ex, R.o0, R.sub, R.alive, R.len, R.slot, R.apart⟩
variable {tg' : TGT} {ts : List Nat} {tt : BE} {el : VE} {wl : LE}
theorem lcGo_run {sg : Bool} {K : PySem.W.Frag} {O : List Addr} {H1 : Hp} {J : It} {ds : List PyData} {g : TG} {σ : L2.St} {ρ : Env} {vs : List Nat} {D : Addr} {Qd : Hp → Prop}
    (R : Rep K C O H1 σ ρ) (hD : H1 D = none) (it : ItOkE sg K C.T O H1 J ds) (hg : TgOk sg K C.blk g tg' ts) (hts : ∀ x ∈ ts, x ∈ vs) (hlen : ds.length < 1000000)
    {ys : List PyData} (hgo : lcGo tg' tt el (wp vs ρ) ds = .ok ys) (hd : ∀ H' us, Gx C.T H1 H' → H' D = some (.lst us) → DpAll K (hid (D :: O) H') us ys → Qd H') :
    ∃ W : Nat → Nat → Hp → Prop, (∃ m, W 0 m (upd H1 D (.lst []))) ∧ ∀ i m H, W i m H →
      (J.stop i H ∧ Qd H) ∨ (J.go i H ∧ ∃ Nx : Hp → Prop, (∀ H', Nx H' → ∃ m', m' < m ∧ W (i + 1) m' H') ∧ ∀ x H', J.yld i H x H' → g x (wipe σ vs) H' fun σ2 H2 => wipe σ2 vs = wipe σ vs ∧ tT K C.blk tt σ2 H2 fun b H3 =>
        if b = true then tV K C.blk el σ2 H3 fun y H4 => ∃ acc, H4 D = some (.lst acc) ∧ acc.length < sizeLine ∧ Nx (upd H4 D (.lst (acc ++ [y]))) else Nx H3) := by
  refine ⟨fun i m H => m = ds.length - i ∧ i ≤ ds.length ∧ Gx C.T H1 H ∧ ∃ us zs rest, H D = some (.lst us) ∧ DpAll K (hid (D :: O) H) us zs ∧ us.length ≤ i ∧ lcGo tg' tt el (wp vs ρ) (ds.drop i) = .ok rest ∧ ys = zs ++ rest,
    ⟨ds.length, rfl, Nat.zero_le _, Gx.new hD, [], [], ys, upd_same, .nil, Nat.le_refl _, hgo, rfl⟩, ?_⟩
  rintro i m H ⟨rfl, hi, ex, us, zs, rest, hDl, al, hus, hgo', hys⟩
  have RD : Rep K C (D :: O) H σ ρ := R.more ex hD (by rw [hDl]; intro z; cases z)
  obtain ⟨it1, it2⟩ := it (D :: O) H ex (hid_more ex hD) RD.alive i
  by_cases hlt : i < ds.length
  · obtain ⟨hgo1, hy⟩ := it1 hlt
    refine .inr ⟨hgo1, fun H' => Gx C.T H1 H' ∧ ∃ us zs rest, H' D = some (.lst us) ∧ DpAll K (hid (D :: O) H') us zs ∧ us.length ≤ i + 1 ∧ lcGo tg' tt el (wp vs ρ) (ds.drop (i + 1)) = .ok rest ∧ ys = zs ++ rest,
      fun H' ⟨h1, h2⟩ => ⟨ds.length - (i + 1), by omega, rfl, hlt, h1, h2⟩, fun x H' yl => ?_⟩
    obtain ⟨ex2, d, hd1, hd2⟩ := hy x H' yl
    have hdrop : ds.drop i = d :: ds.drop (i + 1) := by
      rw [List.drop_eq_getElem_cons hlt]
      congr 1
      rw [List.getElem?_eq_getElem hlt] at hd1
      exact Option.some.inj hd1
    rw [hdrop] at hgo'
    unfold lcGo at hgo'
    cases ht : tg' d (wp vs ρ) with
    | none => rw [ht] at hgo'; cases hgo'
    | some ρ1 =>
      rw [ht] at hgo'
      have hgo1 : ((tt ρ1).bind fun b => if b = true then (el ρ1).bind fun y => (lcGo tg' tt el (wp vs ρ) (ds.drop (i + 1))).bind fun ys => .ok (y :: ys) else lcGo tg' tt el (wp vs ρ) (ds.drop (i + 1))) = Out.ok rest := hgo'
      have R1 : Rep K C.blk (D :: O) H' (wipe σ vs) (wp vs ρ) := (RD.blk.wipe).grow ex2
      refine hg x d (D :: O) H' (wipe σ vs) _ ρ1 _ R1 hd2 ht fun σ' R2 hwp => ?_
      refine ⟨by rw [hwp vs hts, wipe_idem], ?_⟩
      refine ⟨D :: O, ρ1, R2, ?_⟩
      cases hb : tt ρ1 with
      | exc n => rw [hb] at hgo1; cases hgo1
      | stuck => rw [hb] at hgo1; cases hgo1
      | ok b =>
        rw [hb] at hgo1
        refine fun H3 x3 => ?_
        have exD : H3 D = some (.lst us) := x3.ex _ _ (ex2.ex _ _ hDl rfl) rfl
        have al3 : DpAll K (hid (D :: O) H3) us zs := DpAll.mono (hid_mono (ex2.trans x3)) al
        cases b with
        | false =>
          exact iteF ⟨(ex.trans ex2).trans x3, us, zs, rest, exD, al3, by omega, hgo1, hys⟩
        | true =>
          refine iteT ⟨D :: O, ρ1, R2.grow x3, ?_⟩
          have hgo2 : ((el ρ1).bind fun y => (lcGo tg' tt el (wp vs ρ) (ds.drop (i + 1))).bind fun ys => .ok (y :: ys)) = Out.ok rest := hgo1
          cases he : el ρ1 with
          | exc n => rw [he] at hgo2; cases hgo2
          | stuck => rw [he] at hgo2; cases hgo2
          | ok y =>
            rw [he] at hgo2
            have hgo3 : ((lcGo tg' tt el (wp vs ρ) (ds.drop (i + 1))).bind fun ys => .ok (y :: ys)) = Out.ok rest := hgo2
            cases hr : lcGo tg' tt el (wp vs ρ) (ds.drop (i + 1)) with
            | exc n => rw [hr] at hgo3; cases hgo3
            | stuck => rw [hr] at hgo3; cases hgo3
            | ok rest' =>
              rw [hr] at hgo3
              cases hgo3
              refine fun v H4 x4 p4 => ⟨us, x4.ex _ _ exD rfl, Nat.lt_of_lt_of_le (Nat.lt_of_le_of_lt (Nat.le_trans hus hi) hlen) (by rw [sizeLine_eq]; decide), Gx.mut (((ex.trans ex2).trans x3).trans x4) hD (x4.ex _ _ exD rfl), us ++ [v], zs ++ [y], rest', upd_same, ?_, by
                rw [List.length_append]
                show us.length + 1 ≤ i + 1
                omega, rfl, by rw [hys, List.append_assoc]; rfl⟩
              rw [hid_upd List.mem_cons_self]
              exact (DpAll.mono (hid_mono x4) al3).append (.cons p4 .nil)
  · have hie : i = ds.length := by omega
    subst hie
    refine .inl ⟨it2 (Nat.le_refl _), ?_⟩
    rw [List.drop_length] at hgo'
    cases hgo'
    rw [List.append_nil] at hys
    subst hys
    exact hd H us ex hDl al
theorem lc_t {sg : Bool} {K : PySem.W.Frag} {g : TG} {σ : L2.St} {H : Hp} {Q : VK} {vs : List Nat} (hg : TgOk sg K C.blk g tg' ts) (hts : ∀ x ∈ ts, x ∈ vs) (q : tF K C (lComp wl tg' vs tt el) σ H Q) : tLc (tWE K C sg wl) g (tT K C.blk tt) (tV K C.blk el) vs σ H Q := by
  obtain ⟨O, ρ, R, q⟩ := q
  refine ⟨O, ρ, R, (Fin.bind q).imp fun ds _ q1 J H1 x1 it D nD => ?_⟩
  by_cases hlen : ds.length < 1000000
  · cases hgo : lcGo tg' tt el (wp vs ρ) ds with
    | ok ys =>
      have q2 : ∀ p vs H', Gx C.T H H' → H p = none → H' p = some (.lst vs) → DpAll K (hid (p :: O) H') vs ys → Q (.ref p) H' := by
        have q3 := q1
        simp only [Fin, if_pos hlen, hgo] at q3
        exact q3
      exact lcGo_run (R.grow x1) nD it hg hts hlen hgo fun H' us x2 a b => q2 D us H' (x1.trans x2) (fresh_back x1 nD) a b
    | exc n =>
      have q3 := q1
      simp only [Fin, if_pos hlen, hgo, noExc] at q3
    | stuck =>
      have q3 := q1
      simp only [Fin, if_pos hlen, hgo, noExc] at q3
  · have q3 := q1
    simp only [Fin, if_neg hlen] at q3
/-- [elt for target in iter if ..] -/
theorem f_lc {sg : Bool} {elt iter : Expr} {ifs : List Expr} {scope : Scope} {own : List (Str × Nat)} {g : TG} (hc : X.calm = true) (hN : X.N.Nodup) (hi : PI X tg iter (tWE X.K C sg wl)) (hgt : TgOk sg X.K C.blk g tg' ts) (ok : BlkOk X.N X.env.scope scope own) (hts : ∀ x ∈ ts, x ∈ own.map (·.2))
    (hg : ∀ (s : Shared) (H : Hp) (C : Addr) (cl : List (Str × Addr)) (fp : List Addr), PG (X.blk s H scope (compEnvC scope cl C X.env) fp) tg g) (ht : ∀ (s : Shared) (H : Hp) (C' : Addr) (cl : List (Str × Addr)) (fp : List Addr), PTs (X.blk s H scope (compEnvC scope cl C' X.env) fp) ifs (tT X.K C.blk tt))
    (he : ∀ (s : Shared) (H : Hp) (C' : Addr) (cl : List (Str × Addr)) (fp : List Addr), PE (X.blk s H scope (compEnvC scope cl C' X.env) fp) elt (tV X.K C.blk el)) (hs : ∀ x, foldedSetIterable iter X.env x = pure x := by intro _; rfl) :
    PE X (.ListComp elt [⟨tg, iter, ifs, 0⟩] scope pos) (tF X.K C (lComp wl tg' (own.map (·.2)) tt el)) := pe_imp (pe_lc hc hN hi ok hg ht he hs) fun σ H Q q => lc_t hgt hts q
theorem ts_nil : PTs X [] (tT X.K C bYes) := pts_imp pts_nil fun σ H Q ⟨O, ρ, R, q⟩ => (show ∀ H', Gx C.T H H' → Q true H' from q) H (Gx.refl H)
theorem ts_one {c : Expr} (h : PT X c (tT X.K C tt)) : PTs X [c] (tT X.K C tt) := pts_one h
/-- nothing is taken within a comprehension -/
theorem wk_blk {s : Shared} {H : Hp} {scope : Scope} {ce : PySem.Env} {fp : List Addr} : Wk (X.blk s H scope ce fp) C.blk := fun σ pins H s e s' I ⟨a, B, H', cls, d, h1, h2, h3, h4, h5, h6, h7, h8⟩ => h8.elim
end
end PL

/-! PL6: statements, loops, defs. -/
namespace PL
open PySem L2
section
variable (K : PySem.W.Frag) (C : PC)
/-- what a body hands back, at its end -/
def RetV (O : List Addr) (H : Hp) (v : V) : RV → Prop
  | .val d => Dp K (hid O H) v d
  | .fresh ds => ∃ p vs, v = .ref p ∧ C.H0 p = none ∧ H p = some (.lst vs) ∧ DpAll K (hid (p :: O) H) vs ds
  | .dfresh kvs => ∃ p vs, v = .ref p ∧ C.H0 p = none ∧ H p = some (.dT vs) ∧ KvAll K (hid (p :: O) H) vs kvs
  | .gfresh dss => ∃ p qs, v = .ref p ∧ C.H0 p = none ∧ H p = some (.lst (qs.map V.ref)) ∧ Oo K C.H0 (hid (p :: O) H) qs dss
def Post (D : Ends) (O : List Addr) (H : Hp) : SO → Prop
  | .nx ρ' => ∀ σ' O' H', Rep K C O' H' σ' ρ' → Ex (hid O H) (hid O' H') → D.nx σ' H'
  | .bk ρ' => ∀ σ' O' H', Rep K C O' H' σ' ρ' → Ex (hid O H) (hid O' H') → D.bk σ' H'
  | .ct ρ' => ∀ σ' O' H', Rep K C O' H' σ' ρ' → Ex (hid O H) (hid O' H') → D.ct σ' H'
  | .rt r ρ' => ∀ v σ' O' H', Rep K C O' H' σ' ρ' → Ex (hid O H) (hid O' H') → RetV K C O' H' v r → D.rt v H'
  | .ex n ρ' => ∀ σ' O' H', Rep K C O' H' σ' ρ' → Ex (hid O H) (hid O' H') → C.W (C.cv n) none σ' H'
  | .stuck => False
def tS (g : SE) : TS := fun D σ H => ∃ O ρ, Rep K C O H σ ρ ∧ Post K C D O H (g ρ)
end
section
variable {K : PySem.W.Frag} {C : PC} {O O' : List Addr} {H H' : Hp} {σ : L2.St} {ρ : Env} {D : Ends}
theorem Post.grow {s : SO} (h : Post K C D O H s) (x : Ex (hid O H) (hid O' H')) : Post K C D O' H' s := by
  cases s with
  | nx ρ' => exact fun σ' O2 H2 R x2 => h σ' O2 H2 R (x.trans x2)
  | bk ρ' => exact fun σ' O2 H2 R x2 => h σ' O2 H2 R (x.trans x2)
  | ct ρ' => exact fun σ' O2 H2 R x2 => h σ' O2 H2 R (x.trans x2)
  | rt r ρ' => exact fun v σ' O2 H2 R x2 => h v σ' O2 H2 R (x.trans x2)
  | ex n ρ' => exact fun σ' O2 H2 R x2 => h σ' O2 H2 R (x.trans x2)
  | stuck => exact h
/-- an expression's end in a statement -/
theorem Post.fin {α : Type} {o : Out α} {f : α → SO} {k : α → Prop} (R : Rep K C O H σ ρ) (h : Post K C D O H (wOut o ρ f)) (i : ∀ a, o = .ok a → Post K C D O H (f a) → k a) : Fin C σ H o k := by
  cases o with
  | ok a => exact i a rfl h
  | exc n => exact fun H' x => h σ O H' (R.grow x) (hid_mono x)
  | stuck => exact h
theorem Post.then {s : SO} {f : SE} {D' : Ends} (h : Post K C D O H (s.then f)) (hn : ∀ ρ' σ' O' H', Rep K C O' H' σ' ρ' → Post K C D O' H' (f ρ') → D'.nx σ' H') (hb : D'.bk = D.bk) (hc : D'.ct = D.ct) (hr : D'.rt = D.rt) : Post K C D' O H s := by
  cases s with
  | nx ρ' => exact fun σ' O2 H2 R x2 => hn ρ' σ' O2 H2 R (Post.grow h x2)
  | bk ρ' => rw [show Post K C D' O H (.bk ρ') = _ from rfl]; intro σ' O2 H2 R x2; rw [hb]; exact h σ' O2 H2 R x2
  | ct ρ' => rw [show Post K C D' O H (.ct ρ') = _ from rfl]; intro σ' O2 H2 R x2; rw [hc]; exact h σ' O2 H2 R x2
  | rt r ρ' => rw [show Post K C D' O H (.rt r ρ') = _ from rfl]; intro v σ' O2 H2 R x2 q; rw [hr]; exact h v σ' O2 H2 R x2 q
  | ex n ρ' => exact h
  | stuck => exact h
/-- a fresh list becomes an own one -/
theorem Rep.setO (R : Rep K C O H σ ρ) {i : Nat} {p : Addr} {vs : List V} {ds : List PyData} (x : Gx C.T H H') (n : H p = none) (h : H' p = some (.lst vs)) (a : DpAll K (hid (p :: O) H') vs ds) (nM : p ∉ C.M) : Rep K C (p :: O) H' (σ.set i (some (.ref p))) (ρ.set i (some (.ow ds))) := by
  have R1 : Rep K C (p :: O) H' σ ρ := R.more x n (by rw [h]; intro z; cases z)
  refine ⟨R1.ex, R1.o0, R1.sub, R1.alive, by rw [List.length_set, List.length_set]; exact R.len, fun j s e => ?_, fun j k s t q hjk e1 o1 e2 e3 o3 e4 => ?_⟩
  · by_cases hj : j = i
    · subst hj
      have hl : j < ρ.length := by
        have := (List.getElem?_eq_some_iff.mp e).1
        rw [List.length_set] at this
        exact this
      rw [List.getElem?_set_self hl] at e
      cases e
      refine ⟨.ref p, by rw [List.getElem?_set_self (by rw [R.len]; exact hl)], p, vs, rfl, List.mem_cons_self, .inl ?_, h, a⟩
      cases q : C.H0 p with
      | none => rfl
      | some o =>
        exact absurd n (R.ex.tb p o q)
    · rw [List.getElem?_set_ne (Ne.symm hj)] at e
      rw [List.getElem?_set_ne (Ne.symm hj)]
      exact R1.slot j s e
  · have old : ∀ (j : Nat) (s : SL), ρ[j]? = some (some s) → ownS s = true → σ[j]? = some (some (.ref p)) → False := fun j s e1 o1 e2 => by
      obtain ⟨v, h1, h2⟩ := R.slot j s e1
      rw [e2] at h1
      cases h1
      cases s with
      | ow ds => obtain ⟨p', vs', e, b, _⟩ := h2; cases e; exact R.alive _ b n
      | dow ds => obtain ⟨p', vs', e, b, _⟩ := h2; cases e; exact R.alive _ b n
      | mw ds => obtain ⟨p', vs', e, b, _⟩ := h2; cases e; exact R.alive _ b n
      | og ds => obtain ⟨p', vs', e, b, _⟩ := h2; cases e; exact R.alive _ b n
      | _  => cases o1
    by_cases hj : j = i
    · subst hj
      have hl : j < ρ.length := by
        have := (List.getElem?_eq_some_iff.mp e1).1
        rw [List.length_set] at this
        exact this
      rw [List.getElem?_set_self (by rw [R.len]; exact hl)] at e2
      cases e2
      rw [List.getElem?_set_ne hjk] at e3 e4
      exact old k t e3 o3 e4
    · by_cases hk : k = i
      · subst hk
        have hl : k < ρ.length := by
          have := (List.getElem?_eq_some_iff.mp e3).1
          rw [List.length_set] at this
          exact this
        rw [List.getElem?_set_self (by rw [R.len]; exact hl)] at e4
        cases e4
        rw [List.getElem?_set_ne (Ne.symm hj)] at e1 e2
        exact old j s e1 o1 e2
      · rw [List.getElem?_set_ne (Ne.symm hj)] at e1 e2
        rw [List.getElem?_set_ne (Ne.symm hk)] at e3 e4
        exact R.apart j k s t q hjk e1 o1 e2 e3 o3 e4
/-- .. a fresh dict -/
theorem Rep.setOD (R : Rep K C O H σ ρ) {i : Nat} {p : Addr} {vs : List (List Key × V)} {kvs : List (List Int × PyData)} (x : Gx C.T H H') (n : H p = none) (h : H' p = some (.dT vs)) (a : KvAll K (hid (p :: O) H') vs kvs) (nM : p ∉ C.M) : Rep K C (p :: O) H' (σ.set i (some (.ref p))) (ρ.set i (some (.dow kvs))) := by
  have R1 : Rep K C (p :: O) H' σ ρ := R.more x n (by rw [h]; intro z; cases z)
  refine ⟨R1.ex, R1.o0, R1.sub, R1.alive, by rw [List.length_set, List.length_set]; exact R.len, fun j s e => ?_, fun j k s t q hjk e1 o1 e2 e3 o3 e4 => ?_⟩
  · by_cases hj : j = i
    · subst hj
      have hl : j < ρ.length := by
        have := (List.getElem?_eq_some_iff.mp e).1
        rw [List.length_set] at this
        exact this
      rw [List.getElem?_set_self hl] at e
      cases e
      refine ⟨.ref p, by rw [List.getElem?_set_self (by rw [R.len]; exact hl)], p, vs, rfl, List.mem_cons_self, .inl ?_, h, a⟩
      cases q : C.H0 p with
      | none => rfl
      | some o =>
        exact absurd n (R.ex.tb p o q)
    · rw [List.getElem?_set_ne (Ne.symm hj)] at e
      rw [List.getElem?_set_ne (Ne.symm hj)]
      exact R1.slot j s e
  · have old : ∀ (j : Nat) (s : SL), ρ[j]? = some (some s) → ownS s = true → σ[j]? = some (some (.ref p)) → False := fun j s e1 o1 e2 => by
      obtain ⟨v, h1, h2⟩ := R.slot j s e1
      rw [e2] at h1
      cases h1
      cases s with
      | ow ds => obtain ⟨p', vs', e, b, _⟩ := h2; cases e; exact R.alive _ b n
      | dow ds => obtain ⟨p', vs', e, b, _⟩ := h2; cases e; exact R.alive _ b n
      | mw ds => obtain ⟨p', vs', e, b, _⟩ := h2; cases e; exact R.alive _ b n
      | og ds => obtain ⟨p', vs', e, b, _⟩ := h2; cases e; exact R.alive _ b n
      | _  => cases o1
    by_cases hj : j = i
    · subst hj
      have hl : j < ρ.length := by
        have := (List.getElem?_eq_some_iff.mp e1).1
        rw [List.length_set] at this
        exact this
      rw [List.getElem?_set_self (by rw [R.len]; exact hl)] at e2
      cases e2
      rw [List.getElem?_set_ne hjk] at e3 e4
      exact old k t e3 o3 e4
    · by_cases hk : k = i
      · subst hk
        have hl : k < ρ.length := by
          have := (List.getElem?_eq_some_iff.mp e3).1
          rw [List.length_set] at this
          exact this
        rw [List.getElem?_set_self (by rw [R.len]; exact hl)] at e4
        cases e4
        rw [List.getElem?_set_ne (Ne.symm hj)] at e1 e2
        exact old j s e1 o1 e2
      · rw [List.getElem?_set_ne (Ne.symm hj)] at e1 e2
        rw [List.getElem?_set_ne (Ne.symm hk)] at e3 e4
        exact R.apart j k s t q hjk e1 o1 e2 e3 o3 e4
/-- an own list is written -/
theorem Rep.put (R : Rep K C O H σ ρ) {i : Nat} {p : Addr} {vs' : List V} {ds ds' : List PyData} (hi : ρ[i]? = some (some (.ow ds))) (hs : σ[i]? = some (some (.ref p))) (a : DpAll K (hid O H) vs' ds') : Rep K C O (upd H p (.lst vs')) σ (ρ.set i (some (.ow ds'))) := by
  obtain ⟨v, h1, p', vs, rfl, hO, hM, hp, al⟩ := R.slot i _ hi
  rw [hs] at h1
  cases h1
  have hl : i < ρ.length := (List.getElem?_eq_some_iff.mp hi).1
  refine ⟨R.ex.put hM hp rfl nofun, R.o0, R.sub, fun b hb e => ?_, by rw [List.length_set]; exact R.len, fun j s e => ?_, fun j k s t q hjk e1 o1 e2 e3 o3 e4 => ?_⟩
  · by_cases hbp : b = p
    · subst hbp; rw [upd_same] at e; cases e
    · rw [upd_ne hbp] at e; exact R.alive b hb e
  · have hh : hid O (upd H p (.lst vs')) = hid O H := hid_upd hO
    by_cases hj : j = i
    · subst hj
      rw [List.getElem?_set_self hl] at e
      cases e
      exact ⟨.ref p, hs, p, vs', rfl, hO, hM, upd_same, by rw [hh]; exact a⟩
    · rw [List.getElem?_set_ne (Ne.symm hj)] at e
      obtain ⟨v, h1, h2⟩ := R.slot j s e
      refine ⟨v, h1, ?_⟩
      cases s with
      | fz d => show Dp K (hid O _) v d; rw [hh]; exact h2
      | bw ds => obtain ⟨p2, vs2, a2, b2, c2, d2⟩ := h2; exact ⟨p2, vs2, a2, b2, c2, by rw [hh]; exact d2⟩
      | dbw ds => obtain ⟨p2, vs2, a2, b2, c2, d2⟩ := h2; exact ⟨p2, vs2, a2, b2, c2, by rw [hh]; exact d2⟩
      | er n => exact h2
      | oo dss => show OoF K _ (hid O _) v dss; rw [hh]; exact h2
      | hd dss => show HdF K _ (hid O _) v dss; rw [hh]; exact h2
      | mw ds =>
        obtain ⟨p2, vs2, rfl, b2, c2, d2, e2⟩ := h2
        have : p2 ≠ p := fun z => by subst z; exact R.apart j i _ _ _ hj e rfl h1 hi rfl hs
        exact ⟨p2, vs2, rfl, b2, c2, by rw [upd_ne this]; exact d2, by rw [hh]; exact e2⟩
      | og ds =>
        obtain ⟨p2, vs2, rfl, b2, c2, d2, e2⟩ := h2
        have : p2 ≠ p := fun z => by subst z; exact R.apart j i _ _ _ hj e rfl h1 hi rfl hs
        exact ⟨p2, vs2, rfl, b2, c2, by rw [upd_ne this]; exact d2, by rw [hh]; exact e2⟩
      | ow  ds =>
        obtain ⟨p2, vs2, rfl, b2, c2, d2, e2⟩ := h2
        have : p2 ≠ p := fun z => by subst z; exact R.apart j i _ _ _ hj e rfl h1 hi rfl hs
        exact ⟨p2, vs2, rfl, b2, c2, by rw [upd_ne this]; exact d2, by rw [hh]; exact e2⟩
      | dow ds =>
        obtain ⟨p2, vs2, rfl, b2, c2, d2, e2⟩ := h2
        have : p2 ≠ p := fun z => by subst z; exact R.apart j i _ _ _ hj e rfl h1 hi rfl hs
        exact ⟨p2, vs2, rfl, b2, c2, by rw [upd_ne this]; exact d2, by rw [hh]; exact e2⟩
  · have back : ∀ (j : Nat) (s : SL), (ρ.set i (some (.ow ds')))[j]? = some (some s) → ownS s = true → ∃ s', ρ[j]? = some (some s') ∧ ownS s' = true := fun j s e o => by
      by_cases hj : j = i
      · subst hj; exact ⟨_, hi, rfl⟩
      · rw [List.getElem?_set_ne (Ne.symm hj)] at e; exact ⟨s, e, o⟩
    obtain ⟨s', a1, a2⟩ := back j s e1 o1
    obtain ⟨t', b1, b2⟩ := back k t e3 o3
    exact R.apart j k s' t' q hjk a1 a2 e2 b1 b2 e4
/-- an own dict is written -/
theorem Rep.putD (R : Rep K C O H σ ρ) {i : Nat} {p : Addr} {vs' : List (List Key × V)} {ds ds' : List (List Int × PyData)} (hi : ρ[i]? = some (some (.dow ds))) (hs : σ[i]? = some (some (.ref p))) (a : KvAll K (hid O H) vs' ds') : Rep K C O (upd H p (.dT vs')) σ (ρ.set i (some (.dow ds'))) := by
  obtain ⟨v, h1, p', vs, rfl, hO, hM, hp, al⟩ := R.slot i _ hi
  rw [hs] at h1
  cases h1
  have hl : i < ρ.length := (List.getElem?_eq_some_iff.mp hi).1
  refine ⟨R.ex.put hM hp rfl nofun, R.o0, R.sub, fun b hb e => ?_, by rw [List.length_set]; exact R.len, fun j s e => ?_, fun j k s t q hjk e1 o1 e2 e3 o3 e4 => ?_⟩
  · by_cases hbp : b = p
    · subst hbp; rw [upd_same] at e; cases e
    · rw [upd_ne hbp] at e; exact R.alive b hb e
  · have hh : hid O (upd H p (.dT vs')) = hid O H := hid_upd hO
    by_cases hj : j = i
    · subst hj
      rw [List.getElem?_set_self hl] at e
      cases e
      exact ⟨.ref p, hs, p, vs', rfl, hO, hM, upd_same, by rw [hh]; exact a⟩
    · rw [List.getElem?_set_ne (Ne.symm hj)] at e
      obtain ⟨v, h1, h2⟩ := R.slot j s e
      refine ⟨v, h1, ?_⟩
      cases s with
      | fz d => show Dp K (hid O _) v d; rw [hh]; exact h2
      | bw ds => obtain ⟨p2, vs2, a2, b2, c2, d2⟩ := h2; exact ⟨p2, vs2, a2, b2, c2, by rw [hh]; exact d2⟩
      | dbw ds => obtain ⟨p2, vs2, a2, b2, c2, d2⟩ := h2; exact ⟨p2, vs2, a2, b2, c2, by rw [hh]; exact d2⟩
      | er n => exact h2
      | oo dss => show OoF K _ (hid O _) v dss; rw [hh]; exact h2
      | hd dss => show HdF K _ (hid O _) v dss; rw [hh]; exact h2
      | mw ds =>
        obtain ⟨p2, vs2, rfl, b2, c2, d2, e2⟩ := h2
        have : p2 ≠ p := fun z => by subst z; exact R.apart j i _ _ _ hj e rfl h1 hi rfl hs
        exact ⟨p2, vs2, rfl, b2, c2, by rw [upd_ne this]; exact d2, by rw [hh]; exact e2⟩
      | og ds =>
        obtain ⟨p2, vs2, rfl, b2, c2, d2, e2⟩ := h2
        have : p2 ≠ p := fun z => by subst z; exact R.apart j i _ _ _ hj e rfl h1 hi rfl hs
        exact ⟨p2, vs2, rfl, b2, c2, by rw [upd_ne this]; exact d2, by rw [hh]; exact e2⟩
      | ow  ds =>
        obtain ⟨p2, vs2, rfl, b2, c2, d2, e2⟩ := h2
        have : p2 ≠ p := fun z => by subst z; exact R.apart j i _ _ _ hj e rfl h1 hi rfl hs
        exact ⟨p2, vs2, rfl, b2, c2, by rw [upd_ne this]; exact d2, by rw [hh]; exact e2⟩
      | dow ds =>
        obtain ⟨p2, vs2, rfl, b2, c2, d2, e2⟩ := h2
        have : p2 ≠ p := fun z => by subst z; exact R.apart j i _ _ _ hj e rfl h1 hi rfl hs
        exact ⟨p2, vs2, rfl, b2, c2, by rw [upd_ne this]; exact d2, by rw [hh]; exact e2⟩
  · have back : ∀ (j : Nat) (s : SL), (ρ.set i (some (.dow ds')))[j]? = some (some s) → ownS s = true → ∃ s', ρ[j]? = some (some s') ∧ ownS s' = true := fun j s e o => by
      by_cases hj : j = i
      · subst hj; exact ⟨_, hi, rfl⟩
      · rw [List.getElem?_set_ne (Ne.symm hj)] at e; exact ⟨s, e, o⟩
    obtain ⟨s', a1, a2⟩ := back j s e1 o1
    obtain ⟨t', b1, b2⟩ := back k t e3 o3
    exact R.apart j k s' t' q hjk a1 a2 e2 b1 b2 e4
/-- an own list is changed no more -/
theorem Rep.frz (R : Rep K C O H σ ρ) {i : Nat} {ds : List PyData} (hi : ρ[i]? = some (some (.ow ds))) (hM : C.M = []) : ∃ O', Rep K C O' H σ (ρ.set i (some (.fz (.list ds)))) ∧ Ex (hid O H) (hid O' H) := by
  obtain ⟨v, h1, p, vs, rfl, hO, hH0, hp, al⟩ := R.slot i _ hi
  have hl : i < ρ.length := (List.getElem?_eq_some_iff.mp hi).1
  have hsub : ∀ b ∈ O.filter (· ≠ p), b ∈ O := fun b hb => (List.mem_filter.mp hb).1
  have hx : Ex (hid O H) (hid (O.filter (· ≠ p)) H) := hid_sub hsub
  have hn : C.H0 p = none := by
    rcases hH0 with z | z
    · exact z
    · rw [hM] at z; cases z
  refine ⟨O.filter (· ≠ p), ⟨R.ex, R.o0, fun b hb => List.mem_filter.mpr ⟨R.sub b hb, ?_⟩, fun b hb => R.alive b (hsub b hb), by rw [List.length_set]; exact R.len, fun j s e => ?_, fun j k s t q hjk e1 o1 e2 e3 o3 e4 => ?_⟩, hx⟩
  · exact decide_eq_true fun z => R.o0.1 b hb (by rw [z]; exact hn)
  · by_cases hj : j = i
    · subst hj
      rw [List.getElem?_set_self hl] at e
      cases e
      refine ⟨.ref p, h1, .lst (SqL.of ?_) (DpAll.mono hx al)⟩
      exact hid_out (fun z => (of_decide_eq_true (show decide (p ≠ p) = true from (List.mem_filter.mp z).2)) rfl) hp
    · rw [List.getElem?_set_ne (Ne.symm hj)] at e
      obtain ⟨v, a1, a2⟩ := R.slot j s e
      refine ⟨v, a1, ?_⟩
      cases s with
      | fz d => exact Dp.mono hx a2
      | bw ds => obtain ⟨p2, vs2, b2, c2, d2, e2⟩ := a2; exact ⟨p2, vs2, b2, c2, d2, DpAll.mono hx e2⟩
      | dbw ds => obtain ⟨p2, vs2, b2, c2, d2, e2⟩ := a2; exact ⟨p2, vs2, b2, c2, d2, KvAll.mono hx e2⟩
      | er n => exact a2
      | oo dss => exact OoF.mono hx a2
      | hd dss => exact HdF.mono hx a2
      | mw ds =>
        obtain ⟨p2, vs2, rfl, b2, c2, d2, e2⟩ := a2
        have : p2 ≠ p := fun z => by subst z; exact R.apart j i _ _ _ hj e rfl a1 hi rfl h1
        exact ⟨p2, vs2, rfl, List.mem_filter.mpr ⟨b2, decide_eq_true this⟩, c2, d2, DpAll.mono hx e2⟩
      | og ds =>
        obtain ⟨p2, vs2, rfl, b2, c2, d2, e2⟩ := a2
        have : p2 ≠ p := fun z => by subst z; exact R.apart j i _ _ _ hj e rfl a1 hi rfl h1
        exact ⟨p2, vs2, rfl, List.mem_filter.mpr ⟨b2, decide_eq_true this⟩, c2, d2, e2.mono hx⟩
      | ow ds =>
        obtain ⟨p2, vs2, rfl, b2, c2, d2, e2⟩ := a2
        have : p2 ≠ p := fun z => by subst z; exact R.apart j i _ _ _ hj e rfl a1 hi rfl h1
        exact ⟨p2, vs2, rfl, List.mem_filter.mpr ⟨b2, decide_eq_true this⟩, c2, d2, DpAll.mono hx e2⟩
      | dow ds =>
        obtain ⟨p2, vs2, rfl, b2, c2, d2, e2⟩ := a2
        have : p2 ≠ p := fun z => by subst z; exact R.apart j i _ _ _ hj e rfl a1 hi rfl h1
        exact ⟨p2, vs2, rfl, List.mem_filter.mpr ⟨b2, decide_eq_true this⟩, c2, d2, KvAll.mono hx e2⟩
  · by_cases hj : j = i
    · subst hj
      rw [List.getElem?_set_self hl] at e1
      cases e1
      cases o1
    · by_cases hk : k = i
      · subst hk
        rw [List.getElem?_set_self hl] at e3
        cases e3
        cases o3
      · rw [List.getElem?_set_ne (Ne.symm hj)] at e1
        rw [List.getElem?_set_ne (Ne.symm hk)] at e3
        exact R.apart j k s t q hjk e1 o1 e2 e3 o3 e4
end

/-! ### the rules -/
section
variable {X : Cx} {C : PC} {a b c e : Expr} {st : Stmt} {sts : List Stmt} {f g : VE} {l : LE} {x : XE} {bt : BE} {s s1 s2 : SE} {pos p1 p2 : Pos}
theorem ss_nil : PSs X [] (tS X.K C sNext) := pss_imp pss_nil fun D σ H ⟨O, ρ, R, q⟩ => q σ O H R (Ex.refl _)
theorem ss_cons (h1 : PS X st (tS X.K C s1)) (h2 : PSs X sts (tS X.K C s2)) : PSs X (st :: sts) (tS X.K C (sSeq s1 s2)) := pss_imp (pss_cons h1 h2) fun D σ H ⟨O, ρ, R, q⟩ =>
  ⟨O, ρ, R, Post.then (f := s2) q (fun ρ' σ' O' H' R' p => ⟨O', ρ', R', p⟩) rfl rfl rfl⟩
theorem ss_one (h1 : PS X st (tS X.K C s1)) : PSs X [st] (tS X.K C s1) := pss_one h1
theorem s_pass : PS X (.Pass pos) (tS X.K C sNext) := ps_imp ps_pass fun D σ H ⟨O, ρ, R, q⟩ => q σ O H R (Ex.refl _)
theorem s_brk : PS X (.Break pos) (tS X.K C sBrk) := ps_imp ps_break fun D σ H ⟨O, ρ, R, q⟩ => q σ O H R (Ex.refl _)
theorem s_cont : PS X (.Continue pos) (tS X.K C sCont) := ps_imp ps_continue fun D σ H ⟨O, ρ, R, q⟩ => q σ O H R (Ex.refl _)
theorem s_set {i : Nat} {y : Str} {pos' : Pos} (hN : X.N.Nodup) (hi : X.N[i]? = some y) (hx : Loc X.env.scope y) (he : PE X e (tV X.K C f)) (hs : swapsWith e (some (.Name y pos')) pos.line X.env = pure false := by rfl) (hf : X.fn y = true ∨ X.env.scope.names.lookup y = some .local := by first | exact .inl rfl | exact .inr rfl | assumption) :
    PS X (.Assign [.Name y pos'] e pos) (tS X.K C (sSet i f)) := ps_imp (ps_set hN hi hx he hs hf) fun D σ H ⟨O, ρ, R, q⟩ =>
  ⟨O, ρ, R, Post.fin R q fun d _ k v H' x p => k _ O H' ((R.grow x).set p) (hid_mono x)⟩
theorem noM {K : PySem.W.Frag} {O : List Addr} {H : Hp} {σ : L2.St} {ρ : Env} (R : Rep K C O H σ ρ) (hM : ∀ b ∈ C.M, b ∈ O) {p : Addr} (n : H p = none) : p ∉ C.M := fun z => R.alive p (hM p z) n
theorem s_setL {i : Nat} {y : Str} {pos' : Pos} (hM : ∀ b ∈ C.M, b ∈ C.O0) (hN : X.N.Nodup) (hi : X.N[i]? = some y) (hx : Loc X.env.scope y) (he : PE X e (tF X.K C l)) (hs : swapsWith e (some (.Name y pos')) pos.line X.env = pure false := by rfl) (hf : X.fn y = true ∨ X.env.scope.names.lookup y = some .local := by first | exact .inl rfl | exact .inr rfl | assumption) :
    PS X (.Assign [.Name y pos'] e pos) (tS X.K C (sSetL i l)) := ps_imp (ps_set hN hi hx he hs hf) fun D σ H ⟨O, ρ, R, q⟩ =>
  ⟨O, ρ, R, Post.fin R q fun d _ k p vs H' x n h a => k _ (p :: O) H' (R.setO x n h a (noM R (fun b z => R.sub b (hM b z)) n)) (hid_more x n)⟩
theorem s_setX {i : Nat} {y : Str} {pos' : Pos} (hM : ∀ b ∈ C.M, b ∈ C.O0) (hN : X.N.Nodup) (hi : X.N[i]? = some y) (hx : Loc X.env.scope y) (he : PE X e (tX X.K C x)) (hs : swapsWith e (some (.Name y pos')) pos.line X.env = pure false := by rfl) (hf : X.fn y = true ∨ X.env.scope.names.lookup y = some .local := by first | exact .inl rfl | exact .inr rfl | assumption) :
    PS X (.Assign [.Name y pos'] e pos) (tS X.K C (sSetX i x)) := ps_imp (ps_set hN hi hx he hs hf) fun D σ H ⟨O, ρ, R, q⟩ =>
  ⟨O, ρ, R, Post.fin R q fun r _ k v H' x p => by
    cases r with
    | val d => exact k _ O H' ((R.grow x).set p) (hid_mono x)
    | fresh ds => obtain ⟨p, vs, rfl, n, h, a⟩ := p; exact k _ (p :: O) H' (R.setO x n h a (noM R (fun b z => R.sub b (hM b z)) n)) (hid_more x n)
    | dfresh ds => obtain ⟨p, vs, rfl, n, h, a⟩ := p; exact k _ (p :: O) H' (R.setOD x n h a (noM R (fun b z => R.sub b (hM b z)) n)) (hid_more x n)
    | gfresh dss =>
      obtain ⟨p, qs, rfl, n, h, a⟩ := p
      have hp : p ∉ O := fun z => R.alive p z n
      have hx : Ex (hid (p :: O) H') (hid O H') := hid_sub fun b z => List.mem_cons_of_mem _ z
      have hpq : p ∉ qs := fun z => by
        have : ∀ (qs : List Addr) (dss : List (List PyData)), Rows X.K (hid (p :: O) H') qs dss → p ∉ qs := fun qs dss r => by
          induction r with
          | nil => exact fun z => nomatch z
          | cons e _ _ ih =>
            intro z
            rcases List.mem_cons.mp z with rfl | z
            · rw [hid_in List.mem_cons_self] at e; cases e
            · exact ih z
        exact this _ _ a.row z
      exact k _ O H' ((R.grow x).setG ⟨p, qs, rfl, hid_out hp h, hpq, a.nd, fun q hq => R.back0 (a.new q hq), a.row.mono hx⟩) (hid_mono x)⟩
/-- y = [.. for ..] on one line -/
theorem s_setLc {sg : Bool} {i : Nat} {y : Str} {py : Pos} {elt tg iter : Expr} {ifs : List Expr} {scope : Scope} {own : List (Str × Nat)} {spos : Pos} {g : TG} {tg' : TGT} {ts : List Nat} {wl : LE} {tt : BE} {el : VE} (hM : ∀ b ∈ C.M, b ∈ C.O0) (hc : X.calm = true) (hN : X.N.Nodup) (hy : X.N[i]? = some y) (hyl : X.env.scope.names.lookup y = some .local)
    (hsw : swapsWith (.ListComp elt [⟨tg, iter, ifs, 0⟩] scope pos) (some (.Name y py)) spos.line X.env = pure true) (hi : PI X tg iter (tWE X.K C sg wl)) (hgt : TgOk sg X.K C.blk g tg' ts) (ok : BlkOk X.N X.env.scope scope own) (hts : ∀ x ∈ ts, x ∈ own.map (·.2))
    (hg : ∀ (s : Shared) (H : Hp) (C : Addr) (cl : List (Str × Addr)) (fp : List Addr), PG (X.blk s H scope (compEnvC scope cl C X.env) fp) tg g) (ht : ∀ (s : Shared) (H : Hp) (C' : Addr) (cl : List (Str × Addr)) (fp : List Addr), PTs (X.blk s H scope (compEnvC scope cl C' X.env) fp) ifs (tT X.K C.blk tt))
    (he : ∀ (s : Shared) (H : Hp) (C' : Addr) (cl : List (Str × Addr)) (fp : List Addr), PE (X.blk s H scope (compEnvC scope cl C' X.env) fp) elt (tV X.K C.blk el)) (hs : ∀ x, foldedSetIterable iter X.env x = pure x := by intro _; rfl) :
    PS X (.Assign [.Name y py] (.ListComp elt [⟨tg, iter, ifs, 0⟩] scope pos) spos) (tS X.K C (sSetL i (lComp wl tg' (own.map (·.2)) tt el))) := ps_imp (ps_setLc hc hN hy hyl hsw hi ok hg ht he hs) fun D σ H ⟨O, ρ, R, q⟩ =>
  lc_t hgt hts ⟨O, ρ, R, Post.fin R q fun d _ k p vs H' x n h a => k _ (p :: O) H' (R.setO x n h a (noM R (fun b z => R.sub b (hM b z)) n)) (hid_more x n)⟩
theorem s_dnew {i : Nat} {y : Str} {pos' : Pos} (hM : ∀ b ∈ C.M, b ∈ C.O0) (hN : X.N.Nodup) (hi : X.N[i]? = some y) (hx : Loc X.env.scope y) (hs : swapsWith (.Dict [] [] p1) (some (.Name y pos')) pos.line X.env = pure false := by rfl) (hf : X.fn y = true ∨ X.env.scope.names.lookup y = some .local := by first | exact .inl rfl | exact .inr rfl | assumption) :
    PS X (.Assign [.Name y pos'] (.Dict [] [] p1) pos) (tS X.K C (sSetD i)) := ps_imp (ps_set hN hi hx pe_dnewT hs hf) fun D σ H ⟨O, ρ, R, q⟩ p n =>
  q _ (p :: O) _ (R.setOD (Gx.new n) n upd_same .nil (noM R (fun b z => R.sub b (hM b z)) n)) (hid_more (C := C) (Gx.new n) n)
theorem s_drop (he : PE X e (tV X.K C f)) (hs : swapsWith e none pos.line X.env = pure false := by rfl) : PS X (.Expr e pos) (tS X.K C (sDrop f)) := ps_imp (ps_expr he hs) fun D σ H ⟨O, ρ, R, q⟩ => ⟨O, ρ, R, Post.fin R q fun d _ k v H' x p => k _ O H' (R.grow x) (hid_mono x)⟩
theorem s_dropX (he : PE X e (tX X.K C x)) (hs : swapsWith e none pos.line X.env = pure false := by rfl) : PS X (.Expr e pos) (tS X.K C (sDropX x)) := ps_imp (ps_expr he hs) fun D σ H ⟨O, ρ, R, q⟩ => ⟨O, ρ, R, Post.fin R q fun d _ k v H' x p => k _ O H' (R.grow x) (hid_mono x)⟩
theorem s_if {A B : List Stmt} (hc : PT X c (tT X.K C bt)) (ha : PSs X A (tS X.K C s1)) (hb : PSs X B (tS X.K C s2)) : PS X (.If c A B pos) (tS X.K C (sIf bt s1 s2)) := ps_imp (ps_if hc ha hb) fun D σ H ⟨O, ρ, R, q⟩ => ⟨O, ρ, R, Post.fin R q fun b _ k H' x => by
  cases b with
  | true => exact iteT ⟨O, ρ, R.grow x, Post.grow (show Post X.K C D O H (s1 ρ) from k) (hid_mono x)⟩
  | false => exact iteF ⟨O, ρ, R.grow x, Post.grow (show Post X.K C D O H (s2 ρ) from k) (hid_mono x)⟩⟩
theorem s_ret (he : PE X e (tV X.K C f)) : PS X (.Return (some e) pos) (tS X.K C (sRet f)) := ps_imp (ps_ret he) fun D σ H ⟨O, ρ, R, q⟩ => ⟨O, ρ, R, Post.fin R q fun d _ k v H' x p => k v σ O H' (R.grow x) (hid_mono x) p⟩
theorem fresh0 {K : PySem.W.Frag} {O : List Addr} {H : Hp} {σ : L2.St} {ρ : Env} (R : Rep K C O H σ ρ) (hM : ∀ b ∈ C.M, b ∈ C.O0) {p : Addr} (n : H p = none) : C.H0 p = none := by
  cases q : C.H0 p with
  | none => rfl
  | some o =>
    exact absurd n (R.ex.tb p o q)
theorem s_retL (hM : ∀ b ∈ C.M, b ∈ C.O0) (he : PE X e (tF X.K C l)) : PS X (.Return (some e) pos) (tS X.K C (sRetL l)) := ps_imp (ps_ret he) fun D σ H ⟨O, ρ, R, q⟩ => ⟨O, ρ, R, Post.fin R q fun d _ k p vs H' x n h a => k _ σ O H' (R.grow x) (hid_mono x) ⟨p, vs, rfl, fresh0 R hM n, h, a⟩⟩
theorem s_retX (hM : ∀ b ∈ C.M, b ∈ C.O0) (he : PE X e (tX X.K C x)) : PS X (.Return (some e) pos) (tS X.K C (sRetX x)) := ps_imp (ps_ret he) fun D σ H ⟨O, ρ, R, q⟩ => ⟨O, ρ, R, Post.fin R q fun r _ k v H' x p => k v σ O H' (R.grow x) (hid_mono x) (by
  cases r with
  | val d => exact p
  | fresh ds => obtain ⟨p, vs, rfl, n, h, a⟩ := p; exact ⟨p, vs, rfl, fresh0 R hM n, h, a⟩
  | dfresh ds => obtain ⟨p, vs, rfl, n, h, a⟩ := p; exact ⟨p, vs, rfl, fresh0 R hM n, h, a⟩
  | gfresh ds => obtain ⟨p, vs, rfl, n, h, a⟩ := p; exact ⟨p, vs, rfl, fresh0 R hM n, h, a.nd, fun q hq => R.back0 (a.new q hq), a.row⟩)⟩
theorem s_retN : PS X (.Return none pos) (tS X.K C (sRet (eC .none))) := ps_imp ps_retN fun D σ H ⟨O, ρ, R, q⟩ => q .non σ O H R (Ex.refl _) .non
/-- return of a name -/
theorem s_retO (i : Nat) {x : Str} {np : Pos} (hM : C.M = []) (hN : X.N[i]? = some x := by rfl) (hv : Vis X.env.scope x := by first | exact Or.inl rfl | exact Or.inr (Or.inl rfl) | exact Or.inr (Or.inr rfl)) (hd : (x == ("__debug__" : Str)) = false := by decide)
    (hcd : (x == ("__classdict__" : Str)) = false := by decide) : PS X (.Return (some (.Name x np)) pos) (tS X.K C (sRetO i)) := ps_imp (ps_ret (pe_var (i := i) hN hv hd hcd)) fun D σ H ⟨O, ρ, R, q⟩ => by
  have h0 : ∀ p, (C.H0 p = none ∨ p ∈ C.M) → C.H0 p = none := fun p z => by
    rcases z with z | z
    · exact z
    · rw [hM] at z; cases z
  unfold sRetO at q
  split at q
  · rename_i ds e
    obtain ⟨v, h1, p, vs, rfl, hO, hn, hp, al⟩ := R.slot i _ e
    exact ⟨.ref p, h1, q _ σ O H R (Ex.refl _) ⟨p, vs, rfl, h0 p hn, hp, DpAll.mono (hid_sub fun b z => by
      rcases List.mem_cons.mp z with rfl | z
      · exact hO
      · exact z) al⟩⟩
  · rename_i ds e
    obtain ⟨v, h1, p, vs, rfl, hO, hn, hp, al⟩ := R.slot i _ e
    exact ⟨.ref p, h1, q _ σ O H R (Ex.refl _) ⟨p, vs, rfl, h0 p hn, hp, KvAll.mono (hid_sub fun b z => by
      rcases List.mem_cons.mp z with rfl | z
      · exact hO
      · exact z) al⟩⟩
  · rename_i ds e
    obtain ⟨v, h1, p, qs, rfl, hO, hn, hp, al⟩ := R.slot i _ e
    exact ⟨.ref p, h1, q _ σ O H R (Ex.refl _) ⟨p, qs, rfl, hn, hp, al.mono (hid_sub fun b z => by
      rcases List.mem_cons.mp z with rfl | z
      · exact hO
      · exact z)⟩⟩
  · rename_i d e
    obtain ⟨v, h1, h2⟩ := R.slot i _ e
    exact ⟨v, h1, q _ σ O H R (Ex.refl _) h2⟩
  · exact q.elim
theorem set_self {α : Type} {l : List α} {i : Nat} {x : α} (e : l[i]? = some x) : l.set i x = l := by
  refine List.ext_getElem? fun j => ?_
  by_cases hj : i = j
  · subst hj
    rw [List.getElem?_set_self (List.getElem?_eq_some_iff.mp e).1, e]
  · rw [List.getElem?_set_ne hj]
/-- the plain state is made weaker first -/
theorem s_frz {i : Nat} (hM : C.M = []) (h : PS X st (tS X.K C s)) : PS X st (tS X.K C (sFrz i s)) := ps_imp h fun D σ H ⟨O, ρ, R, q⟩ => by
  unfold sFrz frzE at q
  split at q
  · rename_i t e
    cases t with
    | ow ds =>
      obtain ⟨O', R', x⟩ := R.frz e hM
      exact ⟨O', _, R', Post.grow q x⟩
    | fz d => rw [show frzS (.fz d) = .fz d from rfl, set_self e] at q; exact ⟨O, ρ, R, q⟩
    | bw d => rw [show frzS (.bw d) = .bw d from rfl, set_self e] at q; exact ⟨O, ρ, R, q⟩
    | dow d => rw [show frzS (.dow d) = .dow d from rfl, set_self e] at q; exact ⟨O, ρ, R, q⟩
    | dbw d => rw [show frzS (.dbw d) = .dbw d from rfl, set_self e] at q; exact ⟨O, ρ, R, q⟩
    | er d => rw [show frzS (.er d) = .er d from rfl, set_self e] at q; exact ⟨O, ρ, R, q⟩
    | mw d => rw [show frzS (.mw d) = .mw d from rfl, set_self e] at q; exact ⟨O, ρ, R, q⟩
    | og d => rw [show frzS (.og d) = .og d from rfl, set_self e] at q; exact ⟨O, ρ, R, q⟩
    | oo d => rw [show frzS (.oo d) = .oo d from rfl, set_self e] at q; exact ⟨O, ρ, R, q⟩
    | hd d => rw [show frzS (.hd d) = .hd d from rfl, set_self e] at q; exact ⟨O, ρ, R, q⟩
  · exact ⟨O, ρ, R, q⟩
theorem s_wipe {ws : List Nat} (h : PS X st (tS X.K C s)) : PS X st (tS X.K C (sWipe ws s)) := ps_imp h fun D σ H ⟨O, ρ, R, q⟩ => ⟨O, _, R.wp, q⟩

/-! ### loops -/
variable {w : LE} {g : TG} {tg' : TGT} {ts ws : List Nat} {tgt iter : Expr} {body : List Stmt}
theorem s_for (hp : PassesOwn (model X.prog X.w) X.A X.env X.xe) (hc : X.calm = true) (hi : PI X tgt iter (tW X.K C w)) (hgt : TgOk true X.K C g tg' ts) (hg : PG X tgt g) (hb : PSs X body (tS X.K C s)) (hs : ∀ x, foldedSetIterable iter X.env x = pure x := by intro _; rfl) :
    PS X (.For tgt iter body [] pos) (tS X.K C (sFor w tg' ws s)) := ps_imp (ps_for hp hc hi hg hb hs) fun D σ H ⟨O, ρ, R, q⟩ => by
  refine ⟨O, ρ, R, Post.fin R q fun ds _ k J H1 x1 it => ?_⟩
  refine ⟨fun i m σ' H' => m = ds.length - i ∧ i ≤ ds.length ∧ ∃ O' ρ', Rep X.K C O' H' σ' ρ' ∧ Ex (hid O H1) (hid O' H') ∧ Post X.K C D O' H' (forGo tg' ws s (ds.drop i) ρ'),
    ⟨ds.length, rfl, Nat.zero_le _, O, ρ, R.grow x1, Ex.refl _, Post.grow k (hid_mono x1)⟩, ?_⟩
  rintro i m σ' H' ⟨rfl, hi, O', ρ', R', xg, k'⟩
  obtain ⟨it1, it2⟩ := it O' H' xg R'.ex R'.alive i
  by_cases hlt : i < ds.length
  · obtain ⟨hgo, hy⟩ := it1 hlt
    refine .inr ⟨hgo, fun σ2 H2 => ∃ O2 ρ2, Rep X.K C O2 H2 σ2 ρ2 ∧ Ex (hid O H1) (hid O2 H2) ∧ Post X.K C D O2 H2 (forGo tg' ws s (ds.drop (i + 1)) ρ2), fun σ2 H2 h => ⟨ds.length - (i + 1), by omega, rfl, hlt, h⟩, fun v H2 yl => ?_⟩
    obtain ⟨x2, d, hd1, hd2⟩ := hy v H2 yl
    have hdrop : ds.drop i = d :: ds.drop (i + 1) := by
      rw [List.drop_eq_getElem_cons hlt]
      congr 1
      rw [List.getElem?_eq_getElem hlt] at hd1
      exact Option.some.inj hd1
    rw [hdrop] at k'
    unfold forGo at k'
    cases ht : tg' d ρ' with
    | none => rw [ht] at k'; exact k'.elim
    | some ρ1 =>
      rw [ht] at k'
      refine hgt v d O' H2 σ' ρ' ρ1 _ (R'.grow x2) (.inl hd2) ht fun σ1 R1 _ => ⟨O', ρ1, R1, ?_⟩
      have k2 : Post X.K C D O' H2 (match s ρ1 with
        | .nx ρ2 => forGo tg' ws s (ds.drop (i + 1)) (wp ws ρ2)
        | .ct ρ2 => forGo tg' ws s (ds.drop (i + 1)) (wp ws ρ2)
        | .bk ρ2 => .nx (wp ws ρ2)
        | .rt x ρ2 => .rt x ρ2
        | .ex n ρ2 => .ex n ρ2
        | .stuck => .stuck) := Post.grow k' (hid_mono x2)
      have xg2 := xg.trans (hid_mono x2 (O := O'))
      cases hsr : s ρ1 with
      | nx ρ2 => rw [hsr] at k2; exact fun σ3 O3 H3 R3 x3 => ⟨O3, _, R3.wp, xg2.trans x3, Post.grow k2 x3⟩
      | ct ρ2 => rw [hsr] at k2; exact fun σ3 O3 H3 R3 x3 => ⟨O3, _, R3.wp, xg2.trans x3, Post.grow k2 x3⟩
      | bk ρ2 => rw [hsr] at k2; exact fun σ3 O3 H3 R3 x3 => k2 σ3 O3 H3 R3.wp x3
      | rt r ρ2 => rw [hsr] at k2; exact k2
      | ex n ρ2 => rw [hsr] at k2; exact k2
      | stuck => rw [hsr] at k2; exact k2
  · have e : i = ds.length := by omega
    subst e
    refine .inl ⟨it2 (Nat.le_refl _), ?_⟩
    rw [List.drop_length] at k'
    exact k' σ' O' H' R' (Ex.refl _)
theorem s_while {n : Nat} (hp : PassesOwn (model X.prog X.w) X.A X.env X.xe) (hc : PT X c (tT X.K C bt)) (hb : PSs X body (tS X.K C s)) : PS X (.While c body [] pos) (tS X.K C (sWhile n bt ws s)) := ps_imp (ps_while hp hc hb) fun D σ H ⟨O, ρ, R, q⟩ => by
  refine ⟨fun m σ' H' => ∃ O' ρ', Rep X.K C O' H' σ' ρ' ∧ Post X.K C D O' H' (whGo bt ws s m ρ'), ⟨n, O, ρ, R, q⟩, ?_⟩
  rintro m σ' H' ⟨O', ρ', R', k⟩
  cases m with
  | zero => exact k.elim
  | succ m =>
    unfold whGo at k
    refine ⟨O', ρ', R', Post.fin R' k fun b _ k2 H2 x2 => ?_⟩
    cases b with
    | false => exact iteF ((show ∀ σ3 O3 H3, Rep X.K C O3 H3 σ3 ρ' → Ex (hid O' H') (hid O3 H3) → D.nx σ3 H3 from k2) σ' O' H2 (R'.grow x2) (hid_mono x2))
    | true =>
      refine iteT ⟨fun σ3 H3 => ∃ O3 ρ3, Rep X.K C O3 H3 σ3 ρ3 ∧ Post X.K C D O3 H3 (whGo bt ws s m ρ3), fun σ3 H3 h => ⟨m, Nat.lt_succ_self m, h⟩, O', ρ', R'.grow x2, ?_⟩
      have k3 : Post X.K C D O' H2 (match s ρ' with
        | .nx ρ2 => whGo bt ws s m (wp ws ρ2)
        | .ct ρ2 => whGo bt ws s m (wp ws ρ2)
        | .bk ρ2 => .nx (wp ws ρ2)
        | .rt x ρ2 => .rt x ρ2
        | .ex n ρ2 => .ex n ρ2
        | .stuck => .stuck) := Post.grow k2 (hid_mono x2)
      cases hsr : s ρ' with
      | nx ρ2 => rw [hsr] at k3; exact fun σ3 O3 H3 R3 x3 => ⟨O3, _, R3.wp, Post.grow k3 x3⟩
      | ct ρ2 => rw [hsr] at k3; exact fun σ3 O3 H3 R3 x3 => ⟨O3, _, R3.wp, Post.grow k3 x3⟩
      | bk ρ2 => rw [hsr] at k3; exact fun σ3 O3 H3 R3 x3 => k3 σ3 O3 H3 R3.wp x3
      | rt r ρ2 => rw [hsr] at k3; exact k3
      | ex n ρ2 => rw [hsr] at k3; exact k3
      | stuck => rw [hsr] at k3; exact k3
end
/-! ### statements that may change what was seen -/
section
variable (K : PySem.W.Frag) (C : PC)
def PostW (D : Ends) : SO → Prop
  | .nx ρ' => ∀ σ' O' H', Rep K C O' H' σ' ρ' → D.nx σ' H'
  | .bk ρ' => ∀ σ' O' H', Rep K C O' H' σ' ρ' → D.bk σ' H'
  | .ct ρ' => ∀ σ' O' H', Rep K C O' H' σ' ρ' → D.ct σ' H'
  | .rt r ρ' => ∀ v σ' O' H', Rep K C O' H' σ' ρ' → RetV K C O' H' v r → D.rt v H'
  | .ex n ρ' => ∀ σ' O' H', Rep K C O' H' σ' ρ' → C.W (C.cv n) none σ' H'
  | .stuck => False
def tSW (g : SE) : TS := fun D σ H => ∃ O ρ, Rep K C O H σ ρ ∧ PostW K C D (g ρ)
end
section
variable {K : PySem.W.Frag} {C : PC} {O : List Addr} {H : Hp} {D : Ends}
theorem PostW.to {s : SO} (h : PostW K C D s) : Post K C D O H s := by
  cases s with
  | nx ρ' => exact fun σ' O2 H2 R _ => h σ' O2 H2 R
  | bk ρ' => exact fun σ' O2 H2 R _ => h σ' O2 H2 R
  | ct ρ' => exact fun σ' O2 H2 R _ => h σ' O2 H2 R
  | rt r ρ' => exact fun v σ' O2 H2 R _ q => h v σ' O2 H2 R q
  | ex n ρ' => exact fun σ' O2 H2 R _ => h σ' O2 H2 R
  | stuck => exact h
theorem PostW.then {s : SO} {f : SE} {D' : Ends} (h : PostW K C D (s.then f)) (hn : ∀ ρ' σ' O' H', Rep K C O' H' σ' ρ' → PostW K C D (f ρ') → D'.nx σ' H') (hb : D'.bk = D.bk) (hc : D'.ct = D.ct) (hr : D'.rt = D.rt) : PostW K C D' s := by
  cases s with
  | nx ρ' => exact fun σ' O2 H2 R => hn ρ' σ' O2 H2 R h
  | bk ρ' => rw [show PostW K C D' (.bk ρ') = _ from rfl]; intro σ' O2 H2 R; rw [hb]; exact h σ' O2 H2 R
  | ct ρ' => rw [show PostW K C D' (.ct ρ') = _ from rfl]; intro σ' O2 H2 R; rw [hc]; exact h σ' O2 H2 R
  | rt r ρ' => rw [show PostW K C D' (.rt r ρ') = _ from rfl]; intro v σ' O2 H2 R q; rw [hr]; exact h v σ' O2 H2 R q
  | ex n ρ' => exact h
  | stuck => exact h
variable {X : Cx} {st : Stmt} {sts : List Stmt} {s s1 s2 : SE}
theorem s_W (h : PS X st (tS X.K C s)) : PS X st (tSW X.K C s) := ps_imp h fun D σ H ⟨O, ρ, R, q⟩ => ⟨O, ρ, R, q.to⟩
theorem ss_W (h : PSs X sts (tS X.K C s)) : PSs X sts (tSW X.K C s) := pss_imp h fun D σ H ⟨O, ρ, R, q⟩ => ⟨O, ρ, R, q.to⟩
theorem ss_consW (h1 : PS X st (tSW X.K C s1)) (h2 : PSs X sts (tSW X.K C s2)) : PSs X (st :: sts) (tSW X.K C (sSeq s1 s2)) := pss_imp (pss_cons h1 h2) fun D σ H ⟨O, ρ, R, q⟩ =>
  ⟨O, ρ, R, PostW.then (f := s2) q (fun ρ' σ' O' H' R' p => ⟨O', ρ', R', p⟩) rfl rfl rfl⟩
theorem ss_oneW (h1 : PS X st (tSW X.K C s1)) : PSs X [st] (tSW X.K C s1) := pss_one h1
end
end PL

/-! PL7: own lists and dicts changed, raise, try, the rule for a def. -/
namespace PL
open PySem L2
section
variable {X : Cx} {C : PC} {a b c e k : Expr} {st : Stmt} {sts : List Stmt} {f g h : VE} {l m : LE} {x : XE} {bt : BE} {s s1 s2 : SE} {pos p1 p2 apos cpos : Pos} {fs : List VE} {es : List Expr}
/-! ### own lists -/
/-- x.append(e) -/
theorem s_app (i : Nat) {y : Str} {np : Pos} (ha : PE X a (tV X.K C f)) (hN : X.N[i]? = some y := by rfl) (hv : Vis X.env.scope y := by first | exact Or.inl rfl | exact Or.inr (Or.inl rfl) | exact Or.inr (Or.inr rfl)) (hd : (y == ("__debug__" : Str)) = false := by decide)
    (hcd : (y == ("__classdict__" : Str)) = false := by decide) (hs : starEach [a] X.env = (false, eval a X.env) :: starEach [] X.env := by rfl)
    (hbase : attributeBase (.Name y np) "append" X.env (eval (.Name y np) X.env) = eval (.Name y np) X.env := by rfl)
    (hfew : ((backTo cpos (starEach [a] X.env)).all (fun x => !x.1) && (backToKw cpos (keywordEach [] X.env)).all (fun x => x.1.isSome)
      && decide ([a].length + ([] : List Keyword).length + (if ([] : List Keyword).isEmpty then 0 else 1) < 30)) = true := by rfl)
    (hline : (apos.endLine == cpos.line) = true := by rfl) (hsw : swapsWith (.Call (.Attribute (.Name y np) "append" apos) [a] [] cpos) none pos.line X.env = pure false := by rfl) :
    PS X (.Expr (.Call (.Attribute (.Name y np) "append" apos) [a] [] cpos) pos) (tS X.K C (sApp i f)) :=
  ps_imp (ps_expr (pe_bm PySem.F.plainAttrs_list PySem.F.slot_list_append PySem.F.type_list_append mt_append (pe_var (i := i) hN hv hd hcd) (pa_cons ha pa_nil hs) hbase hfew hline hs (by rfl)) hsw) fun D σ H ⟨O, ρ, R, q⟩ => by
  unfold sApp at q
  split at q
  · rename_i ds hi
    obtain ⟨p, vs, h1, h2, h3, h4, h5⟩ := R.own hi
    refine ⟨.ref p, h1, .inl ⟨rfl, _, SqL.of h4⟩, O, ρ, R, Post.fin R q fun d _ k v H1 x1 p1 => ?_⟩
    by_cases hc : ds.length < 1000000
    · have k2 := k
      simp only [if_pos hc] at k2
      have h4' := x1.ex _ _ h4 rfl
      refine ⟨p, vs, v, rfl, rfl, h4', line_lt (by rw [h5.len]; exact hc), ?_⟩
      refine k2 σ O _ ((R.grow x1).put hi h1 ((DpAll.mono (hid_mono x1) h5).append (.cons p1 .nil))) ?_
      rw [hid_upd h2]
      exact hid_mono x1
    · have k2 := k
      simp only [if_neg hc] at k2
      exact k2.elim
  · exact q.elim
/-- x.insert(k, e) -/
theorem s_ins (i : Nat) {y : Str} {np : Pos} (hk : PE X k (tV X.K C g)) (ha : PE X a (tV X.K C f)) (hN : X.N[i]? = some y := by rfl) (hv : Vis X.env.scope y := by first | exact Or.inl rfl | exact Or.inr (Or.inl rfl) | exact Or.inr (Or.inr rfl)) (hd : (y == ("__debug__" : Str)) = false := by decide)
    (hcd : (y == ("__classdict__" : Str)) = false := by decide) (hs : starEach [k, a] X.env = (false, eval k X.env) :: starEach [a] X.env := by rfl) (hs2 : starEach [a] X.env = (false, eval a X.env) :: starEach [] X.env := by rfl)
    (hbase : attributeBase (.Name y np) "insert" X.env (eval (.Name y np) X.env) = eval (.Name y np) X.env := by rfl)
    (hfew : ((backTo cpos (starEach [k, a] X.env)).all (fun x => !x.1) && (backToKw cpos (keywordEach [] X.env)).all (fun x => x.1.isSome)
      && decide ([k, a].length + ([] : List Keyword).length + (if ([] : List Keyword).isEmpty then 0 else 1) < 30)) = true := by rfl)
    (hline : (apos.endLine == cpos.line) = true := by rfl) (hplain : (backTo cpos (starEach [a] X.env)).any (·.1) = false := by rfl) (hsw : swapsWith (.Call (.Attribute (.Name y np) "insert" apos) [k, a] [] cpos) none pos.line X.env = pure false := by rfl) :
    PS X (.Expr (.Call (.Attribute (.Name y np) "insert" apos) [k, a] [] cpos) pos) (tS X.K C (sIns i g f)) :=
  ps_imp (ps_expr (pe_bm PySem.F.plainAttrs_list PySem.F.slot_list_insert PySem.F.type_list_insert mt_insert (pe_var (i := i) hN hv hd hcd) (pa_cons hk (pa_cons ha pa_nil hs2) hs) hbase hfew hline hs hplain) hsw) fun D σ H ⟨O, ρ, R, q⟩ => by
  unfold sIns at q
  split at q
  · rename_i ds hi
    obtain ⟨p, vs, h1, h2, h3, h4, h5⟩ := R.own hi
    refine ⟨.ref p, h1, .inl ⟨rfl, _, SqL.of h4⟩, O, ρ, R, Post.fin R q fun n _ k0 v0 H0 x0 p0 => ?_⟩
    refine ⟨O, ρ, R.grow x0, Post.fin (R.grow x0) (Post.grow k0 (hid_mono x0)) fun d _ k v H1 x1 p1 => ?_⟩
    have x01 := x0.trans x1
    cases n with
    | int n =>
      by_cases hc : 0 ≤ n ∧ n ≤ ds.length ∧ ds.length < 1000000
      · have k2 := k
        simp only [if_pos hc] at k2
        have h4' := x01.ex _ _ h4 rfl
        refine ⟨p, vs, n, v, rfl, by rw [dp_int p0], h4', line_lt (by rw [h5.len]; exact hc.2.2), hc.1, by omega, ?_⟩
        have h5' := DpAll.mono (hid_mono x01) h5
        refine k2 σ O _ ((R.grow x01).put hi h1 ?_) ?_
        · rw [List.append_assoc]
          exact (h5'.take _).append (.cons p1 (h5'.drop _))
        · rw [hid_upd h2]
          exact hid_mono x1
      · have k2 := k
        simp only [if_neg hc] at k2
        exact k2.elim
    | _ => exact k.elim
  · exact q.elim
/-- x.clear(), x.reverse() -/
theorem s_clear (i : Nat) {y : Str} {np : Pos} (hN : X.N[i]? = some y := by rfl) (hv : Vis X.env.scope y := by first | exact Or.inl rfl | exact Or.inr (Or.inl rfl) | exact Or.inr (Or.inr rfl)) (hd : (y == ("__debug__" : Str)) = false := by decide)
    (hcd : (y == ("__classdict__" : Str)) = false := by decide)
    (hbase : attributeBase (.Name y np) "clear" X.env (eval (.Name y np) X.env) = eval (.Name y np) X.env := by rfl)
    (hline : (apos.endLine == cpos.line) = true := by rfl) (hsw : swapsWith (.Call (.Attribute (.Name y np) "clear" apos) [] [] cpos) none pos.line X.env = pure false := by rfl) :
    PS X (.Expr (.Call (.Attribute (.Name y np) "clear" apos) [] [] cpos) pos) (tS X.K C (sClear i)) :=
  ps_imp (ps_expr (pe_bm0 PySem.F.plainAttrs_list PySem.F.slot_list_clear PySem.F.type_list_clear mt_clear (pe_var (i := i) hN hv hd hcd) hbase hline) hsw) fun D σ H ⟨O, ρ, R, q⟩ => by
  unfold sClear at q
  split at q
  · rename_i ds hi
    obtain ⟨p, vs, h1, h2, h3, h4, h5⟩ := R.own hi
    refine ⟨.ref p, h1, .inl ⟨rfl, _, SqL.of h4⟩, p, vs, rfl, rfl, h4, q σ O _ (R.put hi h1 .nil) ?_⟩
    rw [hid_upd h2]
    exact Ex.refl _
  · exact q.elim
theorem s_rev (i : Nat) {y : Str} {np : Pos} (hN : X.N[i]? = some y := by rfl) (hv : Vis X.env.scope y := by first | exact Or.inl rfl | exact Or.inr (Or.inl rfl) | exact Or.inr (Or.inr rfl)) (hd : (y == ("__debug__" : Str)) = false := by decide)
    (hcd : (y == ("__classdict__" : Str)) = false := by decide)
    (hbase : attributeBase (.Name y np) "reverse" X.env (eval (.Name y np) X.env) = eval (.Name y np) X.env := by rfl)
    (hline : (apos.endLine == cpos.line) = true := by rfl) (hsw : swapsWith (.Call (.Attribute (.Name y np) "reverse" apos) [] [] cpos) none pos.line X.env = pure false := by rfl) :
    PS X (.Expr (.Call (.Attribute (.Name y np) "reverse" apos) [] [] cpos) pos) (tS X.K C (sRev i)) :=
  ps_imp (ps_expr (pe_bm0 PySem.F.plainAttrs_list PySem.F.slot_list_reverse PySem.F.type_list_reverse mt_reverse (pe_var (i := i) hN hv hd hcd) hbase hline) hsw) fun D σ H ⟨O, ρ, R, q⟩ => by
  unfold sRev at q
  split at q
  · rename_i ds hi
    obtain ⟨p, vs, h1, h2, h3, h4, h5⟩ := R.own hi
    refine ⟨.ref p, h1, .inl ⟨rfl, _, SqL.of h4⟩, p, vs, rfl, rfl, h4, q σ O _ (R.put hi h1 h5.reverse) ?_⟩
    rw [hid_upd h2]
    exact Ex.refl _
  · exact q.elim
/-- x.extend(e), e a list of the program's own -/
theorem s_ext (i : Nat) {y : Str} {np : Pos} (ha : PE X a (tO X.K C l)) (hN : X.N[i]? = some y := by rfl) (hv : Vis X.env.scope y := by first | exact Or.inl rfl | exact Or.inr (Or.inl rfl) | exact Or.inr (Or.inr rfl)) (hd : (y == ("__debug__" : Str)) = false := by decide)
    (hcd : (y == ("__classdict__" : Str)) = false := by decide) (hs : starEach [a] X.env = (false, eval a X.env) :: starEach [] X.env := by rfl)
    (hbase : attributeBase (.Name y np) "extend" X.env (eval (.Name y np) X.env) = eval (.Name y np) X.env := by rfl)
    (hfew : ((backTo cpos (starEach [a] X.env)).all (fun x => !x.1) && (backToKw cpos (keywordEach [] X.env)).all (fun x => x.1.isSome)
      && decide ([a].length + ([] : List Keyword).length + (if ([] : List Keyword).isEmpty then 0 else 1) < 30)) = true := by rfl)
    (hline : (apos.endLine == cpos.line) = true := by rfl) (hsw : swapsWith (.Call (.Attribute (.Name y np) "extend" apos) [a] [] cpos) none pos.line X.env = pure false := by rfl) :
    PS X (.Expr (.Call (.Attribute (.Name y np) "extend" apos) [a] [] cpos) pos) (tS X.K C (sExt i l)) :=
  ps_imp (ps_expr (pe_bm PySem.F.plainAttrs_list PySem.F.slot_list_extend PySem.F.type_list_extend mt_extend (pe_var (i := i) hN hv hd hcd) (pa_cons ha pa_nil hs) hbase hfew hline hs (by rfl)) hsw) fun D σ H ⟨O, ρ, R, q⟩ => by
  unfold sExt at q
  split at q
  · rename_i ds hi
    obtain ⟨p, vs, h1, h2, h3, h4, h5⟩ := R.own hi
    refine ⟨.ref p, h1, .inl ⟨rfl, _, SqL.of h4⟩, O, ρ, R, Post.fin R q fun es _ k b zs H1 x1 hb p1 => ?_⟩
    by_cases hc : ds.length + es.length < 1000000
    · have k2 := k
      simp only [if_pos hc] at k2
      have h4' := x1.ex _ _ h4 rfl
      refine ⟨p, b, vs, zs, rfl, rfl, h4', hb, line_le (by rw [h5.len, p1.len]; omega), ?_⟩
      refine k2 σ O _ ((R.grow x1).put hi h1 ((DpAll.mono (hid_mono x1) h5).append p1)) ?_
      rw [hid_upd h2]
      exact hid_mono x1
    · have k2 := k
      simp only [if_neg hc] at k2
      exact k2.elim
  · exact q.elim
/-- x[k] = e -/
theorem s_put (i : Nat) {y : Str} {np : Pos} (hk : PE X k (tV X.K C g)) (ha : PE X a (tV X.K C f)) (hN : X.N[i]? = some y := by rfl) (hv : Vis X.env.scope y := by first | exact Or.inl rfl | exact Or.inr (Or.inl rfl) | exact Or.inr (Or.inr rfl)) (hd : (y == ("__debug__" : Str)) = false := by decide)
    (hcd : (y == ("__classdict__" : Str)) = false := by decide)
    (hsub : ∀ v, assign (.Subscript (.Name y np) k p1) X.env v = (do
      let ov ← holding [v] (eval (.Name y np) X.env)
      let iv ← holding [v, ov] (eval k X.env)
      standAt p1
      holding [v, ov, iv] (setItem ov iv v)
      release [v, ov, iv] []) := by intro _; rfl)
    (hs : swapsWithSole [.Subscript (.Name y np) k p1] a pos.line X.env = pure false := by rfl) (hw : swappedStores [.Subscript (.Name y np) k p1] a X.env = pure none := by rfl)
    (h1 : (assignEach [.Subscript (.Name y np) k p1] X.env).map (·.2) = [assign (.Subscript (.Name y np) k p1) X.env] := by rfl) :
    PS X (.Assign [.Subscript (.Name y np) k p1] a pos) (tS X.K C (sPut i g f)) :=
  ps_imp (ps_asg ha (pg_sub (pe_var (i := i) hN hv hd hcd) hk set_list hsub) hs hw h1) fun D σ H ⟨O, ρ, R, q⟩ => by
  refine ⟨O, ρ, R, Post.fin R q fun d _ k v H1 x1 p1 => ?_⟩
  have k := Post.grow k (hid_mono x1)
  have R1 := R.grow x1
  split at k
  · rename_i ds hi
    obtain ⟨p, vs, a1, a2, a3, a4, a5⟩ := R1.own hi
    refine ⟨.ref p, a1, O, ρ, R1, Post.fin R1 k fun n _ k2 u H2 x2 p2 => ?_⟩
    cases n with
    | int n =>
      cases hj : ixN ds.length n with
      | none => simp only [hj] at k2; exact k2.elim
      | some j =>
        simp only [hj] at k2
        have a5' := DpAll.mono (hid_mono x2) a5
        refine ⟨p, vs, n, j, rfl, dp_int p2, x2.ex _ _ a4 rfl, by rw [a5.len]; exact hj, ?_⟩
        refine k2 σ O _ ((R1.grow x2).put hi a1 (a5'.set (Dp.mono (hid_mono x2) p1) j)) ?_
        rw [hid_upd a2]
        exact hid_mono x2
    | _ => exact k2.elim
  · exact k.elim
/-- x.append(y.pop(k)) -/
theorem s_appPop (i j : Nat) {y z : Str} {np zp ap2 cp2 : Pos} (hk : PE X k (tV X.K C g)) (hN : X.N[i]? = some y := by rfl) (hv : Vis X.env.scope y := by first | exact Or.inl rfl | exact Or.inr (Or.inl rfl) | exact Or.inr (Or.inr rfl)) (hd : (y == ("__debug__" : Str)) = false := by decide)
    (hcd : (y == ("__classdict__" : Str)) = false := by decide) (hNz : X.N[j]? = some z := by rfl) (hvz : Vis X.env.scope z := by first | exact Or.inl rfl | exact Or.inr (Or.inl rfl) | exact Or.inr (Or.inr rfl)) (hdz : (z == ("__debug__" : Str)) = false := by decide)
    (hcdz : (z == ("__classdict__" : Str)) = false := by decide)
    (hsk : starEach [k] X.env = (false, eval k X.env) :: starEach [] X.env := by rfl)
    (hbasez : attributeBase (.Name z zp) "pop" X.env (eval (.Name z zp) X.env) = eval (.Name z zp) X.env := by rfl)
    (hfewz : ((backTo cp2 (starEach [k] X.env)).all (fun x => !x.1) && (backToKw cp2 (keywordEach [] X.env)).all (fun x => x.1.isSome)
      && decide ([k].length + ([] : List Keyword).length + (if ([] : List Keyword).isEmpty then 0 else 1) < 30)) = true := by rfl)
    (hlinez : (ap2.endLine == cp2.line) = true := by rfl)
    (hs : starEach [.Call (.Attribute (.Name z zp) "pop" ap2) [k] [] cp2] X.env = (false, eval (.Call (.Attribute (.Name z zp) "pop" ap2) [k] [] cp2) X.env) :: starEach [] X.env := by rfl)
    (hbase : attributeBase (.Name y np) "append" X.env (eval (.Name y np) X.env) = eval (.Name y np) X.env := by rfl)
    (hfew : ((backTo cpos (starEach [.Call (.Attribute (.Name z zp) "pop" ap2) [k] [] cp2] X.env)).all (fun x => !x.1) && (backToKw cpos (keywordEach [] X.env)).all (fun x => x.1.isSome)
      && decide ([PySem.Expr.Call (.Attribute (.Name z zp) "pop" ap2) [k] [] cp2].length + ([] : List Keyword).length + (if ([] : List Keyword).isEmpty then 0 else 1) < 30)) = true := by rfl)
    (hline : (apos.endLine == cpos.line) = true := by rfl) (hsw : swapsWith (.Call (.Attribute (.Name y np) "append" apos) [.Call (.Attribute (.Name z zp) "pop" ap2) [k] [] cp2] [] cpos) none pos.line X.env = pure false := by rfl) :
    PS X (.Expr (.Call (.Attribute (.Name y np) "append" apos) [.Call (.Attribute (.Name z zp) "pop" ap2) [k] [] cp2] [] cpos) pos) (tS X.K C (sAppPop i j g)) :=
  ps_imp (ps_expr (pe_bm PySem.F.plainAttrs_list PySem.F.slot_list_append PySem.F.type_list_append mt_append (pe_var (i := i) hN hv hd hcd) (pa_cons (pe_bm PySem.F.plainAttrs_list PySem.F.slot_list_pop PySem.F.type_list_pop mt_popAt (pe_var (i := j) hNz hvz hdz hcdz) (pa_cons hk pa_nil hsk) hbasez hfewz hlinez hsk (by rfl)) pa_nil hs) hbase hfew hline hs (by rfl)) hsw) fun D σ H ⟨O, ρ, R, q⟩ => by
  unfold sAppPop at q
  split at q
  · rename_i ds es hi hj
    obtain ⟨p, vs, h1, h2, h3, h4, h5⟩ := R.own hi
    obtain ⟨r, ws, j1, j2, j3, j4, j5⟩ := R.own hj
    refine ⟨.ref p, h1, .inl ⟨rfl, _, SqL.of h4⟩, .ref r, j1, .inl ⟨rfl, _, SqL.of j4⟩, O, ρ, R, Post.fin R q fun n _ k0 v0 H1 x1 p0 => ?_⟩
    cases n with
    | int n =>
      by_cases hc : 0 ≤ n ∧ n < es.length ∧ es.length < 1000000 ∧ ds.length < 1000000 ∧ i ≠ j
      · have k2 := k0
        simp only [if_pos hc] at k2
        cases he : es[n.toNat]? with
        | none => simp only [he] at k2; exact k2.elim
        | some d =>
          simp only [he] at k2
          have R1 := R.grow x1
          have j5' := DpAll.mono (hid_mono x1) j5
          obtain ⟨v, e1, e2⟩ := j5'.get he
          have hne : p ≠ r := fun z => by subst z; exact R.apart i j _ _ _ hc.2.2.2.2 hi rfl h1 hj rfl j1
          have hsq : seqIndex? n ws.length = some n.toNat := by
            have := (ixN_seq (n := ws.length) (i := n) (j := n.toNat) (by unfold ixN; rw [if_pos hc.1, if_pos (by rw [j5.len]; exact hc.2.1)])).1
            exact this
          have hn63 : n < 2 ^ 63 := by
            have h1 := hc.2.1
            have h2 := hc.2.2.1
            omega
          refine ⟨r, ws, n, n.toNat, v, rfl, by rw [dp_int p0], x1.ex _ _ j4 rfl, by omega, hn63, hsq, e1, ?_⟩
          have hp' : (upd H1 r (.lst (ws.eraseIdx n.toNat))) p = some (.lst vs) := by rw [upd_ne hne]; exact x1.ex _ _ h4 rfl
          refine ⟨p, vs, v, rfl, rfl, hp', line_lt (by rw [h5.len]; exact hc.2.2.2.1), ?_⟩
          have R2 := R1.put (vs' := ws.eraseIdx n.toNat) hj j1 (j5'.erase n.toNat)
          have hi2 : (ρ.set j (some (.ow (es.eraseIdx n.toNat))))[i]? = some (some (.ow ds)) := by rw [List.getElem?_set_ne (Ne.symm hc.2.2.2.2)]; exact hi
          have hh : hid O (upd H1 r (.lst (ws.eraseIdx n.toNat))) = hid O H1 := hid_upd j2
          refine k2 σ O _ (R2.put hi2 h1 ?_) ?_
          · rw [hh]
            exact (DpAll.mono (hid_mono x1) h5).append (.cons e2 .nil)
          · rw [hid_upd h2, hh]
            exact hid_mono x1
      · have k2 := k0
        simp only [if_neg hc] at k2
        exact k2.elim
    | _ => exact k0.elim
  · exact q.elim

/-! ### dicts -/
theorem kv_any {K : PySem.W.Frag} {G : Hp} {vs : List (List Key × V)} {kvs : List (List Int × PyData)} (h : KvAll K G vs kvs) (k : List Int) : (vs.any fun p => decide (p.1 = k.map Sum.inl)) = (kvs.any fun p => decide (p.1 = k)) := by
  induction h with
  | nil => rfl
  | @cons k' v d r s hd _ ih =>
    rw [List.any_cons, List.any_cons, ih]
    congr 1
    by_cases e : k' = k
    · subst e
      rw [decide_eq_true rfl, decide_eq_true rfl]
    · rw [decide_eq_false e, decide_eq_false fun z => e ?_]
      have hinj : ∀ {a b : List Int}, a.map (Sum.inl (β := Str)) = b.map Sum.inl → a = b := fun {a b} h => by
        induction a generalizing b with
        | nil => cases b with
          | nil => rfl
          | cons _ _ => cases h
        | cons x xs ih => cases b with
          | nil => cases h
          | cons y ys =>
            rw [List.map_cons, List.map_cons] at h
            injection h with h1 h2
            injection h1 with h1
            rw [h1, ih h2]
      exact hinj z
theorem key_inj {a b : List Int} (h : a.map (Sum.inl (β := Str)) = b.map Sum.inl) : a = b := by
  induction a generalizing b with
  | nil => cases b with
    | nil => rfl
    | cons _ _ => cases h
  | cons x xs ih => cases b with
    | nil => cases h
    | cons y ys =>
      rw [List.map_cons, List.map_cons] at h
      injection h with h1 h2
      injection h1 with h1
      rw [h1, ih h2]
theorem kv_get {K : PySem.W.Frag} {G : Hp} {vs : List (List Key × V)} {kvs : List (List Int × PyData)} (h : KvAll K G vs kvs) (k : List Int) : (∀ d, dGet kvs k = some d → ∃ v, valV vs (k.map Sum.inl) = some v ∧ Dp K G v d) ∧ (valV vs (k.map Sum.inl)).isSome = (dGet kvs k).isSome := by
  induction h with
  | nil => exact ⟨fun d e => (nomatch e), rfl⟩
  | @cons k' v d r s hd _ ih =>
    unfold dGet at ih ⊢
    by_cases e : k' = k
    · subst e
      rw [valV_pos rfl, List.find?_cons, decide_eq_true rfl]
      exact ⟨fun d' e' => by cases e'; exact ⟨v, rfl, hd⟩, rfl⟩
    · rw [valV_neg fun z => e (key_inj z), List.find?_cons, decide_eq_false e]
      exact ih
theorem kv_put {K : PySem.W.Frag} {G : Hp} {vs : List (List Key × V)} {kvs : List (List Int × PyData)} (h : KvAll K G vs kvs) (k : List Int) {v : V} {d : PyData} (hd : Dp K G v d) : KvAll K G (putK vs (k.map Sum.inl) v) (dPut kvs k d) := by
  unfold putK dPut
  rw [kv_any h k]
  by_cases c : (kvs.any fun p => decide (p.1 = k)) = true
  · rw [if_pos c, if_pos c]
    clear c
    induction h with
    | nil => exact .nil
    | @cons k' v' d' r s hd' _ ih =>
      rw [List.map_cons, List.map_cons]
      by_cases e : k' = k
      · subst e
        rw [if_pos rfl, if_pos rfl]
        exact .cons hd ih
      · rw [if_neg e, if_neg fun z => e (key_inj z)]
        exact .cons hd' ih
  · rw [if_neg c, if_neg c]
    clear c
    induction h with
    | nil => exact .cons hd .nil
    | cons hd' _ ih => exact .cons hd' ih
theorem key_V {K : PySem.W.Frag} {G : Hp} {vs : List V} {ds : List PyData} {ks : List Int} (a : DpAll K G vs ds) (e : asInts ds = some ks) : vs = (ks.map (Sum.inl (β := Str))).map kV := by
  rw [a.ints e, List.map_map]
  rfl
/-- d[(..)] = e -/
theorem s_dput (i : Nat) {y : Str} {np : Pos} {kk : Nat} (hu : X.A.units + 1 < cLine) (hk : PA X es (tA X.K C (aAll fs))) (ha : PE X a (tV X.K C f)) (hl : fs.length ≤ 1000 := by exact Nat.le_of_ble_eq_true rfl) (hN : X.N[i]? = some y := by rfl) (hv : Vis X.env.scope y := by first | exact Or.inl rfl | exact Or.inr (Or.inl rfl) | exact Or.inr (Or.inr rfl)) (hd : (y == ("__debug__" : Str)) = false := by decide)
    (hcd : (y == ("__classdict__" : Str)) = false := by decide) (hs : swapsWith a (some (.Subscript (.Name y np) (.Tuple es kk p1) p2)) pos.line X.env = pure false := by rfl) :
    PS X (.Assign [.Subscript (.Name y np) (.Tuple es kk p1) p2] a pos) (tS X.K C (sDPutE i fs f)) :=
  ps_imp (ps_dput hu (pe_var (i := i) hN hv hd hcd) (pe_tup hk) ha hs) fun D σ H ⟨O, ρ, R, q⟩ => by
  refine ⟨O, ρ, R, Post.fin R q fun d _ k v H1 x1 p1 => ?_⟩
  have k := Post.grow k (hid_mono x1)
  have R1 := R.grow x1
  split at k
  · rename_i kvs hi
    obtain ⟨u, a1, p, vs, rfl, a2, a3, a4, a5⟩ := R1.slot i _ hi
    refine ⟨.ref p, a1, O, ρ, R1, Post.fin R1 k fun ds ed k2 us H2 x2 p2 => ⟨line_le (by rw [p2.len, aAll_len _ _ _ ed]; omega), fun t nt => ?_⟩⟩
    cases hks : asInts ds with
    | none => simp only [hks] at k2; exact k2.elim
    | some ks =>
      simp only [hks] at k2
      by_cases hc : kvs.length < 1000000
      · simp only [if_pos hc] at k2
        have x3 := x2.trans (Gx.new nt (o := .tup us))
        have hp : (upd H2 t (.tup us)) p = some (.dT vs) := x3.ex _ _ a4 rfl
        refine ⟨p, upd (upd H2 t (.tup us)) p (.dT (putK vs (ks.map Sum.inl) v)), rfl, DPut.t hp (by rw [upd_same, key_V p2 hks]) (line_lt (by rw [a5.len]; exact hc)), ?_⟩
        refine k2 σ O _ ((R1.grow x3).putD hi a1 (kv_put (KvAll.mono (hid_mono x3) a5) ks (Dp.mono (hid_mono x3) p1))) ?_
        rw [hid_upd a2]
        exact hid_mono x3
      · simp only [if_neg hc] at k2
        exact k2.elim
  · exact k.elim
theorem v_dget (i : Nat) {kk : Nat} {e : Expr} (hu : X.A.units + 1 < cLine) (hd : PE X e (tD X.K C i)) (hk : PA X es (tA X.K C (aAll fs))) (hl : fs.length ≤ 1000 := by exact Nat.le_of_ble_eq_true rfl) (hs : NoSl (.Tuple es kk p1) := by intro _ _; rfl) : PE X (.Subscript e (.Tuple es kk p1) pos) (tV X.K C (eDGet i fs)) :=
  pe_imp (pe_dget hu hd (pe_tup hk) hs) fun σ H Q ⟨O, ρ, R, q⟩ => by
  refine ⟨O, ρ, R, (Fin.bind q).imp fun kvs _ q1 p vs H1 x1 s1 al => ?_⟩
  refine ⟨O, ρ, R.grow x1, ((Fin.bind q1).grow x1).imp fun ds ed q2 us H2 x2 p2 => ⟨line_le (by rw [p2.len, aAll_len _ _ _ ed]; omega), fun t nt => ?_⟩⟩
  cases hks : asInts ds with
  | none => rw [hks] at q2; exact q2.elim
  | some ks =>
    rw [hks] at q2
    cases hg : dGet kvs ks with
    | none => simp only [hg] at q2; exact q2.elim
    | some d =>
      simp only [hg] at q2
      obtain ⟨v, h1, h2⟩ := (kv_get al ks).1 d hg
      have x3 := x2.trans (Gx.new nt (o := .tup us))
      have q3 : ∀ v H', Gx C.T H H' → Dp X.K (hid O H') v d → Q v H' := q2
      exact ⟨p, v, rfl, by rw [← h1]; exact DGet.t (x3.ex _ _ s1 rfl) (by rw [upd_same, key_V p2 hks]), q3 v _ (x1.trans x3) (Dp.mono (hid_mono x3) h2)⟩
theorem b_din (i : Nat) {kk : Nat} {e : Expr} (hu : X.A.units + 1 < cLine) (hk : PA X es (tA X.K C (aAll fs))) (hd : PE X e (tD X.K C i)) (hl : fs.length ≤ 1000 := by exact Nat.le_of_ble_eq_true rfl) (hm : behindInMarks .In e = false := by rfl) : PT X (.Compare (.Tuple es kk p1) [.In] [e] pos) (tT X.K C (bOf (eDIn false fs i))) :=
  pt_imp (pt_cmp (pc_din hu (pe_tup hk) hd) hm) fun σ H Q q => by
  obtain ⟨O, ρ, R, q⟩ := tT_tV q
  refine ⟨O, ρ, R, (Fin.bind q).imp fun ds ed q1 us H1 x1 p2 => ⟨line_le (by rw [p2.len, aAll_len _ _ _ ed]; omega), fun t nt => ?_⟩⟩
  have x2 := x1.trans (Gx.new nt (o := .tup us))
  refine ⟨O, ρ, R.grow x2, ((Fin.bind q1).grow x2).imp fun kvs _ q2 p vs H3 x3 s1 al => ?_⟩
  cases hks : asInts ds with
  | none => simp only [hks] at q2; exact q2.elim
  | some ks =>
    simp only [hks] at q2
    have x4 := x2.trans x3
    have ht : H3 t = some (.tup ((ks.map Sum.inl).map kV)) := by rw [x3.ex _ _ upd_same rfl, key_V p2 hks]
    have h2 := (kv_get al ks).2
    refine ⟨p, _, rfl, DGet.t s1 ht, ?_⟩
    rw [h2]
    exact (show ∀ v H', Gx C.T H H' → Dp X.K (hid O H') v (.bool (dGet kvs ks).isSome) → ∃ k, v = .bl k ∧ Q k H' from q2) _ H3 x4 (.bl _)
theorem b_dnotin (i : Nat) {kk : Nat} {e : Expr} (hu : X.A.units + 1 < cLine) (hk : PA X es (tA X.K C (aAll fs))) (hd : PE X e (tD X.K C i)) (hl : fs.length ≤ 1000 := by exact Nat.le_of_ble_eq_true rfl) (hm : behindInMarks .NotIn e = false := by rfl) : PT X (.Compare (.Tuple es kk p1) [.NotIn] [e] pos) (tT X.K C (bOf (eDIn true fs i))) :=
  pt_imp (pt_cmp (pc_dnotin hu (pe_tup hk) hd) hm) fun σ H Q q => by
  obtain ⟨O, ρ, R, q⟩ := tT_tV q
  refine ⟨O, ρ, R, (Fin.bind q).imp fun ds ed q1 us H1 x1 p2 => ⟨line_le (by rw [p2.len, aAll_len _ _ _ ed]; omega), fun t nt => ?_⟩⟩
  have x2 := x1.trans (Gx.new nt (o := .tup us))
  refine ⟨O, ρ, R.grow x2, ((Fin.bind q1).grow x2).imp fun kvs _ q2 p vs H3 x3 s1 al => ?_⟩
  cases hks : asInts ds with
  | none => simp only [hks] at q2; exact q2.elim
  | some ks =>
    simp only [hks] at q2
    have x4 := x2.trans x3
    have ht : H3 t = some (.tup ((ks.map Sum.inl).map kV)) := by rw [x3.ex _ _ upd_same rfl, key_V p2 hks]
    have h2 := (kv_get al ks).2
    refine ⟨p, _, rfl, DGet.t s1 ht, ?_⟩
    rw [h2]
    exact (show ∀ v H', Gx C.T H H' → Dp X.K (hid O H') v (.bool (!(dGet kvs ks).isSome)) → ∃ k, v = .bl k ∧ Q k H' from q2) _ H3 x4 (.bl _)
theorem v_dlen (i : Nat) {e : Expr} (hg : Gl X "len") (hm : X.mg "len" = none) (hd : PE X e (tD X.K C i)) (he : starEach [e] X.env = (false, eval e X.env) :: starEach [] X.env := by rfl) :
    PE X (.Call (.Name "len" p1) [e] [] pos) (tV X.K C (eDLen i)) := pe_imp (pe_callB call_len_dT hg hm PySem.boot_len (pa_cons hd pa_nil he) (by decide) (by decide) he) fun σ H Q ⟨O, ρ, R, q⟩ => by
  refine ⟨O, ρ, R, (Fin.bind q).imp fun kvs _ q1 p vs H1 x1 s1 al => ⟨p, vs, rfl, s1, ?_⟩⟩
  rw [al.len]
  exact (show ∀ v H', Gx C.T H H' → Dp X.K (hid O H') v (.int kvs.length) → Q v H' from q1) _ H1 x1 (.int _)
theorem v_dis (i : Nat) {e : Expr} (hg : Gl X "isinstance") (hm : X.mg "isinstance" = none) (hgT : Gl X "dict") (hmT : X.mg "dict" = none) (hd : PE X e (tD X.K C i)) (he : starEach (e :: [.Name "dict" p1]) X.env = (false, eval e X.env) :: starEach [.Name "dict" p1] X.env := by rfl) :
    PE X (.Call (.Name "isinstance" p2) [e, .Name "dict" p1] [] pos) (tV X.K C (eDIs i)) :=
  pe_imp (pe_callB call_isi hg hm (by decide +kernel) (pa_cons hd (pa_cons (pe_bltn (v := .ty "dict") hgT hmT (by decide +kernel) rfl (by decide) (by decide)) pa_nil) he) (by decide) (by decide) he) fun σ H Q ⟨O, ρ, R, q⟩ => by
  refine ⟨O, ρ, R, (Fin.bind q).imp fun kvs _ q1 p vs H1 x1 s1 al => ?_⟩
  exact ⟨.ref p, .ty "dict", .type "dict", .type "dict", true, rfl, .ty _, .base (.dT s1), kit_ty (by decide +kernel), (show ∀ v H', Gx C.T H H' → Dp X.K (hid O H') v (.bool true) → Q v H' from q1) _ H1 x1 (.bl _)⟩

/-! ### raise -/
theorem s_raise {n : String} {x m : Str} {C' : Addr} {bmB : List Value} {B newId initId : String} {j : Nat} (hc : X.calm = true) (tk : Takes X C.W) (F : ExcBaseFacts B newId initId bmB) (q : PySem.W.excIn X.K C' bmB newId = true) (gC : X.mg x = some (.ref C')) (kC : PySem.W.keepIn X.K (.ref C') = true) (r : Raises X (.ref C')) (hg : Gl X x) (hcv : C.cv n = .ref C')
    (hdb : (x == ("__debug__" : Str)) = false := by decide) : PS X (.Raise (some (.Call (.Name x p1) [.Constant (.str m) j p2] [] apos)) none pos) (tS X.K C (sRaise n)) := ps_imp (ps_raise hc tk (pmk_own F q gC kC r hg hdb)) fun D σ H ⟨O, ρ, R, q⟩ => by
  have := q σ O H R (Ex.refl _)
  rw [hcv] at this
  exact this
end

/-! ### a def by its body -/
section
variable {P : Program} {w : World} {K : PySem.W.Frag} {mg : Str → Option Value} {base : Heap} {tb : List (Addr × Str)} {cv : String → Value}
def PC.of (tb : List (Addr × Str)) (cv : String → Value) (H : Hp) (O : List Addr) (E : XK) : PC := ⟨[], H, O, fun cls d _ H' => E cls d H', cv, fun _ _ => False, tb⟩
theorem args_rep {O : List Addr} {H : Hp} {E : XK} {vs : List V} {args : List SL} {n : Nat} (hT : LamX.Tabs tb H) (al : ∀ b ∈ O, H b ≠ none) (h : ArgsOk K O H vs args) : Rep K (PC.of tb cv H O E) O H (vs.map some ++ List.replicate n none) (args.map some ++ List.replicate n none) := by
  have hl := h.len
  have key : ∀ (i : Nat) (s : SL), (args.map some ++ List.replicate n none)[i]? = some (some s) → ownS s = false ∧ ∃ v, (vs.map some ++ List.replicate n none)[i]? = some (some v) ∧ SlotOk K (PC.of tb cv H O E) O H v s := by
    clear al hl
    induction h with
    | nil =>
      intro i s e
      rw [List.map_nil, List.nil_append, List.getElem?_replicate] at e
      split at e <;> cases e
    | @cons v vs s ss h _ ih =>
      intro i t e
      cases i with
      | zero =>
        cases e
        cases s with
        | fz d => exact ⟨rfl, v, rfl, h⟩
        | bw ds => obtain ⟨p, us, a, b, c⟩ := h; exact ⟨rfl, v, rfl, p, us, a, (nomatch ·), b, c⟩
        | dbw ds => obtain ⟨p, us, a, b, c⟩ := h; exact ⟨rfl, v, rfl, p, us, a, (nomatch ·), b, c⟩
        | ow ds => exact h.elim
        | dow ds => exact h.elim
        | er n => exact h.elim
        | mw n => exact h.elim
        | og n => exact h.elim
        | oo n => exact h.elim
        | hd n => exact h.elim
      | succ i => exact ih i t e
  refine ⟨ExM.refl _ _, ⟨fun b hb => al b hb, hT⟩, fun b hb => hb, al, ?_, fun i s e => (key i s e).2, fun i j s t p _ e1 o1 _ _ _ _ => ?_⟩
  · rw [List.length_append, List.length_append, List.length_map, List.length_map, List.length_replicate, List.length_replicate, hl]
  · rw [(key i s e1).1] at o1
    cases o1
theorem body_ok {x qual : Str} {st : Stmt} {f : Addr} {N ps : List Str} {g : SE} {cdv : Value} {A : Around} {outer : List PySem.Env} {s : Shared} {H : Hp} {vs : List V} {Q : VK} {E : XK}
    (body : ∀ (O : List Addr), Wk (cxOf (L2.CX P w) P w K mg base N qual (defScope st) f cdv A outer s H E) (PC.of tb cv H O E) →
      Takes (cxOf (L2.CX P w) P w K mg base N qual (defScope st) f cdv A outer s H E) (PC.of tb cv H O E).W → PassesOwn (model P w) (A.deeper (PyProof.Rows.envOfC qual (defScope st) s.heap.objs.size f cdv)) (PyProof.Rows.envOfC qual (defScope st) s.heap.objs.size f cdv) (cxOf (L2.CX P w) P w K mg base N qual (defScope st) f cdv A outer s H E).xe →
      PSs (cxOf (L2.CX P w) P w K mg base N qual (defScope st) f cdv A outer s H E) (defBody st) (tSW K (PC.of tb cv H O E) g)) (h : spP K tb cv ps.length (runF ps.length N.length g) vs H Q E) :
    ∃ t, PSs (cxOf (L2.CX P w) P w K mg base N qual (defScope st) f cdv A outer s H E) (defBody st) t ∧ t { nx := fun _ H' => Q .non H', rt := Q } (start N vs) H := by
  obtain ⟨O, args, hl, hT, al, ha, q⟩ := h
  have tk : Takes (cxOf (L2.CX P w) P w K mg base N qual (defScope st) f cdv A outer s H E) (PC.of tb cv H O E).W := takes_of rfl rfl rfl rfl
  refine ⟨_, body O (fun σ => passAt tk σ) tk (passes_of rfl), O, args.map some ++ List.replicate (N.length - ps.length) none, ?_, ?_⟩
  · have hv : vs.length = ps.length := by rw [ha.len, hl]
    unfold L2.start
    rw [hv]
    exact args_rep hT al ha
  · unfold runF at q
    rw [if_pos hl] at q
    have ret : ∀ (O' : List Addr) (H' : Hp) (σ' : L2.St) (ρ' : Env) (v : V) (r : RV), Rep K (PC.of tb cv H O E) O' H' σ' ρ' → RetV K (PC.of tb cv H O E) O' H' v r → Gx tb H H' ∧ RetC K O H H' v r := fun O' H' σ' ρ' v r R rv => by
      have ex : Gx tb H H' := (show ExM _ [] H H' from R.ex).gx
      refine ⟨ex, ?_⟩
      have hsub : ∀ b ∈ O, b ∈ O' := R.sub
      cases r with
      | val d => exact Dp.mono (hid_sub hsub) rv
      | fresh ds => obtain ⟨p, us, a, b, c, d⟩ := rv; exact ⟨p, us, a, b, c, DpAll.mono (hid_sub fun b z => by
          rcases List.mem_cons.mp z with rfl | z
          · exact List.mem_cons_self
          · exact List.mem_cons_of_mem _ (hsub b z)) d⟩
      | dfresh ds => obtain ⟨p, us, a, b, c, d⟩ := rv; exact ⟨p, us, a, b, c, KvAll.mono (hid_sub fun b z => by
          rcases List.mem_cons.mp z with rfl | z
          · exact List.mem_cons_self
          · exact List.mem_cons_of_mem _ (hsub b z)) d⟩
      | gfresh ds => obtain ⟨p, us, a, b, c, d⟩ := rv; exact ⟨p, us, a, b, c, d.mono (hid_sub fun b z => by
          rcases List.mem_cons.mp z with rfl | z
          · exact List.mem_cons_self
          · exact List.mem_cons_of_mem _ (hsub b z))⟩
    cases hg : g (args.map some ++ List.replicate (N.length - ps.length) none) with
    | nx ρ' =>
      rw [hg] at q
      intro σ' O' H' R
      obtain ⟨ex, _⟩ := ret O' H' σ' ρ' .non (.val .none) R .non
      exact q .non H' ex .non
    | rt r ρ' =>
      rw [hg] at q
      intro v σ' O' H' R rv
      obtain ⟨ex, rc⟩ := ret O' H' σ' ρ' v r R rv
      exact q v H' ex rc
    | ex n ρ' =>
      rw [hg] at q
      intro σ' O' H' R
      exact q H' (show ExM _ [] H H' from R.ex).gx
    | bk ρ' => rw [hg] at q; exact q.elim
    | ct ρ' => rw [hg] at q; exact q.elim
    | stuck => rw [hg] at q; exact q.elim
/-- THE RULE for a def -/
theorem mk_fnW {x qual : Str} {st : Stmt} {f : Addr} {fd : FuncData} {N ps : List Str} {k : Nat} {g : SE} (F : Fun K x qual st f fd) (S : FnScope N ps (defScope st))
    (body : ∀ (cdv : Value) (A : Around) (outer : List PySem.Env) (s : Shared) (H : Hp) (O : List Addr) (E : XK), Room k (A.deeper (PyProof.Rows.envOfC qual (defScope st) s.heap.objs.size f cdv)) → Wk (cxOf (L2.CX P w) P w K mg base N qual (defScope st) f cdv A outer s H E) (PC.of tb cv H O E) →
      Takes (cxOf (L2.CX P w) P w K mg base N qual (defScope st) f cdv A outer s H E) (PC.of tb cv H O E).W → PassesOwn (model P w) (A.deeper (PyProof.Rows.envOfC qual (defScope st) s.heap.objs.size f cdv)) (PyProof.Rows.envOfC qual (defScope st) s.heap.objs.size f cdv) (cxOf (L2.CX P w) P w K mg base N qual (defScope st) f cdv A outer s H E).xe →
      PSs (cxOf (L2.CX P w) P w K mg base N qual (defScope st) f cdv A outer s H E) (defBody st) (tSW K (PC.of tb cv H O E) g)) :
    FnOk P w K mg base (L2.CX P w) (k + 1) f fd ps (spP K tb cv ps.length (runF ps.length N.length g)) := by
  refine F.okX S (fun vs H Q E ⟨O, args, hl, hT, al, ha, q⟩ => by rw [ha.len, hl]) (fun cdv A outer s H vs Q E hr h => body_ok (x := x) (fun O => body cdv A outer s H O E hr) h)
/-- THE RULE for a def -/
theorem mk_fn {x qual : Str} {st : Stmt} {f : Addr} {fd : FuncData} {N ps : List Str} {k : Nat} {g : SE} (F : Fun K x qual st f fd) (S : FnScope N ps (defScope st))
    (body : ∀ (cdv : Value) (A : Around) (outer : List PySem.Env) (s : Shared) (H : Hp) (O : List Addr) (E : XK), Room k (A.deeper (PyProof.Rows.envOfC qual (defScope st) s.heap.objs.size f cdv)) → Wk (cxOf (L2.CX P w) P w K mg base N qual (defScope st) f cdv A outer s H E) (PC.of tb cv H O E) →
      Takes (cxOf (L2.CX P w) P w K mg base N qual (defScope st) f cdv A outer s H E) (PC.of tb cv H O E).W → PassesOwn (model P w) (A.deeper (PyProof.Rows.envOfC qual (defScope st) s.heap.objs.size f cdv)) (PyProof.Rows.envOfC qual (defScope st) s.heap.objs.size f cdv) (cxOf (L2.CX P w) P w K mg base N qual (defScope st) f cdv A outer s H E).xe →
      PSs (cxOf (L2.CX P w) P w K mg base N qual (defScope st) f cdv A outer s H E) (defBody st) (tS K (PC.of tb cv H O E) g)) :
    FnOk P w K mg base (L2.CX P w) (k + 1) f fd ps (spP K tb cv ps.length (runF ps.length N.length g)) := by
  refine F.okX S (fun vs H Q E ⟨O, args, hl, hT, al, ha, q⟩ => by rw [ha.len, hl]) (fun cdv A outer s H vs Q E hr h => body_ok (x := x) (fun O hx tk hp => ss_W (body cdv A outer s H O E hr hx tk hp)) h)
theorem mk_def {x qual : Str} {st : Stmt} {f : Addr} {fd : FuncData} {N ps : List Str} {k : Nat} {g : SE} (F : Fun K x qual st f fd) (S : FnScope N ps (defScope st)) (hmg : mg x = some (.ref f)) (hb : Binds K fd ps [])
    (body : ∀ (cdv : Value) (A : Around) (outer : List PySem.Env) (s : Shared) (H : Hp) (O : List Addr) (E : XK), Room k (A.deeper (PyProof.Rows.envOfC qual (defScope st) s.heap.objs.size f cdv)) → Wk (cxOf (L2.CX P w) P w K mg base N qual (defScope st) f cdv A outer s H E) (PC.of tb cv H O E) →
      Takes (cxOf (L2.CX P w) P w K mg base N qual (defScope st) f cdv A outer s H E) (PC.of tb cv H O E).W → PassesOwn (model P w) (A.deeper (PyProof.Rows.envOfC qual (defScope st) s.heap.objs.size f cdv)) (PyProof.Rows.envOfC qual (defScope st) s.heap.objs.size f cdv) (cxOf (L2.CX P w) P w K mg base N qual (defScope st) f cdv A outer s H E).xe →
      PSs (cxOf (L2.CX P w) P w K mg base N qual (defScope st) f cdv A outer s H E) (defBody st) (tS K (PC.of tb cv H O E) g)) :
    Dfn P w K mg base tb cv (k + 1) x ps.length (runF ps.length N.length g) := ⟨f, fd, ps, mk_fn F S body, hmg, F.kp, hb⟩
end
end PL

/-! PL8: further rules; the top's facts. -/
namespace PL
open PySem L2
section
variable {X : Cx} {C : PC} {a b c e k : Expr} {f g h : VE} {l m : LE} {pos p1 p2 apos cpos : Pos} {fs : List VE} {es : List Expr} {ra : AE} {n : Nat}
theorem v_neg (ha : PE X a (tV X.K C f)) : PE X (.UnaryOp .USub a pos) (tV X.K C (eNeg f)) := pe_imp (pe_un un_neg ha) fun σ H Q ⟨O, ρ, R, q⟩ => by
  refine ⟨O, ρ, R, (Fin.bind q).imp fun d _ k v H1 x1 p1 => ?_⟩
  cases d with
  | int i => exact ⟨i, dp_int p1, (show ∀ v H', Gx C.T H H' → Dp X.K (hid O H') v (.int (-i)) → Q v H' from k) _ H1 x1 (.int _)⟩
  | _ => exact k.elim
/-! ### how many arguments -/
def ArLen (ra : AE) (n : Nat) : Prop := ∀ ρ ss, ra ρ = .ok ss → ss.length = n
theorem rNil_len : ArLen rNil 0 := fun _ _ h => by cases h; rfl
theorem rV_len (h : ArLen ra n) : ArLen (rV f ra) (n + 1) := fun ρ ss e => by
  unfold rV at e
  cases e1 : f ρ with
  | ok d =>
    rw [e1] at e
    cases e2 : ra ρ with
    | ok r => rw [e2] at e; cases e; rw [List.length_cons, h ρ r e2]
    | exc _ => rw [e2] at e; cases e
    | stuck => rw [e2] at e; cases e
  | exc _ => rw [e1] at e; cases e
  | stuck => rw [e1] at e; cases e
theorem rL_len (h : ArLen ra n) : ArLen (rL l ra) (n + 1) := fun ρ ss e => by
  unfold rL at e
  cases e1 : l ρ with
  | ok d =>
    rw [e1] at e
    cases e2 : ra ρ with
    | ok r => rw [e2] at e; cases e; rw [List.length_cons, h ρ r e2]
    | exc _ => rw [e2] at e; cases e
    | stuck => rw [e2] at e; cases e
  | exc _ => rw [e1] at e; cases e
  | stuck => rw [e1] at e; cases e
theorem rD_len {i : Nat} (h : ArLen ra n) : ArLen (rD i ra) (n + 1) := fun ρ ss e => by
  unfold rD at e
  cases e1 : dVar i ρ with
  | ok d =>
    rw [e1] at e
    cases e2 : ra ρ with
    | ok r => rw [e2] at e; cases e; rw [List.length_cons, h ρ r e2]
    | exc _ => rw [e2] at e; cases e
    | stuck => rw [e2] at e; cases e
  | exc _ => rw [e1] at e; cases e
  | stuck => rw [e1] at e; cases e
/-! ### texts -/
theorem v_startswith (ha : PE X a (tV X.K C f)) (hb : PE X b (tV X.K C g)) (hs : starEach [b] X.env = [(false, eval b X.env)] := by rfl) (hbase : attributeBase a "startswith" X.env (eval a X.env) = eval a X.env := by rfl) (hline : (apos.endLine == pos.line) = true := by rfl) :
    PE X (.Call (.Attribute a "startswith" apos) [b] [] pos) (tV X.K C (eStarts f g)) := pe_imp (pe_m1 PySem.F.slot_str_startswith PySem.F.type_str_startswith mt_startswith ha hb hs hbase hline) fun σ H Q ⟨O, ρ, R, q⟩ => by
  refine ⟨O, ρ, R, (Fin.bind q).imp fun d _ q1 v H1 x1 p1 => ?_⟩
  cases d with
  | str z =>
    refine ⟨⟨z, dp_str p1⟩, O, ρ, R.grow x1, ((Fin.bind (show Fin C σ H ((g ρ).bind (stOf z)) _ from q1)).grow x1).imp fun e _ q2 u H2 x2 p2 => ?_⟩
    cases e with
    | str y => exact ⟨z, y, dp_str p1, by rw [dp_str p2], (show ∀ v H', Gx C.T H H' → Dp X.K (hid O H') v (.bool (Txt.startswith z y)) → Q v H' from q2) _ H2 (x1.trans x2) (.bl _)⟩
    | _ => exact q2.elim
  | _ => exact q1.elim
end
/-- an exception's class stands for its name -/
def cvOf (mg : Str → Option Value) (n : String) : Value := (mg (Str.ofString n)).getD .none
theorem cv_of {mg : Str → Option Value} {n : String} {v : Value} (h : mg (Str.ofString n) = some v) : cvOf mg n = v := by
  unfold cvOf
  rw [h]
  rfl
/-- an own exception class -/
structure XCls (K : PySem.W.Frag) (mg : Str → Option Value) (n : String) (C : Addr) : Prop where
  g : mg (Str.ofString n) = some (.ref C)
  x : PySem.W.excIn K C [.type "ValueError", .type "Exception", .type "BaseException", .type "object"] "ValueError.__new__" = true
  k : PySem.W.keepIn K (.ref C) = true
  b : PySem.W.subIn K (.ref C) (.type "BaseException") = some true
  t : PySem.W.typeIn K (.ref C) = some (.type "type")
section
variable {X : Cx} {C : PC} {pos p1 p2 apos : Pos}
theorem s_raiseC {n : String} {x m : Str} {A : Addr} {j : Nat} (c : XCls X.K X.mg n A) (hx : x = Str.ofString n) (hcv : C.cv = cvOf X.mg) (hc : X.calm = true) (tk : Takes X C.W) (hg : Gl X x)
    (hdb : (x == ("__debug__" : Str)) = false := by decide) : PS X (.Raise (some (.Call (.Name x p1) [.Constant (.str m) j p2] [] apos)) none pos) (tS X.K C (sRaise n)) := by
  subst hx
  exact s_raise hc tk PySem.F.excBase_ValueError c.x c.g c.k (raises_own c.b c.t) hg (by rw [hcv]; exact cv_of c.g) hdb
end
end PL

/-! PLB: further rules: several targets, pop, recursion. -/
namespace PL
open PySem L2
section
variable {X : Cx} {C : PC} {a b c e k : Expr} {f g h : VE} {l m : LE} {pos p1 p2 apos cpos : Pos} {fs : List VE} {es : List Expr} {ra : AE} {n : Nat}
theorem tg_trip {K : PySem.W.Frag} {sg : Bool} (i j k : Nat) : TgOk sg K C (gTup K 3 (gCons (gName i) (gCons (gName j) (gCons (gName k) gNil)))) (tgT i j k) [i, j, k] := fun v d O H σ ρ ρ' Q R p e kk => by
  unfold tgT at e
  split at e
  · rename_i x y z
    cases e
    obtain ⟨a, vs, rfl, s, al⟩ := DpB.tup p
    cases al with
    | cons h1 t =>
      cases t with
      | cons h2 t =>
        cases t with
        | cons h3 t =>
          cases t
          exact ⟨a, _, rfl, s, rfl, _, _, rfl, _, _, rfl, _, _, rfl, rfl, kk _ (((R.set h1).set h2).set h3) fun ws hw => by
            rw [wipe_set (hw k (List.mem_cons_of_mem _ (List.mem_cons_of_mem _ List.mem_cons_self))), wipe_set (hw j (List.mem_cons_of_mem _ List.mem_cons_self)), wipe_set (hw i List.mem_cons_self)]⟩
  · cases e
/-- (a, b, ..) = x.pop() -/
theorem s_popT (i : Nat) {y : Str} {np : Pos} {tg : Expr} {gt : TG} {tgt : TGT} {ts : List Nat} (ht : TgOk true X.K C gt tgt ts) (hg : PG X tg gt) (hN : X.N[i]? = some y := by rfl) (hv : Vis X.env.scope y := by first | exact Or.inl rfl | exact Or.inr (Or.inl rfl) | exact Or.inr (Or.inr rfl)) (hd : (y == ("__debug__" : Str)) = false := by decide)
    (hcd : (y == ("__classdict__" : Str)) = false := by decide)
    (hbase : attributeBase (.Name y np) "pop" X.env (eval (.Name y np) X.env) = eval (.Name y np) X.env := by rfl)
    (hline : (apos.endLine == cpos.line) = true := by rfl)
    (hs : swapsWithSole [tg] (.Call (.Attribute (.Name y np) "pop" apos) [] [] cpos) pos.line X.env = pure false := by rfl) (hw : swappedStores [tg] (.Call (.Attribute (.Name y np) "pop" apos) [] [] cpos) X.env = pure none := by rfl)
    (h1 : (assignEach [tg] X.env).map (·.2) = [assign tg X.env] := by rfl) :
    PS X (.Assign [tg] (.Call (.Attribute (.Name y np) "pop" apos) [] [] cpos) pos) (tS X.K C (sPopT i tgt)) :=
  ps_imp (ps_asg (pe_bm0 PySem.F.plainAttrs_list PySem.F.slot_list_pop PySem.F.type_list_pop mt_pop (pe_var (i := i) hN hv hd hcd) hbase hline) hg hs hw h1) fun D σ H ⟨O, ρ, R, q⟩ => by
  unfold sPopT at q
  split at q
  · rename_i ds hi
    obtain ⟨p, vs, h1, h2, h3, h4, h5⟩ := R.own hi
    cases he : ds[ds.length - 1]? with
    | none => rw [he] at q; exact q.elim
    | some d =>
      rw [he] at q
      obtain ⟨v, e1, e2⟩ := h5.get he
      have hl := h5.len
      have h6 : DpAll X.K (hid O H) vs.dropLast ds.dropLast := by
        rw [List.dropLast_eq_take, List.dropLast_eq_take, hl]
        exact h5.take _
      have R2 := R.put (vs' := vs.dropLast) hi h1 h6
      have hh : hid O (upd H p (.lst vs.dropLast)) = hid O H := hid_upd h2
      dsimp only at q
      cases ht2 : tgt d (ρ.set i (some (.ow ds.dropLast))) with
      | none => rw [ht2] at q; exact q.elim
      | some ρ' =>
        rw [ht2] at q
        refine ⟨.ref p, h1, .inl ⟨rfl, _, SqL.of h4⟩, p, vs, v, rfl, rfl, h4, by rw [hl]; exact e1, ?_⟩
        refine ht v d O _ σ _ ρ' _ R2 (.inl (by rw [hh]; exact e2)) ht2 fun σ' R' _ => q σ' O _ R' ?_
        rw [hh]
        exact Ex.refl _
  · exact q.elim
/-- a, b = x, y -/
theorem s_par {i j : Nat} {x y : Str} {px py pt : Pos} {kt k2 : Nat} {pt2 : Pos} (hc : X.calm = true) (hN : X.N.Nodup) (hi : X.N[i]? = some x) (hj : X.N[j]? = some y) (hij : i ≠ j)
    (hx : X.env.scope.names.lookup x = some .local) (hy : X.env.scope.names.lookup y = some .local) (ha : PE X a (tV X.K C f)) (hb : PE X b (tV X.K C g))
    (hw : swappedStores [.Tuple [.Name x px, .Name y py] kt pt] (.Tuple [a, b] k2 pt2) X.env = pure (some [x, y]))
    (hs : swapsWithSole [.Tuple [.Name x px, .Name y py] kt pt] (.Tuple [a, b] k2 pt2) pos.line X.env = pure false := by rfl)
    (hs1 : starEach [a, b] X.env = (false, eval a X.env) :: starEach [b] X.env := by rfl) (hs2 : starEach [b] X.env = (false, eval b X.env) :: starEach [] X.env := by rfl) :
    PS X (.Assign [.Tuple [.Name x px, .Name y py] kt pt] (.Tuple [a, b] k2 pt2) pos) (tS X.K C (sPar i j f g)) :=
  ps_imp (ps_par hc hN hi hj hij hx hy (pa_cons ha (pa_cons hb pa_nil hs2) hs1) hw hs) fun D σ H ⟨O, ρ, R, q⟩ => by
  refine ⟨O, ρ, R, Post.fin R q fun d _ k v H1 x1 p1 => ?_⟩
  refine ⟨O, ρ, R.grow x1, Post.fin (R.grow x1) (Post.grow k (hid_mono x1)) fun e _ k2 w H2 x2 p2 => ?_⟩
  exact ⟨v, w, rfl, k2 _ O H2 (((R.grow x1).grow x2).set (Dp.mono (hid_mono x2) p1) |>.set p2) (hid_mono x2)⟩
end
section
variable {P : Program} {w : World} {K : PySem.W.Frag} {mg : Str → Option Value} {base : Heap} {tb : List (Addr × Str)} {cv : String → Value}
/-- a def of which nothing is promised -/
theorem Dfn.void {x qual : Str} {st : Stmt} {f : Addr} {fd : FuncData} {ps : List Str} (F : Fun K x qual st f fd) (hmg : mg x = some (.ref f)) (hb : Binds K fd ps []) (k n : Nat) : Dfn P w K mg base tb cv k x n (fun _ => .stuck) :=
  ⟨f, fd, ps, ⟨fun _ _ _ _ ⟨_, _, _, _, _, _, q⟩ => q.elim, fun _ _ _ _ _ _ _ _ _ _ _ _ _ ⟨_, _, _, _, _, _, q⟩ => q.elim⟩, hmg, F.kp, hb⟩
end
end PL

/-! PLC: sorted by a key. -/
namespace PL
open PySem L2 PySem.Calls PyProof.Rows
/-- f(p) where f's body is: return p[0] -/
theorem item0_pure {P : Program} {w : World} {K : PySem.W.Frag} {A : Around} {s : Shared} {E : Value → Shared → Prop} {x y : Str} {st : Stmt} {f t : Addr} {fd : FuncData} {p1 p2 p3 p4 : Pos} {j : Nat} {its : Array Value} {i : Int} {u : Tok}
    (F : Fun K x x st f fd) (hb : defBody st = [.Return (some (.Subscript (.Name y p1) (.Constant (.int 0) j p2) p3)) p4])
    (hbd : ∀ (kV doc pm : Value) (an : Option Addr) (cdv ct v : Value), bindArgs (PySem.W.fnOf x x (defArgs st) (defBody st) (defScope st) .none kV doc pm an cdv ct) ⟨[v], []⟩ = pure [(y, v)])
    (hk : (defScope st).names.lookup y = some .local) (hco : (defScope st).isCoroutine = false) (hgen : (defScope st).isGenerator = false) (hsk : (defScope st).kind = .function)
    (hdep : A.depth < recursionLimit) (KX : K.In s.heap) (lim : s.heap.NoLimit) (ht : IsTup s.heap t its) (hi : its[0]? = some (.int i u)) (hd : (y == ("__debug__" : Str)) = false) :
    wpAny (model P w) A (call (.ref f) [.ref t]) (PySem.W.KeyPure (.int i) s) E s := by
  refine wpAny_call ?_
  obtain ⟨oc, od, kV, doc, pm, an, cdv, ct, osl, rfl, lk, hcd⟩ := F.ex
  refine codeAny_call_cells (binds := [(y, .ref t)]) (body := defBody st) hdep (KX _ _ lk) rfl lim (PySem.W.codeRec_of KX hcd) rfl (hbd ..) rfl (fun z hz => ?_) (fun s1 X => ?_) hco hgen hsk
  · cases List.mem_singleton.mp hz
    exact .inl hk
  · obtain ⟨h', tk, rfl, keep⟩ := X.done
    rw [hb]
    refine wpAny_execs_cons (wpAny_Return_some ?_)
    refine Subscript_ ?_
    have hm : bindL (callEnvC (PySem.W.fnOf x x (defArgs st) [.Return (some (.Subscript (.Name y p1) (.Constant (.int 0) j p2) p3)) p4] (defScope st) .none kV doc pm an cdv ct) s.heap.objs.size f).kindOf [(y, Value.ref t)] (fun _ => none) y = some (.ref t) :=
      bindL_get (P := [y]) (vs := [.ref t]) (i := 0) (List.nodup_cons.mpr ⟨List.not_mem_nil, List.nodup_nil⟩) rfl rfl hk
    rw [hb] at X
    refine wpAny_Name (wpAny_loadName_local hsk hk X.toInCall.ns hm ?_) hd
    refine wpAny_Constant_int ?_
    have ht' : IsTup h' t its := by
      obtain ⟨o, e, c⟩ := ht
      exact ⟨o, keep _ _ e, c⟩
    have hsz : 0 < its.size := by
      by_cases z : 0 < its.size
      · exact z
      · rw [Array.getElem?_eq_none (by omega)] at hi
        cases hi
    refine subscriptTail_builtinR (x := .int i u) ht'.typeIs slot_tuple_getitem.lookup (getItem_tuple (j := 0) (Q := fun r s' => r = .int i u ∧ _) ht' (by omega) (by omega) ?_ hi ⟨rfl, ?_⟩) rfl
    · have hz : (0 : Int) < (its.size : Int) := by exact_mod_cast hsz
      simp [seqIndex?, hsz]
    · exact ⟨h', _, rfl, keep, .int i u⟩
/-- a def that serves as a key: it gives a tuple's first whole number -/
structure KeyF (P : Program) (w : World) (K : PySem.W.Frag) (mg : Str → Option Value) (x : Str) : Prop where
  ex : ∃ f : Addr, mg x = some (.ref f) ∧ ∀ (A : Around) (s : Shared) (E : Value → Shared → Prop) (t : Addr) (its : Array Value) (i : Int) (u : Tok), A.depth < recursionLimit → K.In s.heap → s.heap.NoLimit → IsTup s.heap t its → its[0]? = some (.int i u) →
    wpAny (model P w) A (call (.ref f) [.ref t]) (PySem.W.KeyPure (.int i) s) E s
def rSortBy (K : PySem.W.Frag) (f : Addr) : List V → List V → Hp → VK → Prop := fun vs zs H Q => ∃ (a : Addr) (bs : List (V × Int)), vs = [.ref a] ∧ zs = [.ref f] ∧ SqL K H a (bs.map (·.1)) ∧
  (∀ b ∈ bs, ∃ t ys, b.1 = .ref t ∧ SqT K H t ys ∧ ys[0]? = some (.int b.2)) ∧ ∀ p, H p = none → Q (.ref p) (upd H p (.lst ((bs.mergeSort fun x y => decide (x.2 ≤ y.2)).map (·.1))))
theorem each_vals {R : Value → V × Int → Prop} (hR : ∀ v b, R v b ↔ RelV b.1 v) : ∀ {us : List Value} {bs : List (V × Int)}, Vals (bs.map (·.1)) us → PySem.W.EachIs R us bs
  | [], [], _ => .nil
  | u :: us, [], h => by cases h
  | [], b :: bs, h => by cases h
  | u :: us, b :: bs, h => by
    cases h with
    | cons h t => exact .cons ((hR _ _).mpr h) (each_vals hR t)
theorem vals_each {R : Value → V × Int → Prop} (hR : ∀ v b, R v b ↔ RelV b.1 v) : ∀ {us : List Value} {bs : List (V × Int)}, PySem.W.EachIs R us bs → Vals (bs.map (·.1)) us
  | _, _, .nil => .nil
  | _, _, .cons h t => .cons ((hR _ _).mp h) (vals_each hR t)
theorem cr_sortBy {X : Cx} {f : Addr} (hu : X.A.units + 64 < cLine) (hdp : X.A.depth + 5 < recursionLimit)
    (hf : ∀ (A : Around) (s : Shared) (E : Value → Shared → Prop) (t : Addr) (its : Array Value) (i : Int) (u : Tok), A.depth < recursionLimit → X.K.In s.heap → s.heap.NoLimit → IsTup s.heap t its → its[0]? = some (.int i u) →
      wpAny (model X.prog X.w) A (call (.ref f) [.ref t]) (PySem.W.KeyPure (.int i) s) E s) : CallRK X (.builtin "sorted") [Str.ofString "key"] (rSortBy X.K f) := by
  intro pins s σ H vs zs us ws Q I r rz h
  obtain ⟨a, bs, rfl, rfl, hs, hb, q⟩ := h
  obtain rfl := Vals.ref1 r
  obtain ⟨w1, rfl, e1⟩ := vals1 rz
  obtain rfl : w1 = Value.ref f := e1
  obtain ⟨its, rv, hl, hz⟩ := I.list hs
  have hzl : bs.length ≤ sizeLine := by rw [List.length_map] at hz; exact hz
  have hk : PySem.W.dataLe false (fun b : V × Int => PyData.int b.2) = fun x y => decide (x.2 ≤ y.2) := PySem.W.dataLe_int (fun b : V × Int => b.2)
  refine PySem.W.sorted_key_data (R := fun v (b : V × Int) => RelV b.1 v) (b := false) (fun b : V × Int => PyData.int b.2) hl.isList (each_vals (fun _ _ => Iff.rfl) rv) ?_ ?_ hzl (fun x _ => ?_) (ksk_s1 _ _) (fun _ => ksk_l1 _ _) (fun x => ksk_t1 f x) (fun v x hv hx h1 tk keep => ?_) (fun out c h' tk keep hn he hlen ho => ?_)
  · intro d hd d' hd'
    obtain ⟨x, _, rfl⟩ := List.mem_map.mp hd
    obtain ⟨y, _, rfl⟩ := List.mem_map.mp hd'
    rfl
  · refine .inr fun d hd => ?_
    obtain ⟨x, _, rfl⟩ := List.mem_map.mp hd
    exact ⟨nofun, nofun⟩
  · show X.A.units + 2 + 0 < cLine
    omega
  · obtain ⟨t, ys, e1, h2, h3⟩ := hb x hx
    rw [e1] at hv
    cases hv
    obtain ⟨its2, rv2, ht, _⟩ := I.tuple h2
    obtain ⟨u, hu1, hu2⟩ := rv2.get h3
    obtain ⟨tk2, rfl⟩ := hu2
    have ht' : IsTup h1 t its2.toArray := by
      obtain ⟨o, e, c⟩ := ht
      exact ⟨o, keep _ _ e, c⟩
    exact hf X.A.in1.in1 { s with heap := h1, toks := tk } _ t its2.toArray x.2 tk2 (by show X.A.depth < _; omega) (I.kIn.keeps keep) (I.nolimit.keeps keep) ht' (by simpa using hu1)
  · rw [hk] at ho
    have hlen2 : ((bs.mergeSort fun x y => decide (x.2 ≤ y.2)).map (·.1)).length ≤ sizeLine := by rw [List.length_map, List.length_mergeSort]; exact hzl
    exact ⟨.ref _, upd H (s.heap.objs.size + 1) (.lst ((bs.mergeSort fun x y => decide (x.2 ≤ y.2)).map (·.1))), I.laid (t' := tk) keep (Nat.le_succ _) ⟨hlen2, _, c, vals_each (fun _ _ => Iff.rfl) ho, he⟩, rfl, q _ (I.hok.fresh (Nat.le_succ _))⟩
theorem dpAll_pairs {K : PySem.W.Frag} {G : Hp} : ∀ {vs : List V} {ds : List PyData}, DpAll K G vs ds → ∀ p ∈ vs.zip ds, Dp K G p.1 p.2
  | _, _, .nil, p, h => by cases h
  | _, _, .cons h t, p, hp => by
    rw [List.zip_cons_cons] at hp
    rcases List.mem_cons.mp hp with rfl | hp
    · exact h
    · exact dpAll_pairs t p hp
theorem dpAll_of_pairs {K : PySem.W.Frag} {G : Hp} : ∀ (bs : List (V × PyData)), (∀ p ∈ bs, Dp K G p.1 p.2) → DpAll K G (bs.map (·.1)) (bs.map (·.2))
  | [], _ => .nil
  | b :: bs, h => .cons (h b List.mem_cons_self) (dpAll_of_pairs bs fun p hp => h p (List.mem_cons_of_mem _ hp))
theorem zip_fst {α β : Type} : ∀ {as : List α} {bs : List β}, as.length = bs.length → (as.zip bs).map (·.1) = as
  | [], [], _ => rfl
  | a :: as, b :: bs, h => by rw [List.zip_cons_cons, List.map_cons, zip_fst (by simpa using h)]
  | [], _ :: _, h => by simp at h
  | _ :: _, [], h => by simp at h
theorem zip_snd {α β : Type} : ∀ {as : List α} {bs : List β}, as.length = bs.length → (as.zip bs).map (·.2) = bs
  | [], [], _ => rfl
  | a :: as, b :: bs, h => by rw [List.zip_cons_cons, List.map_cons, zip_snd (by simpa using h)]
  | [], _ :: _, h => by simp at h
  | _ :: _, [], h => by simp at h
section
variable {X : Cx} {C : PC} {a : Expr} {l : LE} {pos p1 p2 kp : Pos}
theorem f_sortK {x nm : Str} (D : KeyF X.prog X.w X.K X.mg x) (hr : Room 1 X.A) (hg : Gl X "sorted") (hm : X.mg "sorted" = none) (hgx : Gl X x) (ha : PE X a (tL X.K C l)) (hdx : (x == ("__debug__" : Str)) = false := by decide)
    (he : backTo pos (starEach [a] X.env) = (false, eval a X.env) :: backTo pos (starEach [] X.env) := by rfl) (hpl : (backTo pos (starEach [a] X.env)).any (·.1) = false := by rfl)
    (hsa : starEach [a] X.env = (false, eval a X.env) :: starEach [] X.env := by rfl)
    (hall : (backToKw pos (keywordEach [⟨nm, .Name x p2, kp⟩] X.env)).all (·.1.isSome) = true := by rfl) (hnone : (backToKw pos (keywordEach [⟨nm, .Name x p2, kp⟩] X.env)).any (·.1.isNone) = false := by rfl) (hks : (backToKw pos (keywordEach [⟨nm, .Name x p2, kp⟩] X.env)).filterMap (·.1) = [Str.ofString "key"] := by rfl) :
    PE X (.Call (.Name "sorted" p1) [a] [⟨nm, .Name x p2, kp⟩] pos) (tF X.K C (lSortK l)) := by
  obtain ⟨f, hmx, hf⟩ := D.ex
  refine pe_imp (pe_callBK (cr_sortBy (f := f) hr.units (by have := hr.dp; omega) hf) hg hm (by rfl) (pa_cons ha pa_nil hsa) (pk_cons (pe_glob (v := .ref f) hgx hmx rfl hdx) pk_nil) (by decide) (by decide) he hpl hall hnone hks) fun σ H Q ⟨O, ρ, R, q⟩ => ?_
  refine ⟨O, ρ, R, (Fin.bind q).imp fun ds _ q1 p vs H1 x1 s1 a1 => ?_⟩
  by_cases hc : ds.all (fun d => (headI d).isSome) = true
  · rw [if_pos hc] at q1
    have hl := a1.len
    have hall := List.all_eq_true.mp hc
    have hz1 := zip_fst hl
    have hz2 := zip_snd hl
    have hpr := dpAll_pairs a1
    have hbs : ((vs.zip ds).map fun q => (q.1, (headI q.2).getD 0)).map (·.1) = vs := by
      rw [List.map_map]
      exact hz1
    have e1 : ((vs.zip ds).map fun q => (q.1, (headI q.2).getD 0)).mergeSort (fun x y => decide (x.2 ≤ y.2)) = ((vs.zip ds).mergeSort fun x y => leK x.2 y.2).map fun q => (q.1, (headI q.2).getD 0) :=
      (List.map_mergeSort (f := fun q : V × PyData => (q.1, (headI q.2).getD 0)) (r := fun x y => leK x.2 y.2) (s := fun x y : V × Int => decide (x.2 ≤ y.2)) (fun _ _ _ _ => rfl)).symm
    have e2 : ds.mergeSort leK = ((vs.zip ds).mergeSort fun x y => leK x.2 y.2).map (·.2) := by
      conv => lhs; rw [← hz2]
      exact (List.map_mergeSort (f := fun q : V × PyData => q.2) (r := fun x y => leK x.2 y.2) (s := leK) (fun _ _ _ _ => rfl)).symm
    refine ⟨p, (vs.zip ds).map fun q => (q.1, (headI q.2).getD 0), rfl, rfl, by rw [hbs]; exact s1, fun b hb => ?_, fun r nr => ?_⟩
    · obtain ⟨q, hq, rfl⟩ := List.mem_map.mp hb
      have h1 := hpr q hq
      have h2 := hall q.2 (List.of_mem_zip hq).2
      obtain ⟨v, d⟩ := q
      dsimp only at h1 h2 ⊢
      unfold headI at h2 ⊢
      split at h2
      · obtain ⟨t, ys, rfl, hs, al⟩ := dp_tup h1
        cases al with
        | cons hh ht =>
          have hv := dp_int hh
          subst hv
          exact ⟨t, _, rfl, ex_t hid_ex hs, rfl⟩
      · cases h2
    · rw [e1, List.map_map]
      have hk : DpAll X.K (hid O H1) (((vs.zip ds).mergeSort fun x y => leK x.2 y.2).map (·.1)) (ds.mergeSort leK) := by
        rw [e2]
        exact dpAll_of_pairs _ fun q hq => hpr q ((List.mergeSort_perm _ _).mem_iff.mp hq)
      exact (show ∀ p vs H', Gx C.T H H' → H p = none → H' p = some (.lst vs) → DpAll X.K (hid (p :: O) H') vs (ds.mergeSort leK) → Q (.ref p) H' from q1) r _ _ (x1.trans (Gx.new nr)) (fresh_back x1 nr) upd_same (DpAll.mono (hid_new nr) hk)
  · rw [if_neg hc] at q1
    exact q1.elim
end
/-- sorted(t), t a tuple of whole numbers -/
theorem sorted_tup {prog : Program} {w : World} {A : Around} {E : Value → Shared → Prop} {s : Shared} {t : Addr} {vs : List Value} {ns : List Int} {Q : Value → Shared → Prop} (ht : IsTup s.heap t vs.toArray) (hz : vs.length ≤ sizeLine) (hI : IntsAre vs ns)
    (h : ∀ (h1 h' : Heap) (out : List Value) (ns' : List Int) (ep : Nat), (∀ b o, s.heap.get? b = some o → h1.get? b = some o) → (∀ b o, h1.get? b = some o → h'.get? b = some o) → h'.get? h1.objs.size = some (seqObj "list" out.toArray ep) → IntsAre out ns' → ns'.Perm ns → ns'.Pairwise (· ≤ ·) → Q (.ref h1.objs.size) { s with heap := h' }) :
    wpAny (model prog w) A (call (.builtin "sorted") [.ref t]) Q E s := by
  obtain ⟨o, ho, hc, n, hd⟩ := ht
  refine call_function_entry_kw (kw := []) kind_sorted plain_sorted entry_sorted (args_sorted1 _) ?_
  unfold Builtin.«sorted»
  refine wpAny_bind (m := checkCount "sorted" 1 1 _) (wpAny_pure ?_)
  refine wpAny_bind (wpAny_collect_seq t (.inr rfl) ho hc hd (fun h1 keep => ?_) (by rw [List.size_toArray]; exact hz))
  refine wpAny_bind (wpAny_newList ?_ hz)
  have hoL : (h1.push (seqObj "list" vs.toArray 0)).get? h1.objs.size = some (seqObj "list" vs.toArray 0) := Heap.get?_push_size _ rfl
  refine wpAny_bind (wpAny_holding (wpAny_call_entry_kw slot_list_sort ⟨_, hoL, rfl⟩ entry_list_sort ?_ (args_list_sort _)))
  rw [PySem.W.plain_is_rev]
  refine SrtR.list_sort_ordR SrtO.swo_int (s := { s with heap := h1.push (seqObj "list" vs.toArray 0) }) hoL hz (fun h2 => SrtO.ints_sortable hI h2) fun out k1 k2 => ⟨_, rfl, ?_⟩
  obtain ⟨ns', i1, i2, i3⟩ := SrtR.ints_outR hI k1 k2
  obtain ⟨ep, he⟩ := sortedHeap_at (vs := vs) (out := (if false = true then out.toArray.reverse else out.toArray)) hoL
  have he' : (sortedHeap (h1.push (seqObj "list" vs.toArray 0)) h1.objs.size vs (if false = true then out.toArray.reverse else out.toArray)).get? h1.objs.size = some (seqObj "list" out.toArray ep) := he
  refine wpAny_pure ⟨_, rfl, h h1 _ out ns' ep keep (fun b o' q => ?_) he' (by simpa using i1) i2 i3⟩
  have hb : b < h1.objs.size := Heap.lt_size q
  show (sortedHeap (h1.push (seqObj "list" vs.toArray 0)) h1.objs.size vs _).get? b = some o'
  rw [sortedHeap_old (Nat.ne_of_lt hb) (by rw [size_push']; exact Nat.lt_succ_of_lt hb)]
  exact Heap.get?_push_of_some _ q
def rSortT (K : PySem.W.Frag) : List V → Hp → VK → Prop := fun vs H Q => ∃ (t : Addr) (ns : List Int), vs = [.ref t] ∧ SqT K H t (ns.map V.int) ∧ ∀ p, H p = none → Q (.ref p) (upd H p (.lst ((ns.mergeSort leI).map V.int)))
theorem leI_sort {ns ns' : List Int} (hp : ns'.Perm ns) (hs : ns'.Pairwise (· ≤ ·)) : ns' = ns.mergeSort leI := by
  have h1 : (ns.mergeSort leI).Pairwise (fun a b => leI a b = true) := List.pairwise_mergeSort (fun a b c h1 h2 => by
    unfold leI at *
    rw [decide_eq_true_iff] at *
    omega) (fun a b => by
    unfold leI
    rw [Bool.or_eq_true, decide_eq_true_iff, decide_eq_true_iff]
    omega) ns
  refine List.Perm.eq_of_pairwise (le := fun a b : Int => a ≤ b) (fun a b _ _ h1 h2 => by omega) hs (h1.imp fun h => of_decide_eq_true h) (hp.trans (List.mergeSort_perm ns leI).symm)
theorem cr_sortT {X : Cx} : CallR X (.builtin "sorted") (rSortT X.K) := by
  intro pins s σ H vs us Q I r h
  obtain ⟨t, ns, rfl, hs, q⟩ := h
  obtain rfl := Vals.ref1 r
  obtain ⟨its, rv, ht, hz⟩ := I.tuple hs
  have hi := rv.ints
  refine sorted_tup (vs := its) ht (by rw [← rv.length]; exact hz) hi fun h1 h' out ns' ep k1 k2 he i1 i2 i3 => ?_
  have e := leI_sort i2 i3
  subst e
  have I1 : Inv X pins σ H { s with heap := h1 } := I.kept (t' := s.toks) k1
  have hlen : ((ns.mergeSort leI).map V.int).length ≤ sizeLine := by
    rw [List.length_map, List.length_mergeSort]
    rw [List.length_map] at hz
    exact hz
  exact ⟨.ref _, upd H h1.objs.size (.lst ((ns.mergeSort leI).map V.int)), I1.laid (t' := s.toks) k2 (Nat.le_refl _) ⟨hlen, out, ep, vals_of_ints i1, he⟩, rfl, q _ (I1.hok.fresh (Nat.le_refl _))⟩
theorem dpAll_intsT {K : PySem.W.Frag} {G : Hp} : ∀ {vs : List V} {ds : List PyData} {ns : List Int}, DpAll K G vs ds → asIntsT ds = some ns → vs = ns.map V.int
  | _, [], ns, h, e => by
    have : ns = [] := by simpa [asIntsT] using e.symm
    subst this
    cases h
    rfl
  | v :: vs, d :: ds, ns, h, e => by
    cases h with
    | cons h t =>
      unfold asIntsT at e
      rw [List.mapM_cons] at e
      cases d with
      | int i =>
        cases q : asIntsT ds with
        | none =>
          unfold asIntsT at q
          rw [q] at e
          simp at e
        | some ms =>
          have ih := dpAll_intsT t q
          unfold asIntsT at q
          rw [q] at e
          have e' : i :: ms = ns := by simpa using e
          subst e'
          rw [ih, dp_int h, List.map_cons]
      | _ => simp at e
section
variable {X : Cx} {C : PC} {a : Expr} {f : VE} {pos p1 : Pos}
theorem dpAll_mkInts {K : PySem.W.Frag} {G : Hp} : ∀ ns : List Int, DpAll K G (ns.map V.int) (ns.map PyData.int)
  | [] => .nil
  | n :: r => .cons (.int n) (dpAll_mkInts r)
theorem f_sortT (hg : Gl X "sorted") (hm : X.mg "sorted" = none) (ha : PE X a (tR X.K C f)) (hsa : starEach [a] X.env = (false, eval a X.env) :: starEach [] X.env := by rfl) :
    PE X (.Call (.Name "sorted" p1) [a] [] pos) (tF X.K C (lSortT f)) := pe_imp (pe_callB cr_sortT hg hm (by decide +kernel) (pa_cons ha pa_nil hsa) (by decide) (by decide) hsa (by rfl)) fun σ H Q ⟨O, ρ, R, q⟩ => by
  refine ⟨O, ρ, R, (Fin.bind q).imp fun d _ q1 v H1 x1 p1 => ?_⟩
  cases d with
  | tuple ds =>
    cases e : asIntsT ds with
    | none => simp only [e] at q1; exact q1.elim
    | some ns =>
      simp only [e] at q1
      obtain ⟨t, vs, rfl, s, al⟩ := dp_tup p1
      have hv := dpAll_intsT al e
      subst hv
      exact ⟨t, ns, rfl, s, fun r nr => (show ∀ p vs H', Gx C.T H H' → H p = none → H' p = some (.lst vs) → DpAll X.K (hid (p :: O) H') vs ((ns.mergeSort leI).map PyData.int) → Q (.ref p) H' from q1) r _ _ (x1.trans (Gx.new nr)) (fresh_back x1 nr) upd_same (dpAll_mkInts _)⟩
  | _ => exact q1.elim
end
section
variable {X : Cx} {C : PC} {e tg : Expr} {f : VE}
theorem itt_ok {K : PySem.W.Frag} {O : List Addr} {H : Hp} {p : Addr} {vs : List V} {ds : List PyData} (hs : ∀ O' H', Ex (hid O H) (hid O' H') → SqT K H' p vs) (al : DpAll K (hid O H) vs ds) : ItOk K C O H (Itt K p) ds := fun O' H' x _ _ i => by
  have s := hs O' H' x
  refine ⟨fun hi => ?_, fun hi => ⟨vs, s, by rw [al.len]; exact hi⟩⟩
  obtain ⟨v, h1, h2⟩ := al.get (List.getElem?_eq_getElem hi)
  refine ⟨⟨vs, v, s, h1⟩, fun y H3 hy => ?_⟩
  obtain ⟨rfl, hy⟩ := hy
  have e : y = v := Option.some.inj ((hy vs s).symm.trans h1)
  subst e
  exact ⟨Gx.refl _, _, List.getElem?_eq_getElem hi, Dp.mono x h2⟩
/-- a tuple is walked -/
theorem w_T (ha : PE X e (tV X.K C f)) : PI X tg e (tW X.K C (tOfV f)) := pi_imp (pi_tup ha) fun σ H R ⟨O, ρ, Rp, q⟩ => by
  refine ⟨O, ρ, Rp, (Fin.bind q).imp fun d _ q1 v H1 x1 p1 => ?_⟩
  cases d with
  | tuple ds =>
    obtain ⟨p, vs, rfl, s, al⟩ := dp_tup p1
    exact ⟨p, rfl, ⟨vs, ex_t hid_ex s⟩, (show ∀ J H', Gx C.T H H' → ItOk X.K C O H' J ds → R J H' from q1) _ H1 x1 (itt_ok (fun O' H' x => ex_t (x.trans hid_ex) s) al)⟩
  | _ => exact q1.elim
end
theorem foldl_max_mem : ∀ (r : List Int) (x : Int), r.foldl max x ∈ x :: r ∧ ∀ y ∈ x :: r, y ≤ r.foldl max x
  | [], x => ⟨List.mem_cons_self, fun y hy => by
    have : y = x := by simpa using hy
    subst this
    exact Int.le_refl _⟩
  | y :: r, x => by
    obtain ⟨h1, h2⟩ := foldl_max_mem r (max x y)
    rw [List.foldl_cons]
    refine ⟨?_, fun z hz => ?_⟩
    · rcases List.mem_cons.mp h1 with e | e
      · rw [e]
        rcases Int.le_total x y with h | h
        · rw [Int.max_eq_right h]; exact List.mem_cons_of_mem _ List.mem_cons_self
        · rw [Int.max_eq_left h]; exact List.mem_cons_self
      · exact List.mem_cons_of_mem _ (List.mem_cons_of_mem _ e)
    · have h0 := h2 (max x y) List.mem_cons_self
      rcases List.mem_cons.mp hz with rfl | hz
      · omega
      · rcases List.mem_cons.mp hz with rfl | hz
        · omega
        · exact h2 z (List.mem_cons_of_mem _ hz)
theorem most_is {ns : List Int} {m m' : Int} (h : mostOf ns = some m) (h1 : m' ∈ ns) (h2 : ∀ y ∈ ns, y ≤ m') : m' = m := by
  cases ns with
  | nil => cases h
  | cons x r =>
    cases h
    obtain ⟨a1, a2⟩ := foldl_max_mem r x
    have := h2 _ a1
    have := a2 _ h1
    omega
section
variable {X : Cx} {C : PC} {a : Expr} {l : LE} {pos p1 : Pos}
theorem v_maxL (hc : X.calm = true) (hg : Gl X "max") (hm : X.mg "max" = none) (ha : PE X a (tL X.K C l)) (he : starEach [a] X.env = (false, eval a X.env) :: starEach [] X.env := by rfl) :
    PE X (.Call (.Name "max" p1) [a] [] pos) (tV X.K C (eMaxL l)) := pe_imp (pe_callB (cr_max hc) hg hm (by decide +kernel) (pa_cons ha pa_nil he) (by decide) (by decide) he) fun σ H Q ⟨O, ρ, R, q⟩ => by
  refine ⟨O, ρ, R, (Fin.bind q).imp fun ds _ q1 p vs H1 x1 s1 a1 => ?_⟩
  cases z : asInts ds with
  | none => exact (show False from by simpa [Fin, z] using q1).elim
  | some ns =>
    cases z2 : mostOf ns with
    | none => exact (show False from by simpa [Fin, z, z2] using q1).elim
    | some m =>
      have q2 : ∀ v H', Gx C.T H H' → Dp X.K (hid O H') v (.int m) → Q v H' := by simpa [Fin, z, z2] using q1
      refine ⟨p, ns, rfl, ?_, ?_, fun m' hm1 hm2 => ?_⟩
      · rw [← a1.ints z]
        exact s1
      · cases ns with
        | nil => cases z2
        | cons x r => exact Nat.succ_pos _
      · rw [most_is z2 hm1 hm2]
        exact q2 _ H1 x1 (.int m)
end
section
variable {X : Cx} {C : PC} {a : Expr} {f : VE} {pos p1 p2 p3 : Pos}
theorem dp_rng {K : PySem.W.Frag} {G : Hp} (n : Nat) : DpAll K G (rgV 0 (n : Int)) (rngD 0 n 1) := by
  have : ∀ l : List Nat, DpAll K G (l.map fun (i : Nat) => V.int ((0 : Int) + (i : Nat))) (l.map fun (k : Nat) => PyData.int ((0 : Int) + (k : Nat) * 1)) := fun l => by
    induction l with
    | nil => exact .nil
    | cons x l ih =>
      refine .cons ?_ ih
      dsimp only
      rw [Int.mul_one]
      exact .int _
  unfold rgV rngD
  rw [show ((n : Int) - 0).toNat = n by omega]
  exact this _
theorem f_listRg (hc : X.calm = true) (hg : Gl X "list") (hm : X.mg "list" = none) (hg2 : Gl X "range") (hm2 : X.mg "range" = none) (ha : PE X a (tV X.K C f)) (na : starEach [a] X.env = (false, eval a X.env) :: starEach [] X.env := by rfl)
    (na2 : starEach [.Call (.Name "range" p2) [a] [] p3] X.env = (false, eval (.Call (.Name "range" p2) [a] [] p3) X.env) :: starEach [] X.env := by rfl) :
    PE X (.Call (.Name "list" p1) [.Call (.Name "range" p2) [a] [] p3] [] pos) (tF X.K C (lListRg f)) := pe_imp (pe_listRg hc hg hm (prg_1 hg2 hm2 ha na) na2) fun σ H Q ⟨O, ρ, R, q⟩ => by
  refine ⟨O, ρ, R, (Fin.bind q).imp fun d _ q1 v H1 x1 p1 => ?_⟩
  cases d with
  | int n =>
    by_cases hn : 0 ≤ n ∧ n ≤ 1000000
    · have q2 := q1
      simp only [if_pos hn] at q2
      refine ⟨n, dp_int p1, RgOk.of_le (by omega) (by omega) (by omega) (by omega), fun r nr => ?_⟩
      have hd : DpAll X.K (hid O H1) (rgV 0 n) (rngD 0 n.toNat 1) := by
        have := dp_rng (K := X.K) (G := hid O H1) n.toNat
        rw [show ((n.toNat : Nat) : Int) = n by omega] at this
        exact this
      exact (show ∀ p vs H', Gx C.T H H' → H p = none → H' p = some (.lst vs) → DpAll X.K (hid (p :: O) H') vs (rngD 0 n.toNat 1) → Q (.ref p) H' from q2) r _ _ (x1.trans (Gx.new nr)) (fresh_back x1 nr) upd_same (DpAll.mono (hid_new nr) hd)
    · have q2 := q1
      simp only [if_neg hn] at q2
      exact q2.elim
  | _ => exact q1.elim
end
end PL

/-! PLX: try .. except with a caught error; isinstance of it; a def that takes it. -/
namespace PL
open PySem PySem.Spec L2
/-! ### a pinned error -/
section
variable {X : Cx} {C : PC}
/-- a is a pinned error of the class n -/
def ExP (X : Cx) (a : Addr) (n : String) : Prop := ∃ oe D, (a, oe) ∈ X.pn ∧ X.mg (Str.ofString n) = some (.ref D) ∧ Zc (.ref D) none oe ∧ (∃ vs, oe.data = .fields vs)
theorem call_isP {a D : Addr} {oe : Obj} (hp : (a, oe) ∈ X.pn) (c : ExcC X.K D) (hz : Zc (.ref D) none oe) (hf : ∃ vs, oe.data = .fields vs) : CallR X (.builtin "isinstance") (rIsE X.K D a) := by
  intro pins s σ H xs us Q I r ⟨v, cv, b, e0, hcv, e1, q⟩
  subst e0
  match us, r with
  | [_, _], .cons ra (.cons rb .nil) =>
    cases ra
    cases hcv _ rb
    obtain ⟨vs, hv⟩ := hf
    have hget := (I.pin (a, oe) (List.mem_append_left _ hp)).1
    have inst : PySem.W.InstAt s.heap a oe D none := by
      rcases oe with ⟨o1, o2, o3, o4⟩
      rcases hz with ⟨h1, h2⟩
      dsimp only at h1 h2 hv
      rw [h1, h2, hv] at hget ⊢
      exact ⟨hget, rfl, rfl, trivial⟩
    exact PySem.W.kia_one (PySem.W.handS_kitx_exc c.hg c.hk c.hs c.hd c.ha c.hn c.ht c.hm) I.kIn inst e1 (fun z => nomatch z) fun tk => ⟨.bl b, H, I.kept (t' := tk) fun _ _ z => z, rfl, q⟩
/-- what T is to the eight -/
structure IsT (K : PySem.W.Frag) (mg : Str → Option Value) (T : String) : Prop where
  is : ∃ G, mg (Str.ofString T) = some (.ref G) ∧ ∀ n, n ∈ ex8 → ∀ D, mg (Str.ofString n) = some (.ref D) → PySem.W.kitOne K (.ref D) (.ref G) = some (decide (n = T))
/-- the eight themselves -/
structure Is8 (K : PySem.W.Frag) (mg : Str → Option Value) : Prop where
  is : ∀ n, n ∈ ex8 → ∃ D, mg (Str.ofString n) = some (.ref D) ∧ ExcC K D ∧ PySem.W.kitOne K (.ref D) (.type "ValueError") = some true
variable {pos p1 p2 p3 : Pos}
theorem er_at {K : PySem.W.Frag} {O : List Addr} {H : Hp} {σ : L2.St} {ρ : Env} (R : Rep K C O H σ ρ) {i : Nat} {n : String} (h : ρ[i]? = some (some (.er n))) : ∃ a, σ[i]? = some (some (.ref a)) ∧ C.EX a n := by
  obtain ⟨v, h1, a, rfl, h2⟩ := R.slot i _ h
  exact ⟨a, h1, h2⟩
def rIsX (X : Cx) : List V → Hp → VK → Prop := fun xs H Q => ∃ a D oe, (a, oe) ∈ X.pn ∧ ExcC X.K D ∧ Zc (.ref D) none oe ∧ (∃ vs, oe.data = .fields vs) ∧ rIsE X.K D a xs H Q
theorem call_isX : CallR X (.builtin "isinstance") (rIsX X) := fun pins s σ H xs us Q I r ⟨a, D, oe, h1, h2, h3, h4, h5⟩ => call_isP h1 h2 h3 h4 pins s σ H xs us Q I r h5
theorem v_isEx (i : Nat) {x : Str} {T : String} (h8 : Is8 X.K X.mg) (q : IsT X.K X.mg T) (hE : ∀ a n, C.EX a n → ExP X a n) (hgT : Gl X (Str.ofString T)) (hg : Gl X "isinstance") (hm : X.mg "isinstance" = none) (hT : T ∈ ex8 ∧ T ≠ "ValueError" := by decide) (hN : X.N[i]? = some x := by rfl) (hv : Vis X.env.scope x := by first | exact Or.inl rfl | exact Or.inr (Or.inl rfl) | exact Or.inr (Or.inr rfl)) (hd : (x == ("__debug__" : Str)) = false := by decide)
    (hcd : (x == ("__classdict__" : Str)) = false := by decide) (hdT : (Str.ofString T == ("__debug__" : Str)) = false := by decide) (he : starEach [.Name x p3, .Name (Str.ofString T) p1] X.env = (false, eval (.Name x p3) X.env) :: starEach [.Name (Str.ofString T) p1] X.env := by rfl) :
    PE X (.Call (.Name "isinstance" p2) [.Name x p3, .Name (Str.ofString T) p1] [] pos) (tV X.K C (eExIs i T)) := by
  obtain ⟨G, hG, hk⟩ := q.is
  refine pe_imp (pe_callB call_isX hg hm (by decide +kernel) (pa_cons (pe_var (i := i) hN hv hd hcd) (pa_cons (pe_glob (v := .ref G) hgT hG rfl hdT) pa_nil) he) (by decide) (by decide) he) fun σ H Q ⟨O, ρ, R, w⟩ => ?_
  unfold eExIs at w
  split at w
  · rename_i n e
    unfold exSub at w
    by_cases hn : n ∈ ex8
    · rw [if_pos hn, if_neg hT.2, if_pos hT.1] at w
      obtain ⟨a, h1, h2⟩ := er_at R e
      obtain ⟨oe, D, hp, hD, hz, hf⟩ := hE a n h2
      obtain ⟨D', hD', hc, _⟩ := h8.is n hn
      cases hD.symm.trans hD'
      exact ⟨_, h1, a, D, oe, hp, hc, hz, hf, .ref G, .ref G, _, rfl, fun u r => r, hk n hn D hD, w _ H (Gx.refl H) (.bl _)⟩
    · rw [if_neg hn] at w
      exact w.elim
  · exact w.elim
theorem v_isExV (i : Nat) {x : Str} (h8 : Is8 X.K X.mg) (hE : ∀ a n, C.EX a n → ExP X a n) (hgT : Gl X "ValueError") (hmT : X.mg "ValueError" = none) (hg : Gl X "isinstance") (hm : X.mg "isinstance" = none) (hN : X.N[i]? = some x := by rfl) (hv : Vis X.env.scope x := by first | exact Or.inl rfl | exact Or.inr (Or.inl rfl) | exact Or.inr (Or.inr rfl)) (hd : (x == ("__debug__" : Str)) = false := by decide)
    (hcd : (x == ("__classdict__" : Str)) = false := by decide) (he : starEach [.Name x p3, .Name "ValueError" p1] X.env = (false, eval (.Name x p3) X.env) :: starEach [.Name "ValueError" p1] X.env := by rfl) :
    PE X (.Call (.Name "isinstance" p2) [.Name x p3, .Name "ValueError" p1] [] pos) (tV X.K C (eExIs i "ValueError")) := by
  refine pe_imp (pe_callB call_isX hg hm (by decide +kernel) (pa_cons (pe_var (i := i) hN hv hd hcd) (pa_cons (pe_bltn (v := .ty "ValueError") hgT hmT (by decide +kernel) rfl (by decide) (by decide)) pa_nil) he) (by decide) (by decide) he) fun σ H Q ⟨O, ρ, R, w⟩ => ?_
  unfold eExIs at w
  split at w
  · rename_i n e
    unfold exSub at w
    by_cases hn : n ∈ ex8
    · rw [if_pos hn, if_pos rfl] at w
      obtain ⟨a, h1, h2⟩ := er_at R e
      obtain ⟨oe, D, hp, hD, hz, hf⟩ := hE a n h2
      obtain ⟨D', hD', hc, hk⟩ := h8.is n hn
      cases hD.symm.trans hD'
      exact ⟨_, h1, a, D, oe, hp, hc, hz, hf, .ty "ValueError", .type "ValueError", _, rfl, fun u r => r, hk, w _ H (Gx.refl H) (.bl _)⟩
    · rw [if_neg hn] at w
      exact w.elim
  · exact w.elim
end
/-! ### a def that takes a caught error -/
/-- what a def promises of a pinned error p -/
structure FnW (P : Program) (w : World) (K : PySem.W.Frag) (mg : Str → Option Value) (base : Heap) (k : Nat) (f : Addr) (fd : FuncData) (ps : List Str) (sp : Addr × Obj → List V → Hp → VK → Prop) : Prop where
  run : ∀ (p : Addr × Obj) (A : Around) (outer : List PySem.Env) (s : Shared) (H : Hp) (us : List Value) (vs : List V) (Q : VK), L2H.RoomH k A → L2H.PinOk outer H s p → Env0 P w K mg base A outer s H →
    BindsTo s fd ⟨us, []⟩ (ps.zip us) → Vals vs us → vs.length = ps.length → sp p vs H Q → codeAny (model P w) A (.call (.ref f) ⟨us, []⟩) (CR (L2.CX P w) outer P w H s Q (fun _ _ _ => False)) s
/-- p is a caught error of the class n -/
def PinE (mg : Str → Option Value) (p : Addr × Obj) (n : String) : Prop := ∃ D, mg (Str.ofString n) = some (.ref D) ∧ Zc (.ref D) none p.2 ∧ ∃ vs, p.2.data = .fields vs
def spE (K : PySem.W.Frag) (tb : List (Addr × Str)) (mg : Str → Option Value) (F : FN) (p : Addr × Obj) (vs : List V) (H : Hp) (Q : VK) : Prop := ∃ (n : String) (O : List Addr) (r : RV), vs = [.ref p.1] ∧ PinE mg p n ∧ LamX.Tabs tb H ∧ (∀ b ∈ O, H b ≠ none) ∧ F [.er n] = .ok r ∧ ∀ v H', Gx tb H H' → RetC K O H H' v r → Q v H'
structure DfnE (P : Program) (w : World) (K : PySem.W.Frag) (mg : Str → Option Value) (base : Heap) (tb : List (Addr × Str)) (k : Nat) (x : Str) (F : FN) : Prop where
  ex : ∃ (f : Addr) (fd : FuncData) (y : Str), FnW P w K mg base k f fd [y] (spE K tb mg F) ∧ mg x = some (.ref f) ∧ PySem.W.keepIn K (.ref f) = true ∧ Binds K fd [y] []
theorem DfnE.imp {P : Program} {w : World} {K : PySem.W.Frag} {mg : Str → Option Value} {base : Heap} {tb : List (Addr × Str)} {k : Nat} {x : Str} {F F' : FN} (D : DfnE P w K mg base tb k x F) (h : ∀ n r, F' [.er n] = .ok r → F [.er n] = .ok r) : DfnE P w K mg base tb k x F' := by
  obtain ⟨f, fd, y, F0, rest⟩ := D.ex
  refine ⟨f, fd, y, ⟨fun p A outer s H us vs Q h1 h2 h3 h4 h5 h6 ⟨n, O, r, g1, g2, g0, g3, g4, g5⟩ => F0.run p A outer s H us vs Q h1 h2 h3 h4 h5 h6 ⟨n, O, r, g1, g2, g0, g3, h n r g4, g5⟩⟩, rest⟩
section
variable {X : Cx} {C : PC} {pos p1 p2 p3 : Pos} {x y : Str} {F : FN} {k : Nat}
theorem cx_none {P : Program} {w : World} {outer : List PySem.Env} {H : Hp} {s : Shared} {u : Value} {s' : Shared} (h : L2.CX P w outer H s (fun _ _ _ => False) u s') : False := by
  obtain ⟨_, _, _, _, _, _, _, _, _, _, _, _, e⟩ := h
  exact e
/-- its call: the error stands in slot i -/
theorem x_callE (i : Nat) (D : DfnE X.prog X.w X.K X.mg X.base C.T k x F) (hr : L2H.RoomH k X.A) (hE : ∀ a n, C.EX a n → ExP X a n) (hg : Gl X x) (hN : X.N[i]? = some y := by rfl) (hv : Vis X.env.scope y := by first | exact Or.inl rfl | exact Or.inr (Or.inl rfl) | exact Or.inr (Or.inr rfl)) (hd : (y == ("__debug__" : Str)) = false := by decide)
    (hcd : (y == ("__classdict__" : Str)) = false := by decide) (hdb : (x == ("__debug__" : Str)) = false := by decide) (he : starEach [.Name y p2] X.env = (false, eval (.Name y p2) X.env) :: starEach [] X.env := by rfl) (hpl : (backTo pos (starEach [] X.env)).any (·.1) = false := by rfl) :
    PE X (.Call (.Name x p1) [.Name y p2] [] pos) (tX X.K C (xCallE F i)) := by
  obtain ⟨f, fd, yy, F0, hmg, hk, hb⟩ := D.ex
  refine ⟨fun pins s σ H Q I ⟨O, ρ, R, w⟩ => ?_⟩
  unfold xCallE at w
  split at w
  case h_2 => exact w.elim
  rename_i n e
  obtain ⟨a, h1, h2⟩ := er_at R e
  obtain ⟨oe, G, hp, hG, hz, hf⟩ := hE a n h2
  cases z : F [.er n] with
  | exc m => rw [z] at w; exact w.elim
  | stuck => rw [z] at w; exact w.elim
  | ok r =>
    rw [z] at w
    have one : PA X [.Name y p2] (tCons (tVar i) tNil) := pa_cons (pe_var hN hv hd hcd) pa_nil he
    refine wpAny_Call_Name_kw (ld_glob I hg hmg (PySem.W.callWith_K (h₀ := X.base) I.ok.mod.kin hk (thn (one.run pos pins s σ H (fun vs H' => H' = H ∧ vs = [.ref a]) I ⟨_, h1, rfl, rfl⟩) fun us s1 q => ?_) he hpl) hdb)
    obtain ⟨vs, H1, I1, rv, rfl, rfl⟩ := q
    refine ⟨I1.kIn, ?_⟩
    have hb1 := hb s1 us I1.kIn (by rw [List.append_nil]; exact rv.length.symm)
    rw [List.append_nil] at hb1
    obtain ⟨g1, g2, g3, g4, g5⟩ := I1.pin (a, oe) (List.mem_append_left _ hp)
    have pin : L2H.PinOk X.stack H1 s1 (a, oe) := ⟨g1, g2, fun m => (List.mem_cons.mp (I1.stkSub a m)).elim g3 g4, g5⟩
    refine wpAny_call (codeAny_mono (F0.run (a, oe) X.A X.stack s1 H1 us [.ref a] Q hr pin I1.env0 hb1 rv rfl ⟨n, O, r, rfl, ⟨G, hG, hz, hf⟩, R.tabs, R.alive, z, fun v H' x1 p1 => w v H' x1 p1⟩) fun o s2 q2 => ?_)
    match o, q2 with
    | .ok (.ret u), q2 => exact I1.after q2
    | .ok .next, q2 => exact q2.elim
    | .ok .brk, q2 => exact q2.elim
    | .ok .cont, q2 => exact q2.elim
    | .error u, q2 => exact (cx_none q2).elim
end
/-! ### .. by its body -/
section
variable {P : Program} {w : World} {K : PySem.W.Frag} {mg : Str → Option Value} {base : Heap} {tb : List (Addr × Str)} {cv : String → Value}
def PC.ofE (tb : List (Addr × Str)) (mg : Str → Option Value) (cv : String → Value) (H : Hp) (O : List Addr) (p : Addr × Obj) : PC := ⟨[], H, O, fun _ _ _ _ => False, cv, fun a n => a = p.1 ∧ PinE mg p n, tb⟩
theorem er_rep {O : List Addr} {H : Hp} {p : Addr × Obj} {n : String} {m : Nat} (hT : LamX.Tabs tb H) (al : ∀ b ∈ O, H b ≠ none) (hn : PinE mg p n) : Rep K (PC.ofE tb mg cv H O p) O H (some (.ref p.1) :: List.replicate m none) (some (.er n) :: List.replicate m none) := by
  have key : ∀ (j : Nat) (s : SL), (some (.er n) :: List.replicate m none : Env)[j]? = some (some s) → j = 0 ∧ s = .er n := fun j s e => by
    cases j with
    | zero => cases e; exact ⟨rfl, rfl⟩
    | succ j =>
      rw [List.getElem?_cons_succ, List.getElem?_replicate] at e
      split at e <;> cases e
  refine ⟨ExM.refl _ _, ⟨fun b hb => al b hb, hT⟩, fun b hb => hb, al, by rw [List.length_cons, List.length_cons, List.length_replicate, List.length_replicate], fun j s e => ?_, fun j k s t q _ e1 o1 _ _ _ _ => ?_⟩
  · obtain ⟨rfl, rfl⟩ := key j s e
    exact ⟨_, rfl, p.1, rfl, rfl, hn⟩
  · obtain ⟨_, rfl⟩ := key j s e1
    cases o1
theorem mk_defE {x qual : Str} {st : Stmt} {f : Addr} {fd : FuncData} {N : List Str} {y : Str} {k : Nat} {g : SE} (F : Fun K x qual st f fd) (S : FnScope N [y] (defScope st)) (hmg : mg x = some (.ref f)) (hb : Binds K fd [y] [])
    (body : ∀ (p : Addr × Obj) (cdv : Value) (A : Around) (outer : List PySem.Env) (s : Shared) (H : Hp) (O : List Addr), L2H.RoomH k (A.deeper (PyProof.Rows.envOfC qual (defScope st) s.heap.objs.size f cdv)) →
      (∀ a n, (PC.ofE tb mg cv H O p).EX a n → ExP (L2H.cxH (L2.CX P w) P w K mg base N qual (defScope st) f cdv A outer s H (fun _ _ _ => False) p) a n) →
      PSs (L2H.cxH (L2.CX P w) P w K mg base N qual (defScope st) f cdv A outer s H (fun _ _ _ => False) p) (defBody st) (tS K (PC.ofE tb mg cv H O p) g)) : DfnE P w K mg base tb (k + 1) x (runF 1 N.length g) := by
  have kp := F.kp
  obtain ⟨oc, od, kV, doc, pm, an, cdv, ct, osl, rfl, lk, hcd⟩ := F.ex
  refine ⟨f, _, y, ⟨fun p A outer s H us vs Q hr pin e0 bt rv hl hsp => ?_⟩, hmg, kp, hb⟩
  obtain ⟨n, O, r, rfl, hn, hT, al, hF, hq⟩ := hsp
  have kin : K.In s.heap := e0.mod.kin.keeps fun b o e => (e0.bs b o e).1
  have lim : s.heap.NoLimit := e0.mod.nolimit.keeps fun b o e => (e0.bs b o e).1
  have kinds : ∀ z ∈ List.zip [y] us, (defScope st).names.lookup z.1 = some .local ∨ ((defScope st).names.lookup z.1 = some .cell ∧ ((cellsFrom (s.heap.objs.size + 1) (defScope st).names []).lookup z.1).isSome = true) := by
    rintro ⟨z, u⟩ hz
    exact (S.par z (List.of_mem_zip hz).1).imp id fun q => ⟨q, PySem.W.cellsFrom_some _ _ _ (.inl q)⟩
  refine codeAny_call_function hr.depth (kin _ _ lk) rfl S.co S.gen rfl (PySem.W.codeRec_of kin hcd) (bt _ _ _ _ ?_)
  refine wpAny_newFunctionEnv_cells S.kind kinds fun env he s1 x1 => ?_
  cases he
  refine ⟨lim.keeps x1.toInCall.keep, codeAny_func ?_⟩
  have I := L2H.inv_startH (CX := L2.CX P w) (E := fun _ _ _ => False) S pin e0 hl rv x1
  have hE : ∀ a n, (PC.ofE tb mg cv H O p).EX a n → ExP (L2H.cxH (L2.CX P w) P w K mg base N qual (defScope st) f cdv A outer s H (fun _ _ _ => False) p) a n := fun a n ⟨h1, D, h2, h3, h4⟩ => ⟨p.2, D, by rw [h1]; exact List.mem_singleton.mpr rfl, h2, h3, h4⟩
  have R : Rep K (PC.ofE tb mg cv H O p) O H (L2.start N [.ref p.1]) (some (.er n) :: List.replicate (N.length - 1) none) := er_rep hT al hn
  have ret : ∀ (O' : List Addr) (H' : Hp) (σ' : L2.St) (ρ' : Env) (v : V) (r : RV), Rep K (PC.ofE tb mg cv H O p) O' H' σ' ρ' → RetV K (PC.ofE tb mg cv H O p) O' H' v r → Gx tb H H' ∧ RetC K O H H' v r := fun O' H' σ' ρ' v r R rv => by
    refine ⟨(show ExM _ [] H H' from R.ex).gx, ?_⟩
    have up : ∀ q, ∀ b ∈ q :: O, b ∈ q :: O' := fun q b z => (List.mem_cons.mp z).elim (fun z => z ▸ List.mem_cons_self) fun z => List.mem_cons_of_mem _ (R.sub b z)
    cases r with
    | val d => exact Dp.mono (hid_sub R.sub) rv
    | fresh ds => obtain ⟨q, us, a, b, c, d⟩ := rv; exact ⟨q, us, a, b, c, DpAll.mono (hid_sub (up q)) d⟩
    | dfresh ds => obtain ⟨q, us, a, b, c, d⟩ := rv; exact ⟨q, us, a, b, c, KvAll.mono (hid_sub (up q)) d⟩
    | gfresh ds => obtain ⟨q, us, a, b, c, d⟩ := rv; exact ⟨q, us, a, b, c, d.mono (hid_sub (up q))⟩
  have hpost : Post K (PC.ofE tb mg cv H O p) { nx := fun _ H' => Q .non H', rt := Q } O H (g (some (.er n) :: List.replicate (N.length - 1) none)) := by
    unfold runF at hF
    rw [if_pos (show [SL.er n].length = 1 from rfl)] at hF
    change (match g (some (.er n) :: List.replicate (N.length - 1) none) with
      | .nx _ => (Out.ok (RV.val PyData.none) : Out RV)
      | .rt r _ => .ok r
      | .ex n _ => .exc n
      | _ => .stuck) = .ok r at hF
    cases hg : g (some (.er n) :: List.replicate (N.length - 1) none) with
    | nx ρ' =>
      rw [hg] at hF
      cases hF
      intro σ' O' H' R' _
      obtain ⟨ex, _⟩ := ret O' H' σ' ρ' .non (.val .none) R' .non
      exact hq .non H' ex .non
    | rt r' ρ' =>
      rw [hg] at hF
      cases hF
      intro v σ' O' H' R' _ rv
      obtain ⟨ex, rc⟩ := ret O' H' σ' ρ' v r R' rv
      exact hq v H' ex rc
    | ex m ρ' => rw [hg] at hF; cases hF
    | bk ρ' => rw [hg] at hF; cases hF
    | ct ρ' => rw [hg] at hF; cases hF
    | stuck => rw [hg] at hF; cases hF
  refine wpAny_mono ((body p cdv A outer s H O (hr.deeper _) hE).run [] s1 _ H _ I ⟨O, _, R, hpost⟩) (fun fl s2 q => ?_) fun _ _ q => q
  match fl, q with
  | .ret u, ⟨v, σ2, H2, J, r2, q2⟩ => exact ⟨v, H2, J.os, J.bare, J.base, J.hok, r2, q2⟩
  | .next, ⟨σ2, H2, J, q2⟩ => exact ⟨.non, H2, J.os, J.bare, J.base, J.hok, rfl, q2⟩
  | .brk, ⟨_, _, _, q2⟩ => exact q2.elim
  | .cont, ⟨_, _, _, q2⟩ => exact q2.elim
end
/-! ### try -/
section
variable {X : Cx} {C : PC} {pos pos' np : Pos} {x y : Str} {s g : SE} {body suite : List Stmt} {b₀ : Stmt}
/-- what the clause takes -/
structure Cat (K : PySem.W.Frag) (mg : Str → Option Value) (T : String) (ct : String → Bool) : Prop where
  is : ∃ G, mg (Str.ofString T) = some (.ref G) ∧ ∀ m, ct m = true → ∃ D, mg (Str.ofString m) = some (.ref D) ∧ PySem.W.exmOne K (.ref D) (.ref G) = some true
def PC.sui (C : PC) (mg : Str → Option Value) (a : Addr) (D : Addr) : PC := { C with W := fun _ _ _ _ => False, EX := fun a' m => a' = a ∧ mg (Str.ofString m) = some (.ref D) }
theorem Rep.reW {K : PySem.W.Frag} {O : List Addr} {H : Hp} {σ : L2.St} {ρ : Env} {W : WX} (R : Rep K C O H σ ρ) : Rep K { C with W := W } O H σ ρ := ⟨R.ex, R.o0, R.sub, R.alive, R.len, R.slot, R.apart⟩
theorem Rep.ofW {K : PySem.W.Frag} {O : List Addr} {H : Hp} {σ : L2.St} {ρ : Env} {W : WX} (R : Rep K { C with W := W } O H σ ρ) : Rep K C O H σ ρ := ⟨R.ex, R.o0, R.sub, R.alive, R.len, R.slot, R.apart⟩
theorem clr_some {ρ : Env} {i : Nat} {t : SL} (h : (clrE ρ)[i]? = some (some t)) : ρ[i]? = some (some t) ∧ ∀ n, t ≠ .er n := by
  unfold clrE at h
  rw [List.getElem?_map] at h
  cases e : ρ[i]? with
  | none => rw [e] at h; cases h
  | some o =>
    rw [e] at h
    cases o with
    | none => cases h
    | some u => cases u <;> cases h <;> exact ⟨rfl, fun n z => nomatch z⟩
theorem clr_len {ρ : Env} : (clrE ρ).length = ρ.length := by
  unfold clrE
  rw [List.length_map]
/-- the error goes -/
theorem Rep.clr {K : PySem.W.Frag} {O : List Addr} {H : Hp} {σ : L2.St} {ρ : Env} {mg : Str → Option Value} {a D : Addr} (R : Rep K (C.sui mg a D) O H σ ρ) : Rep K C O H σ (clrE ρ) where
  ex := R.ex
  o0 := R.o0
  sub := R.sub
  alive := R.alive
  len := by rw [clr_len]; exact R.len
  slot := fun j t e => by
    obtain ⟨e1, e2⟩ := clr_some e
    obtain ⟨v, h1, h2⟩ := R.slot j t e1
    refine ⟨v, h1, ?_⟩
    cases t with
    | er n => exact absurd rfl (e2 n)
    | fz d => exact h2
    | ow ds => exact h2
    | bw ds => exact h2
    | dow ds => exact h2
    | dbw ds => exact h2
    | mw ds => exact h2
    | og ds => exact h2
    | oo ds => exact h2
    | hd ds => exact h2
  apart := fun j k t u q hjk e1 o1 e2 e3 o3 e4 => R.apart j k t u q hjk (clr_some e1).1 o1 e2 (clr_some e3).1 o3 e4
theorem set_some {α : Type} {l : List (Option α)} {i j : Nat} {t : α} (h : (l.set i none)[j]? = some (some t)) : l[j]? = some (some t) ∧ j ≠ i := by
  by_cases hj : j = i
  · subst hj
    have hl := (List.getElem?_eq_some_iff.mp h).1
    rw [List.length_set] at hl
    rw [List.getElem?_set_self hl] at h
    cases h
  · rw [List.getElem?_set_ne (Ne.symm hj)] at h
    exact ⟨h, hj⟩
theorem Rep.gone {K : PySem.W.Frag} {O : List Addr} {H : Hp} {σ : L2.St} {ρ : Env} {i : Nat} (R : Rep K C O H σ ρ) : Rep K C O H (σ.set i none) (ρ.set i none) := R.weak (by rw [List.length_set, List.length_set]; exact R.len) fun j t e => by
  obtain ⟨h1, h2⟩ := set_some e
  exact ⟨h1, List.getElem?_set_ne (Ne.symm h2)⟩
/-- the error comes -/
theorem Rep.setE {K : PySem.W.Frag} {O : List Addr} {H : Hp} {σ : L2.St} {ρ : Env} {mg : Str → Option Value} {a D : Addr} {i : Nat} {m : String} (R : Rep K C O H σ ρ) (hE0 : ∀ a n, ¬ C.EX a n) (hm : mg (Str.ofString m) = some (.ref D)) : Rep K (C.sui mg a D) O H (σ.set i (some (.ref a))) (ρ.set i (some (.er m))) where
  ex := R.ex
  o0 := R.o0
  sub := R.sub
  alive := R.alive
  len := by rw [List.length_set, List.length_set]; exact R.len
  slot := fun j t e => by
    by_cases hj : j = i
    · subst hj
      have hl := (List.getElem?_eq_some_iff.mp e).1
      rw [List.length_set] at hl
      rw [List.getElem?_set_self hl] at e
      cases e
      exact ⟨_, List.getElem?_set_self (by rw [R.len]; exact hl), a, rfl, rfl, hm⟩
    · rw [List.getElem?_set_ne (Ne.symm hj)] at e
      rw [List.getElem?_set_ne (Ne.symm hj)]
      obtain ⟨v, h1, h2⟩ := R.slot j t e
      refine ⟨v, h1, ?_⟩
      cases t with
      | er n => obtain ⟨b, _, z⟩ := h2; exact absurd z (hE0 b n)
      | fz d => exact h2
      | ow ds => exact h2
      | bw ds => exact h2
      | dow ds => exact h2
      | dbw ds => exact h2
      | mw ds => exact h2
      | og ds => exact h2
      | oo ds => exact h2
      | hd ds => exact h2
  apart := fun j k t u q hjk e1 o1 e2 e3 o3 e4 => by
    have back : ∀ (j : Nat) (t : SL) (q : Addr), (ρ.set i (some (.er m)))[j]? = some (some t) → ownS t = true → (σ.set i (some (.ref a)))[j]? = some (some (.ref q)) → ρ[j]? = some (some t) ∧ σ[j]? = some (some (.ref q)) := fun j t q e o e2 => by
      by_cases hj : j = i
      · subst hj
        have hl := (List.getElem?_eq_some_iff.mp e).1
        rw [List.length_set] at hl
        rw [List.getElem?_set_self hl] at e
        cases e
        cases o
      · rw [List.getElem?_set_ne (Ne.symm hj)] at e e2
        exact ⟨e, e2⟩
    exact R.apart j k t u q hjk (back j t q e1 o1 e2).1 o1 (back j t q e1 o1 e2).2 (back k u q e3 o3 e4).1 o3 (back k u q e3 o3 e4).2
/-- try: body / except T as y: suite -/
theorem s_tryAs {i : Nat} {T : String} {ct : String → Bool} (q : Cat X.K X.mg T ct) (hgT : Gl X (Str.ofString T)) (hcv : C.cv = cvOf X.mg) (hE0 : ∀ a n, ¬ C.EX a n) (hs : X.stack = X.env :: X.outer) (hf : X.env.frame = some X.env.locals) (hN : X.N.Nodup) (hi : X.N[i]? = some y) (hln : X.env.kindOf y = some .local) (tk : Takes X C.W)
    (hb : ∀ (W : WX) (pn : List (Addr × Obj)) (xe : Value → Shared → Prop), Takes (X.tr pn xe) W → PassesOwn (model X.prog X.w) X.A X.env xe → PSs (X.tr pn xe) body (tS X.K { C with W := W } s))
    (hsu : ∀ (a D : Addr) (oe : Obj) (pn : List (Addr × Obj)), (∀ a' m, (C.sui X.mg a D).EX a' m → ExP (X.suite a ((a, oe) :: pn)) a' m) → PSs (X.suite a ((a, oe) :: pn)) (b₀ :: suite) (tS X.K (C.sui X.mg a D) g)) (hdb : (Str.ofString T == ("__debug__" : Str)) = false := by decide) :
    PS X (.Try body [.ExceptHandler (some (.Name (Str.ofString T) np)) (some y) (b₀ :: suite) pos'] [] [] pos) (tS X.K C (sTryAs s ct i g)) := by
  obtain ⟨G, hG, hct⟩ := q.is
  refine ps_imp (ps_try_as (c := .ref G) (ts := fun a cls d D σ H => ∃ Dd, cls = .ref Dd ∧ d = none ∧ tS X.K (C.sui X.mg a Dd) g D σ H) (tb := fun W => tS X.K { C with W := W } s) (Wout := C.W) hs hf hN hi hln ⟨hgT, hdb, .inl hG⟩ tk hb (fun a oe cls d pn hz hfd => ⟨fun pins s1 σ H D I ⟨Dd, e1, e2, h⟩ => by
    subst e1 e2
    exact (hsu a Dd oe pn fun a' m ⟨h1, h2⟩ => ⟨oe, Dd, by rw [h1]; exact List.mem_cons_self, h2, hz, hfd⟩).run pins s1 σ H D I h⟩)) fun D σ H ⟨O, ρ, R, w⟩ => ⟨O, ρ, R.reW, ?_⟩
  unfold sTryAs at w
  cases e : s ρ with
  | nx ρ' => rw [e] at w; exact fun σ' O' H' R' => w σ' O' H' R'.ofW
  | bk ρ' => rw [e] at w; exact fun σ' O' H' R' => w σ' O' H' R'.ofW
  | ct ρ' => rw [e] at w; exact fun σ' O' H' R' => w σ' O' H' R'.ofW
  | rt r ρ' => rw [e] at w; exact fun v σ' O' H' R' x rv => w v σ' O' H' R'.ofW x (by cases r <;> exact rv)
  | stuck => rw [e] at w; exact w
  | ex m ρ' =>
    rw [e] at w
    intro σ' O' H' R' x
    have R1 := R'.ofW
    by_cases hm : ct m = true
    · dsimp only at w
      rw [if_pos hm] at w
      obtain ⟨Dd, hD, hx⟩ := hct m hm
      have hcm : C.cv m = .ref Dd := by rw [hcv]; exact cv_of hD
      refine ⟨true, ?_, fun _ a ha => ⟨Dd, hcm, rfl, O', _, R1.setE hE0 hD, ?_⟩, fun z => nomatch z⟩
      · show PySem.W.exmOne X.K (C.cv m) _ = _
        rw [hcm]
        exact hx
      · cases e2 : g (ρ'.set i (some (.er m))) with
        | nx ρ2 => rw [e2] at w; exact fun σ2 O2 H2 R2 x2 => w _ O2 H2 R2.clr.gone (x.trans x2)
        | bk ρ2 => rw [e2] at w; exact fun σ2 O2 H2 R2 x2 => w _ O2 H2 R2.clr.gone (x.trans x2)
        | ct ρ2 => rw [e2] at w; exact fun σ2 O2 H2 R2 x2 => w _ O2 H2 R2.clr.gone (x.trans x2)
        | rt r ρ2 => rw [e2] at w; exact fun v σ2 O2 H2 R2 x2 rv => w v _ O2 H2 R2.clr (x.trans x2) (by cases r <;> exact rv)
        | ex n ρ2 => rw [e2] at w; exact w.elim
        | stuck => rw [e2] at w; exact w.elim
    · dsimp only at w
      rw [if_neg hm] at w
      exact w.elim
/-- try: body / except T: suite -/
theorem s_tryO {T : String} {ct : String → Bool} (q : Cat X.K X.mg T ct) (hgT : Gl X (Str.ofString T)) (hcv : C.cv = cvOf X.mg) (hs : X.stack = X.env :: X.outer) (hf : X.env.frame = some X.env.locals) (tk : Takes X C.W)
    (hb : ∀ (W : WX) (pn : List (Addr × Obj)) (xe : Value → Shared → Prop), Takes (X.tr pn xe) W → PassesOwn (model X.prog X.w) X.A X.env xe → PSs (X.tr pn xe) body (tS X.K { C with W := W } s))
    (hsu : ∀ (a : Addr) (oe : Obj) (pn : List (Addr × Obj)), PSs (X.suite a ((a, oe) :: pn)) (b₀ :: suite) (tS X.K { C with W := fun _ _ _ _ => False } g)) (hdb : (Str.ofString T == ("__debug__" : Str)) = false := by decide) :
    PS X (.Try body [.ExceptHandler (some (.Name (Str.ofString T) np)) none (b₀ :: suite) pos'] [] [] pos) (tS X.K C (sTryO s ct g)) := by
  obtain ⟨G, hG, hct⟩ := q.is
  refine ps_imp (ps_try_only (c := .ref G) (ts := fun a cls d D σ H => tS X.K { C with W := fun _ _ _ _ => False } g D σ H) (tb := fun W => tS X.K { C with W := W } s) (Wout := C.W) hs hf ⟨hgT, hdb, .inl hG⟩ tk hb (fun a oe cls d pn hz hfd => hsu a oe pn)) fun D σ H ⟨O, ρ, R, w⟩ => ⟨O, ρ, R.reW, ?_⟩
  unfold sTryO at w
  cases e : s ρ with
  | nx ρ' => rw [e] at w; exact fun σ' O' H' R' => w σ' O' H' R'.ofW
  | bk ρ' => rw [e] at w; exact fun σ' O' H' R' => w σ' O' H' R'.ofW
  | ct ρ' => rw [e] at w; exact fun σ' O' H' R' => w σ' O' H' R'.ofW
  | rt r ρ' => rw [e] at w; exact fun v σ' O' H' R' x rv => w v σ' O' H' R'.ofW x (by cases r <;> exact rv)
  | stuck => rw [e] at w; exact w
  | ex m ρ' =>
    rw [e] at w
    intro σ' O' H' R' x
    have R1 := R'.ofW
    by_cases hm : ct m = true
    · dsimp only at w
      rw [if_pos hm] at w
      obtain ⟨Dd, hD, hx⟩ := hct m hm
      have hcm : C.cv m = .ref Dd := by rw [hcv]; exact cv_of hD
      refine ⟨true, ?_, fun _ a ha => ⟨O', _, R1.reW, ?_⟩, fun z => nomatch z⟩
      · show PySem.W.exmOne X.K (C.cv m) _ = _
        rw [hcm]
        exact hx
      · cases e2 : g ρ' with
        | nx ρ2 => rw [e2] at w; exact fun σ2 O2 H2 R2 x2 => w _ O2 H2 R2.ofW (x.trans x2)
        | bk ρ2 => rw [e2] at w; exact fun σ2 O2 H2 R2 x2 => w _ O2 H2 R2.ofW (x.trans x2)
        | ct ρ2 => rw [e2] at w; exact fun σ2 O2 H2 R2 x2 => w _ O2 H2 R2.ofW (x.trans x2)
        | rt r ρ2 => rw [e2] at w; exact fun v σ2 O2 H2 R2 x2 rv => w v _ O2 H2 R2.ofW (x.trans x2) (by cases r <;> exact rv)
        | ex n ρ2 => rw [e2] at w; exact w.elim
        | stuck => rw [e2] at w; exact w.elim
    · dsimp only at w
      rw [if_neg hm] at w
      exact w.elim
end
end PL
namespace PL
open PySem PySem.Spec L2
theorem wk_tr {X : Cx} {C : PC} {W : WX} {pn : List (Addr × Obj)} {xe : Value → Shared → Prop} (tk : Takes (X.tr pn xe) W) : Wk (X.tr pn xe) { C with W := W } := fun σ => passAt tk σ
theorem roomH_mark {A : Around} {k j : Nat} {v : Option Value} (h : Room k A) (hj : j ≤ k) : L2H.RoomH j (A.mark v) := ⟨(L2H.RoomH.mono (L2H.roomH_of h) hj).dp, (L2H.RoomH.mono (L2H.roomH_of h) hj).un⟩
theorem _root_.L2H.RoomH.units {A : Around} {k : Nat} (h : L2H.RoomH k A) : A.units + 64 < cLine := by have := h.un; omega
end PL

/-! PLD: sorted of texts. -/
namespace PL
open PySem PySem.Spec L2
theorem leS_iff {a b : Str} : leS a b = true ↔ a.cps.toList ≤ b.cps.toList := by
  unfold leS
  rw [PyProof.Rows.ltCps_eq, Bool.not_eq_true', decide_eq_false_iff_not]
  exact List.not_lt
theorem leS_trans (a b c : Str) (h1 : leS a b = true) (h2 : leS b c = true) : leS a c = true := leS_iff.mpr (List.le_trans (leS_iff.mp h1) (leS_iff.mp h2))
theorem leS_total (a b : Str) : (leS a b || leS b a) = true := by
  rw [Bool.or_eq_true, leS_iff, leS_iff]
  exact List.le_total _ _
theorem leS_anti {a b : Str} (h1 : leS a b = true) (h2 : leS b a = true) : a = b := by
  have := List.le_antisymm (leS_iff.mp h1) (leS_iff.mp h2)
  cases a
  cases b
  exact congrArg Str.mk (Array.toList_inj.mp this)
theorem risingS_all : ∀ (r : List Str) (p : Str), PyProof.Rows.risingS p r = true → (p :: r).Pairwise fun a b => leS a b = true
  | [], p, _ => List.pairwise_singleton _ _
  | x :: r, p, h => by
    have h : (leS p x && PyProof.Rows.risingS x r) = true := h
    rw [Bool.and_eq_true] at h
    have ih := risingS_all r x h.2
    refine List.pairwise_cons.mpr ⟨fun y hy => ?_, ih⟩
    rcases List.mem_cons.mp hy with rfl | hy
    · exact h.1
    · exact leS_trans p x y h.1 ((List.pairwise_cons.mp ih).1 y hy)
theorem sortedS_is {ys ss : List Str} (hp : ys.Perm ss) (hs : PyProof.Rows.sortedS ys = true) : ys = ss.mergeSort leS := by
  have h1 : ys.Pairwise fun a b => leS a b = true := by
    cases ys with
    | nil => exact List.Pairwise.nil
    | cons x r => exact risingS_all r x hs
  have h2 : (ss.mergeSort leS).Pairwise fun a b => leS a b = true := List.pairwise_mergeSort leS_trans leS_total ss
  exact List.Perm.eq_of_pairwise (le := fun a b => leS a b = true) (fun a b _ _ h1 h2 => leS_anti h1 h2) h1 h2 (hp.trans (List.mergeSort_perm ss leS).symm)
theorem dpAll_strs {K : PySem.W.Frag} {G : Hp} : ∀ ss : List Str, DpAll K G (ss.map V.str) (ss.map PyData.str)
  | [] => .nil
  | n :: r => .cons (.str n) (dpAll_strs r)
section
variable {X : Cx} {C : PC} {a : Expr} {l : LE} {pos p1 : Pos}
theorem f_sortS (hg : Gl X "sorted") (hm : X.mg "sorted" = none) (ha : PE X a (tL X.K C l)) (hsa : starEach [a] X.env = (false, eval a X.env) :: starEach [] X.env := by rfl) :
    PE X (.Call (.Name "sorted" p1) [a] [] pos) (tF X.K C (lSortS l)) := pe_imp (pe_callB cr_sortedS hg hm (by decide +kernel) (pa_cons ha pa_nil hsa) (by decide) (by decide) hsa (by rfl)) fun σ H Q ⟨O, ρ, R, q⟩ => by
  refine ⟨O, ρ, R, (Fin.bind q).imp fun ds _ q1 p vs H1 x1 s1 a1 => ?_⟩
  cases e : allStr ds with
  | none => simp only [e] at q1; exact q1.elim
  | some ss =>
    simp only [e] at q1
    by_cases hl : ss.length < 64
    · rw [if_pos hl] at q1
      have hv := a1.strs e
      subst hv
      refine ⟨p, ss, rfl, s1, hl, fun ys r hp hs nr => ?_⟩
      rw [sortedS_is hp hs]
      exact (show ∀ p vs H', Gx C.T H H' → H p = none → H' p = some (.lst vs) → DpAll X.K (hid (p :: O) H') vs ((ss.mergeSort leS).map PyData.str) → Q (.ref p) H' from q1) r _ _ (x1.trans (Gx.new nr)) (fresh_back x1 nr) upd_same (dpAll_strs _)
    · rw [if_neg hl] at q1
      exact q1.elim
end
end PL

/-! PLL: sorted(range(n), key=lambda x: (y[x], x)). -/
namespace PL
open PySem PySem.Spec L2 PySem.Calls PyProof.Rows
/-- the lambda is: x: (y[x], x), y captured -/
structure LamB (params : Arguments) (scope : Scope) (body : Expr) (x y : Str) : Prop where
  bd : ∃ p1 p2 p3 p4 p5 k, body = .Tuple [.Subscript (.Name y p1) (.Name x p2) p3, .Name x p4] k p5
  kind : scope.kind = .function
  co : scope.isCoroutine = false
  gen : scope.isGenerator = false
  own : ∀ z ∈ scope.names, z.2 ≠ .cell
  lx : scope.names.lookup x = some .local
  ly : scope.names.lookup y = some .free
  free : ∀ z ∈ scope.names, z.2 = .free → z.1 = y
  bind : ∀ (qual : Str) (clo : List (Str × Addr)) (pm cdv ctv v : Value), bindArgs (PySem.W.kla_fn "<lambda>" qual params body scope clo pm cdv ctv) ⟨[v], []⟩ = pure [(x, v)]
  clo : ∀ (cells : List (Str × Addr)) (c : Addr), cells.lookup y = some c → (cloFrom cells scope.names []).lookup y = some c
  dx : (x == ("__debug__" : Str)) = false
  dy : (y == ("__debug__" : Str)) = false
  cy : (y == ("__classdict__" : Str)) = false
  defs : ∀ env : PySem.Env, defaultsOf params env = ([], [])
theorem lam_pure {P : Program} {w : World} {A : Around} {s : Shared} {E : Value → Shared → Prop} {qual : Str} {clo : List (Str × Addr)} {pm ctv : Value} {c' f p cell : Addr} {its : Array Value} {i l : Int} {t t' : Tok} {params : Arguments} {scope : Scope} {body : Expr} {x y : Str}
    (B : LamB params scope body x y) (hdep : A.depth < recursionLimit) (lim : s.heap.NoLimit) (hf : s.heap.get? f = some (PySem.W.kla_obj "<lambda>" qual params body scope clo pm c' ctv)) (hc : ∃ oc vs tq, s.heap.get? c' = some oc ∧ oc.data = .fields vs ∧ vs[1]? = some (.str qual tq))
    (hcl : clo.lookup y = some cell) (hv : s.heap.IsCell cell (some (.ref p))) (hl : s.heap.IsList p its) (h0 : 0 ≤ i) (h63 : i < 2 ^ 63) (hi : its[i.toNat]? = some (.int l t')) :
    wpAny (model P w) A (call (.ref f) [.int i t]) (PySem.W.KeyPure (.tuple [.int l, .int i]) s) E s := by
  obtain ⟨p1, p2, p3, p4, p5, k, rfl⟩ := B.bd
  obtain ⟨oc, vs, tq, hoc, hdc, hq⟩ := hc
  refine wpAny_call (PySem.W.kla_callFunE hdep hf rfl B.co B.gen rfl ⟨c', oc, vs, tq, rfl, hoc, hdc, hq⟩ ?_)
  rw [B.bind]
  refine wpAny_pure (wpAny_newFunctionEnv B.own (fun z hz => by rw [List.mem_singleton.mp hz]; exact B.lx) (fun h1 hns hsb => ⟨lim.fresh _ hsb, ?_⟩) B.kind)
  refine PySem.W.kla_codeExpr ?_
  have keep : ∀ b o, s.heap.get? b = some o → h1.get? b = some o := fun b o e => hsb.extBut b o (Nat.ne_of_lt (Heap.lt_size e)) (Heap.get?_push_of_some _ e)
  have hl1 : h1.IsList p its := by
    obtain ⟨o, e, r⟩ := hl
    exact ⟨o, keep _ _ e, r⟩
  have hv1 : h1.IsCell cell (some (.ref p)) := by
    obtain ⟨o, e, r⟩ := hv
    exact ⟨o, keep _ _ e, r⟩
  refine wpAny_Tuple_spliced ?_
  show wpAny _ _ (spliced ((false, _) :: (false, _) :: [])) _ _ _
  refine Calls.spliced_cons (Subscript_ (wpAny_Name (wpAny_loadName_free B.kind B.ly hcl hv1 (wpAny_Name (wpAny_loadName_local B.kind B.lx hns (v := .int i t) ?_ ?_) B.dx) B.cy) B.dy))
  · show ([(x, Value.int i t)] : List (Str × Value)).reverse.lookup x = _
    simp
  refine item_listR (u := t) hl1 h0 h63 hi ?_
  refine Calls.spliced_cons (wpAny_Name (wpAny_loadName_local B.kind B.lx hns (v := .int i t) ?_ (Calls.spliced_nil ?_)) B.dx)
  · show ([(x, Value.int i t)] : List (Str × Value)).reverse.lookup x = _
    simp
  refine ⟨by show 2 ≤ sizeLine; rw [sizeLine_eq]; decide, ⟨_, _, rfl, fun b o e => Heap.get?_push_of_some _ (keep b o e), ?_⟩⟩
  exact .tuple (as := []) (Heap.get?_push_size _ rfl) rfl rfl (.cons (as := []) (bs := []) (.int l t') (.cons (as := []) (bs := []) (.int i t) .nil))
theorem each_range : ∀ (us : List Value) (a : Nat), (∀ (j : Nat) (u : Value), us[j]? = some u → ∃ t, u = .int ((a + j : Nat) : Int) t) → PySem.W.EachIs (fun v (i : Nat) => ∃ t, v = .int (i : Int) t) us (List.range' a us.length)
  | [], a, _ => .nil
  | u :: us, a, h => by
    rw [List.length_cons, List.range'_succ]
    refine .cons (by simpa using h 0 u rfl) (each_range us (a + 1) fun j v e => ?_)
    have := h (j + 1) v e
    rw [show a + (j + 1) = a + 1 + j by omega] at this
    exact this
/-- sorted(a range, key=f), f keeps the heap -/
theorem sorted_rng {P : Program} {w : World} {A : Around} {s : Shared} {E : Value → Shared → Prop} {r f : Addr} {n : Nat} {t u v : Tok} {k : Nat → PyData} {Q : Value → Shared → Prop} (hh : A.handled = none) (hr : IsRange s.heap r 0 (n : Int) 1 t u v) (hn : n ≤ 100000)
    (hal : PySem.W.AllAlike ((List.range n).map k)) (hk : PySem.W.Sortable ((List.range n).map k)) (hu : ∀ x, x ∈ List.range n → A.in1.units + 1 + (k x).depth < cLine)
    (turn : ∀ (i : Nat) (t : Tok), i < n → ∀ (h : Heap) (tk : Nat), (∀ b o, s.heap.get? b = some o → h.get? b = some o) → wpAny (model P w) A.in1.in1 (call (.ref f) [.int i t]) (PySem.W.KeyPure (k i) { s with heap := h, toks := tk }) (fun _ _ => False) { s with heap := h, toks := tk })
    (h : ∀ (out : List Value) (c : Nat) (h1 h' : Heap) (tk : Nat), (∀ b o, s.heap.get? b = some o → h1.get? b = some o) → (∀ b o, h1.get? b = some o → h'.get? b = some o) → h'.get? h1.objs.size = some (seqObj "list" (List.toArray out) c) → PySem.W.EachIs (fun v (i : Nat) => ∃ t, v = .int (i : Int) t) out ((List.range n).mergeSort (PySem.W.dataLe false k)) → Q (.ref h1.objs.size) { s with heap := h', toks := tk }) :
    wpAny (model P w) A (call (.builtin "sorted") [.ref r] [(Str.ofString "key", .ref f)]) Q E s := by
  refine call_function_entry_kw kind_sorted plain_sorted entry_sorted (ksk_s1 _ _) ?_
  unfold Builtin.«sorted»
  refine wpAny_bind (m := checkCount "sorted" 1 1 _) (wpAny_pure ?_)
  have hb : n ≤ 2 ^ 24 := by omega
  refine wpAny_bind (L2.collect_range (A := A.in1) (n := n) hh hr (small_one (by omega) (by omega) (by omega) (by omega)) (by have := rangeSize_nat 0 (n : Int); rw [show ((n : Int) - 0).toNat = n by omega] at this; exact this) hb fun h1 tk acc keep items => ?_)
  have hlen : acc.toList.length = n := by rw [Array.length_toList, items.1]
  have hz : acc.toList.length ≤ sizeLine := by rw [hlen, sizeLine_eq]; omega
  refine wpAny_bind (wpAny_newList ?_ hz)
  have hoL : (h1.push (seqObj "list" acc.toList.toArray 0)).get? h1.objs.size = some (seqObj "list" acc.toList.toArray 0) := Heap.get?_push_size _ rfl
  have he : PySem.W.EachIs (fun v (i : Nat) => ∃ t, v = .int (i : Int) t) acc.toList (List.range n) := by
    have := each_range acc.toList 0 fun j u hj => by
      obtain ⟨t, e⟩ := items.2 j u (by rw [← hj, Array.getElem?_toList])
      refine ⟨t, ?_⟩
      rw [e]
      congr 1
      omega
    rw [hlen, ← List.range_eq_range'] at this
    exact this
  have old : ∀ {g : Heap}, PySem.W.KeepsBut h1.objs.size (h1.push (seqObj "list" acc.toList.toArray 0)) g → ∀ b o, h1.get? b = some o → g.get? b = some o := fun {g} kp b o q => kp b o (Nat.ne_of_lt (Heap.lt_size q)) (Heap.get?_push_of_some _ q)
  refine wpAny_bind (wpAny_holding (PySem.W.list_sort_key_data (A := A.in1) (s := { s with heap := h1.push (seqObj "list" acc.toList.toArray 0), toks := tk }) (vs := acc.toList) (n := 0) (f := .ref f) (b := false) (R := fun v (i : Nat) => ∃ t, v = .int (i : Int) t) k hoL he hal hk (by rw [List.length_range, ← hlen]; exact hz) hu (ksk_l1 _ _) (ksk_t1 f _) (fun v x hv hx g tk2 kp => ?_) (fun out c g tk2 kp hg ho hs => ?_)))
  · obtain ⟨t2, rfl⟩ := hv
    exact turn x t2 (List.mem_range.mp hx) g tk2 fun b o e => old kp b o (keep b o e)
  · exact wpAny_pure ⟨_, rfl, h out c h1 g tk2 keep (old kp) hg hs⟩
/-- where a lambda's code objects are kept -/
structure LamT (X : Cx) (τ : List (Addr × Str)) : Prop where
  ex : ∃ c P, LamX.TabB X.base X.mg c P ∧ X.env.code = .ref c ∧ (P, X.env.qual ++ "<lambda>") ∈ τ ∧ ∀ p ∈ τ, p.1 = P → p.2 = X.env.qual ++ "<lambda>"
section
variable {X : Cx} {pins : List (Addr × Obj)} {σ : L2.St} {H : Hp} {s : Shared}
/-- a lambda is made -/
theorem lam_mk {τ : List (Addr × Str)} {params : Arguments} {body : Expr} {scope : Scope} {pos : Pos} {E : Value → Shared → Prop} {Q : Value → Shared → Prop} (I : Inv X pins σ H s) (T : LamT X τ) (hT : LamX.Tabs τ H) (hdef : defaultsOf params X.env = ([], [])) (hfree : ∀ z ∈ scope.names, z.2 = .free → ∃ c, X.env.cells.lookup z.1 = some c)
    (h : ∀ (f c' : Addr) (pm ctv : Value) (H1 : Hp) (s' : Shared), Inv X pins σ H1 s' → Gx τ H H1 → (∀ b o, s.heap.get? b = some o → o.cls ≠ .none → s'.heap.get? b = some o) →
      s'.heap.get? f = some (PySem.W.kla_obj "<lambda>" (X.env.qual ++ "<lambda>") params body scope (cloFrom X.env.cells scope.names []) pm c' ctv) → (∃ oc vs tq, s'.heap.get? c' = some oc ∧ oc.data = .fields vs ∧ vs[1]? = some (.str (X.env.qual ++ "<lambda>") tq)) → Q (.ref f) s') :
    wpAny (model X.prog X.w) X.A (eval (.Lambda params body scope pos) X.env) Q E s := by
  obtain ⟨c, P, TB, hcode, hm, hu⟩ := T.ex
  obtain ⟨ps, hP, ht, ha⟩ := hT _ hm
  refine PySem.W.kla_eval hdef ?_
  have bP : s.heap.BuiltinsAt X.mg P := TB.bm.keeps I.bk
  have gP : s.heap.get? P = some { cls := .none, data := .fields ps } := I.hok P _ hP
  cases hc : codeAmong pos ps.toList with
  | none =>
    refine PySem.W.kla_makeFunction (mg := X.mg) (c := c) (P := P) (ps := ps) (closure_ok hfree) I.ok.glob (I.mod.glob.keeps I.bk) hcode (TB.code.keeps I.bk) gP ht hc TB.gP bP fun c' ctv h' tk hx hge hlt hrec htb => ?_
    obtain ⟨c2, oc, vs, tq, e2, hoc, hd, hv⟩ := hrec
    cases e2
    have nC : H c' = none := I.hok.fresh hge
    have I1 := LamX.inv_table (t' := tk) (more := #[rawInt pos.line, rawInt pos.col, .ref c']) (h' := h'.push (PySem.W.kla_obj "<lambda>" (X.env.qual ++ "<lambda>") params body scope (cloFrom X.env.cells scope.names []) ((X.mg "__name__").getD .none) c' ctv)) I hP
      (fun b o hb e => Heap.get?_push_of_some _ (hx b o hb e)) (Heap.get?_push_of_some _ htb) hge ⟨oc, vs, tq, Heap.get?_push_of_some _ hoc, hd, hv⟩
    have at1 : ∀ b o, H b = some o → b ≠ P → upd (upd H P (.tbl (ps ++ #[rawInt pos.line, rawInt pos.col, .ref c']))) c' (LamX.CodeO c' (X.env.qual ++ "<lambda>")) b = some o := fun b o e hb => by
      rw [upd_ne (ne_of_none e nC), upd_ne hb]
      exact e
    have nP : P ≠ c' := ne_of_none hP nC
    have atP : upd (upd H P (.tbl (ps ++ #[rawInt pos.line, rawInt pos.col, .ref c']))) c' (LamX.CodeO c' (X.env.qual ++ "<lambda>")) P = some (.tbl (ps ++ #[rawInt pos.line, rawInt pos.col, .ref c'])) := by
      rw [upd_ne nP, upd_same]
    have st : ∀ b o, H b = some o → isTbl o = false → upd (upd H P (.tbl (ps ++ #[rawInt pos.line, rawInt pos.col, .ref c']))) c' (LamX.CodeO c' (X.env.qual ++ "<lambda>")) b = some o := fun b o e n => at1 b o e fun z => by
      subst z
      rw [hP] at e
      cases e
      cases n
    have code : ∀ d q, H d = some (LamX.CodeO d q) → upd (upd H P (.tbl (ps ++ #[rawInt pos.line, rawInt pos.col, .ref c']))) c' (LamX.CodeO c' (X.env.qual ++ "<lambda>")) d = some (LamX.CodeO d q) := fun d q e => st d _ e rfl
    refine h h'.objs.size c' ((X.mg "__name__").getD .none) ctv _ _ I1 ⟨st, fun b o e => ?_, fun p hp tp => ?_⟩ (fun b o e nc => Heap.get?_push_of_some _ (hx b o (fun z => by subst z; rw [gP] at e; cases e; exact nc rfl) e)) (Heap.get?_push_size _ rfl) ⟨oc, vs, tq, Heap.get?_push_of_some _ hoc, hd, hv⟩
    · by_cases hb : b = P
      · subst hb
        rw [atP]
        nofun
      · rw [at1 b o e hb]
        nofun
    · obtain ⟨ps1, t1, t2, t3⟩ := tp
      by_cases hb : p.1 = P
      · rw [hu p hp hb, hb]
        have eL : (ps ++ #[rawInt pos.line, rawInt pos.col, .ref c']).toList = ps.toList ++ [rawInt pos.line, rawInt pos.col, .ref c'] := by simp
        refine ⟨_, atP, by rw [eL]; exact PySem.TriplesOk_snoc _ _ _ _ ht, fun p' cv hcv => ?_⟩
        rw [eL] at hcv
        rcases LamX.among_app _ ht hcv with z | z
        · obtain ⟨d, e1, e2⟩ := ha p' cv z
          exact ⟨d, e1, code d _ e2⟩
        · exact ⟨c', z, upd_same⟩
      · refine ⟨ps1, at1 _ _ t1 hb, t2, fun p' cv hcv => ?_⟩
        obtain ⟨d, e1, e2⟩ := t3 p' cv hcv
        exact ⟨d, e1, code d _ e2⟩
  | some cv =>
    obtain ⟨c', rfl, hco⟩ := ha pos cv hc
    refine PySem.W.kla_makeFunctionHit (mg := X.mg) (c := c) (P := P) (ps := ps) (closure_ok hfree) I.ok.glob (I.mod.glob.keeps I.bk) hcode (TB.code.keeps I.bk) gP ht hc bP fun ctv h' tk hx hsz => ?_
    have up : ∀ b o, s.heap.get? b = some o → (h'.push (PySem.W.kla_obj "<lambda>" (X.env.qual ++ "<lambda>") params body scope (cloFrom X.env.cells scope.names []) ((X.mg "__name__").getD .none) c' ctv)).get? b = some o := fun b o e => Heap.get?_push_of_some _ (hx b o e)
    obtain ⟨⟨oc, vs, tq, e1, e2, e3⟩, _, _⟩ := I.hok c' _ hco
    exact h h'.objs.size c' ((X.mg "__name__").getD .none) ctv H _ (I.kept (t' := tk) up) (Gx.refl H) (fun b o e _ => up b o e) (Heap.get?_push_size _ rfl) ⟨oc, vs, tq, up _ _ e1, e2, e3⟩
end
theorem asIntsL_some {K : PySem.W.Frag} {G : Hp} : ∀ {vs : List V} {ds : List PyData} {ns : List Int}, DpAll K G vs ds → asIntsL ds = some ns → vs = ns.map V.int
  | _, [], ns, h, e => by
    have : ns = [] := by simpa [asIntsL] using e.symm
    subst this
    cases h
    rfl
  | v :: vs, d :: ds, ns, h, e => by
    cases h with
    | cons h t =>
      unfold asIntsL at e
      rw [List.mapM_cons] at e
      cases d with
      | int i =>
        cases q : asIntsL ds with
        | none =>
          unfold asIntsL at q
          rw [q] at e
          simp at e
        | some ms =>
          have ih := asIntsL_some t q
          unfold asIntsL at q
          rw [q] at e
          have e' : i :: ms = ns := by simpa using e
          subst e'
          rw [ih, dp_int h, List.map_cons]
      | _ => simp at e
theorem vals_idx : ∀ {out : List Value} {is : List Nat}, PySem.W.EachIs (fun v (i : Nat) => ∃ t, v = .int (i : Int) t) out is → Vals (is.map fun i : Nat => V.int (i : Int)) out
  | _, _, .nil => .nil
  | _, _, .cons h t => .cons h (vals_idx t)
theorem dpAll_idx {K : PySem.W.Frag} {G : Hp} : ∀ is : List Nat, DpAll K G (is.map fun i : Nat => V.int (i : Int)) (is.map fun k : Nat => PyData.int (k : Int))
  | [] => .nil
  | i :: r => .cons (.int _) (dpAll_idx r)
section
variable {X : Cx} {C : PC} {a : Expr} {f : VE} {pos p1 p2 p3 lp kp : Pos}
theorem f_sortRg (j : Nat) {params : Arguments} {body : Expr} {scope : Scope} {x y : Str} (B : LamB params scope body x y) (T : LamT X C.T) (hr : Room 1 X.A) (hc : X.calm = true) (hg : Gl X "sorted") (hm : X.mg "sorted" = none) (hg2 : Gl X "range") (hm2 : X.mg "range" = none) (ha : PE X a (tV X.K C f)) (hN : X.N[j]? = some y) (hy : X.env.scope.names.lookup y = some .cell)
    (na : starEach [a] X.env = (false, eval a X.env) :: starEach [] X.env := by rfl)
    (hsa : starEach [.Call (.Name "range" p2) [a] [] p3] X.env = (false, eval (.Call (.Name "range" p2) [a] [] p3) X.env) :: starEach [] X.env := by rfl) :
    PE X (.Call (.Name "sorted" p1) [.Call (.Name "range" p2) [a] [] p3] [⟨some "key", .Lambda params body scope lp, kp⟩] pos) (tF X.K C (lSortRg j f)) := by
  refine ⟨fun pins s σ H Q I ⟨O, ρ, R, q⟩ => ?_⟩
  refine wpAny_Call_Name_kw (ld_blt I hg hm (by rfl) ?_ (by decide) (by decide))
  refine PyProof.Rows.callWith_kw ?_ (by rfl) (by rfl) (by rfl) (by rfl)
  rw [hsa]
  show wpAny _ _ (spliced ((false, _) :: [])) _ _ _
  have q := Fin.bind q
  refine Calls.spliced_cons (thn (prg_1 hg2 hm2 ha na pins s σ H (fun i k H1 => i = 0 ∧ Gx C.T H H1 ∧ Fin C σ H1 ((lVar j ρ).bind fun ds => match PyData.int k, asIntsL ds with
    | .int n, some ls => if n = ls.length ∧ n ≤ 100000 then Out.ok (((List.range ls.length).mergeSort (leAt ls)).map fun k => PyData.int (k : Nat)) else .stuck
    | _, _ => .stuck) fun ds => ∀ p vs H', Gx C.T H H' → H p = none → H' p = some (.lst vs) → DpAll X.K (hid (p :: O) H') vs ds → Q (.ref p) H') I ⟨O, ρ, R, q.imp fun d _ q1 v H1 x1 d1 => ?_⟩) fun rv s1 q1 => Calls.spliced_nil ?_)
  · cases d with
    | int k => exact ⟨k, dp_int d1, rfl, x1, q1.grow x1⟩
    | _ =>
      have q2 := Fin.bind q1
      cases e : lVar j ρ with
      | ok ds => rw [e] at q2; exact q2.elim
      | exc n =>
        unfold lVar at e
        split at e <;> cases e
      | stuck => rw [e] at q2; exact q2.elim
  · obtain ⟨r, i, k, t, u, v, H1, rfl, hrg, I1, rfl, x1, q1⟩ := q1
    have q2 := Fin.bind q1
    cases e : lVar j ρ with
    | exc n =>
      unfold lVar at e
      split at e <;> cases e
    | stuck => rw [e] at q2; exact q2.elim
    | ok ds =>
      rw [e] at q2
      have q3 : Fin C σ H1 (match PyData.int k, asIntsL ds with
        | .int n, some ls => if n = ls.length ∧ n ≤ 100000 then Out.ok (((List.range ls.length).mergeSort (leAt ls)).map fun k => PyData.int (k : Nat)) else .stuck
        | _, _ => .stuck) fun ds => ∀ p vs H', Gx C.T H H' → H p = none → H' p = some (.lst vs) → DpAll X.K (hid (p :: O) H') vs ds → Q (.ref p) H' := q2
      cases e2 : asIntsL ds with
      | none => rw [e2] at q3; exact q3.elim
      | some ls =>
        rw [e2] at q3
        dsimp only at q3
        by_cases hk : k = ls.length ∧ k ≤ 100000
        · rw [if_pos hk] at q3
          have q4 : ∀ p vs H', Gx C.T H H' → H p = none → H' p = some (.lst vs) → DpAll X.K (hid (p :: O) H') vs (((List.range ls.length).mergeSort (leAt ls)).map fun k => PyData.int (k : Nat)) → Q (.ref p) H' := q3
          have R1 := R.grow x1
          obtain ⟨p, vs, h1, h2, h3⟩ := R1.rl e
          have hvs := asIntsL_some h3 e2
          subst hvs
          refine wpAny_evalAll_cons (wpAny_bind (lam_mk I1 T R1.tabs (B.defs _) (fun z hz hfz => ?_) fun fl c' pm ctv H2 s2 I2 x2 st hf hcd => wpAny_bind (wpAny_standAt (wpAny_pure ?_))))
          · rw [B.free z hz hfz]
            exact I1.ok.has _ (.inl hy)
          · refine wpAny_evalAll_nil ?_
            obtain ⟨m, _, hl⟩ := I2.loc
            obtain ⟨u0, r0, lk⟩ := hl j y _ hN h1 (.inr (.inl hy))
            cases r0
            obtain ⟨cell, hcell, hv⟩ : ∃ cell, X.env.cells.lookup y = some cell ∧ s2.heap.IsCell cell (some (.ref p)) := by
              rcases lk with ⟨kk, _⟩ | ⟨_, c, e', z⟩
              · rw [show X.env.scope.names.lookup y = _ from kk] at hy
                cases hy
              · exact ⟨c, e', z⟩
            have h2' : SqL X.K H2 p (ls.map V.int) := ex_l x2.ex h2
            obtain ⟨its, rvs, pl, _⟩ := I2.list h2'
            have hints := rvs.ints
            have hlen := hints.length
            have hrg2 : IsRange s2.heap r 0 (ls.length : Int) 1 t u v := by
              rw [← hk.1]
              exact st _ _ hrg (fun z => nomatch z)
            have hun := hr.un
            have hdp := hr.dp
            refine sorted_rng (n := ls.length) (k := fun i => .tuple [.int (ls.getD i 0), .int (i : Int)]) (I2.ok.hd hc) hrg2 (by omega) (fun d hd d' hd' => ?_) (.inl fun d hd => ?_) (fun z hz => ?_) (fun i ti hi g tk kp => ?_) (fun out cc h1 h' tk k1 k2 he ho => ?_)
            · obtain ⟨i1, _, rfl⟩ := List.mem_map.mp hd
              obtain ⟨i2, _, rfl⟩ := List.mem_map.mp hd'
              rfl
            · obtain ⟨i1, _, rfl⟩ := List.mem_map.mp hd
              exact ⟨_, _, rfl⟩
            · have : PyData.depth (.tuple [.int (ls.getD z 0), .int (z : Int)]) = 1 := by simp [PyData.depth, PyData.depthAll]
              rw [this]
              show X.A.units + 2 + 1 < cLine
              omega
            · have hiV : (ls.map V.int)[i]? = some (V.int (ls.getD i 0)) := by
                rw [List.getElem?_map, List.getElem?_eq_getElem hi, List.getD_eq_getElem?_getD, List.getElem?_eq_getElem hi]
                rfl
              obtain ⟨w1, hw1, t2, rfl⟩ := rvs.get hiV
              have hf' := kp _ _ hf
              obtain ⟨oc, vs2, tq, e1, e3, e4⟩ := hcd
              obtain ⟨ob, eb, rb⟩ := hv
              obtain ⟨ol, el, rl⟩ := pl.isList
              exact lam_pure (s := { s2 with heap := g, toks := tk }) B (by show X.A.depth < _; omega) (I2.nolimit.keeps kp) hf' ⟨oc, vs2, tq, kp _ _ e1, e3, e4⟩ (B.clo _ _ hcell) ⟨ob, kp _ _ eb, rb⟩ ⟨ol, kp _ _ el, rl⟩ (by omega) (by omega) (by rw [show ((i : Nat) : Int).toNat = i by omega]; simpa using hw1)
            · have hle : PySem.W.dataLe false (fun i : Nat => PyData.tuple [.int (ls.getD i 0), .int (i : Int)]) = leAt ls := PySem.W.dataLe_ii (fun i : Nat => ls.getD i 0) (fun i : Nat => (i : Int))
              rw [hle] at ho
              have I3 : Inv X pins σ H2 { s2 with heap := h1 } := I2.kept (t' := s2.toks) k1
              have nf : H2 h1.objs.size = none := I3.hok.fresh (Nat.le_refl _)
              have hl2 : (((List.range ls.length).mergeSort (leAt ls)).map fun i : Nat => V.int (i : Int)).length ≤ sizeLine := by
                rw [List.length_map, List.length_mergeSort, List.length_range, sizeLine_eq]
                omega
              exact ⟨.ref _, upd H2 h1.objs.size (.lst (((List.range ls.length).mergeSort (leAt ls)).map fun i : Nat => V.int (i : Int))), I3.laid (t' := tk) k2 (Nat.le_refl _) ⟨hl2, out, cc, vals_idx ho, he⟩, rfl, q4 _ _ _ ((x1.trans x2).trans (Gx.new nf)) (fresh_back x1 (fresh_back x2 nf)) upd_same (dpAll_idx _)⟩
        · rw [if_neg hk] at q3
          exact q3.elim
end
/-! ### a def that makes a lambda -/
/-- the def's code object has a table, which is told -/
def LamF (base : Heap) (mg : Str → Option Value) (tb : List (Addr × Str)) (qual : Str) (fd : FuncData) : Prop := ∃ c P, fd.code = .ref c ∧ LamX.TabB base mg c P ∧ (P, qual ++ ".<locals>." ++ "<lambda>") ∈ tb ∧ ∀ p ∈ tb, p.1 = P → p.2 = qual ++ ".<locals>." ++ "<lambda>"
section
variable {P : Program} {w : World} {K : PySem.W.Frag} {mg : Str → Option Value} {base : Heap} {tb : List (Addr × Str)} {cv : String → Value}
theorem mk_defL {x qual : Str} {st : Stmt} {f : Addr} {fd : FuncData} {N ps : List Str} {k : Nat} {g : SE} (F : Fun K x qual st f fd) (S : FnScope N ps (defScope st)) (hmg : mg x = some (.ref f)) (hb : Binds K fd ps []) (LF : LamF base mg tb qual fd)
    (body : ∀ (cdv : Value) (A : Around) (outer : List PySem.Env) (s : Shared) (H : Hp) (O : List Addr) (E : XK), LamT (cxOf (L2.CX P w) P w K mg base N qual (defScope st) f cdv A outer s H E) tb → Room k (A.deeper (PyProof.Rows.envOfC qual (defScope st) s.heap.objs.size f cdv)) → Wk (cxOf (L2.CX P w) P w K mg base N qual (defScope st) f cdv A outer s H E) (PC.of tb cv H O E) →
      Takes (cxOf (L2.CX P w) P w K mg base N qual (defScope st) f cdv A outer s H E) (PC.of tb cv H O E).W → PassesOwn (model P w) (A.deeper (PyProof.Rows.envOfC qual (defScope st) s.heap.objs.size f cdv)) (PyProof.Rows.envOfC qual (defScope st) s.heap.objs.size f cdv) (cxOf (L2.CX P w) P w K mg base N qual (defScope st) f cdv A outer s H E).xe →
      PSs (cxOf (L2.CX P w) P w K mg base N qual (defScope st) f cdv A outer s H E) (defBody st) (tS K (PC.of tb cv H O E) g)) :
    Dfn P w K mg base tb cv (k + 1) x ps.length (runF ps.length N.length g) := by
  have kp := F.kp
  refine ⟨f, fd, ps, ?_, hmg, kp, hb⟩
  obtain ⟨oc, od, kV, doc, pm, an, cdv, ct, osl, rfl, lk, hcd⟩ := F.ex
  obtain ⟨c, T, hc, TB, hm, hu⟩ := LF
  have hc : cdv = .ref c := hc
  subst hc
  exact fn_of lk hcd S (fun vs H Q E ⟨O, args, hl, hT, al, ha, q⟩ => by rw [ha.len, hl]) fun A outer s H vs Q E hr h => body_ok (x := x) (fun O hx tk hp => ss_W (body _ A outer s H O E ⟨c, T, TB, rfl, hm, hu⟩ hr hx tk hp)) h
end
end PL

/-! PLG: a def that changes a list handed in; lists of new lists; tuple.count. -/
namespace PL
open PySem L2
section
variable {K : PySem.W.Frag} {C : PC} {O O' : List Addr} {H H' : Hp} {σ : L2.St} {ρ : Env}
theorem Rep.putM (R : Rep K C O H σ ρ) {i : Nat} {p : Addr} {vs' : List V} {ds ds' : List PyData} (hi : ρ[i]? = some (some (.mw ds))) (hs : σ[i]? = some (some (.ref p))) (a : DpAll K (hid O H) vs' ds') : Rep K C O (upd H p (.lst vs')) σ (ρ.set i (some (.mw ds'))) := by
  obtain ⟨v, h1, p', vs, rfl, hO, hM, hp, al⟩ := R.slot i _ hi
  rw [hs] at h1
  cases h1
  have hl : i < ρ.length := (List.getElem?_eq_some_iff.mp hi).1
  refine ⟨R.ex.put (.inr hM) hp rfl nofun, R.o0, R.sub, fun b hb e => ?_, by rw [List.length_set]; exact R.len, fun j s e => ?_, fun j k s t q hjk e1 o1 e2 e3 o3 e4 => ?_⟩
  · by_cases hbp : b = p
    · subst hbp; rw [upd_same] at e; cases e
    · rw [upd_ne hbp] at e; exact R.alive b hb e
  · have hh : hid O (upd H p (.lst vs')) = hid O H := hid_upd hO
    by_cases hj : j = i
    · subst hj
      rw [List.getElem?_set_self hl] at e
      cases e
      exact ⟨.ref p, hs, p, vs', rfl, hO, hM, upd_same, by rw [hh]; exact a⟩
    · rw [List.getElem?_set_ne (Ne.symm hj)] at e
      obtain ⟨v, h1, h2⟩ := R.slot j s e
      refine ⟨v, h1, ?_⟩
      cases s with
      | fz d => show Dp K (hid O _) v d; rw [hh]; exact h2
      | bw ds => obtain ⟨p2, vs2, a2, b2, c2, d2⟩ := h2; exact ⟨p2, vs2, a2, b2, c2, by rw [hh]; exact d2⟩
      | dbw ds => obtain ⟨p2, vs2, a2, b2, c2, d2⟩ := h2; exact ⟨p2, vs2, a2, b2, c2, by rw [hh]; exact d2⟩
      | er n => exact h2
      | oo dss => show OoF K _ (hid O _) v dss; rw [hh]; exact h2
      | hd dss => show HdF K _ (hid O _) v dss; rw [hh]; exact h2
      | mw ds =>
        obtain ⟨p2, vs2, rfl, b2, c2, d2, e2⟩ := h2
        have : p2 ≠ p := fun z => by subst z; exact R.apart j i _ _ _ hj e rfl h1 hi rfl hs
        exact ⟨p2, vs2, rfl, b2, c2, by rw [upd_ne this]; exact d2, by rw [hh]; exact e2⟩
      | og ds =>
        obtain ⟨p2, vs2, rfl, b2, c2, d2, e2⟩ := h2
        have : p2 ≠ p := fun z => by subst z; exact R.apart j i _ _ _ hj e rfl h1 hi rfl hs
        exact ⟨p2, vs2, rfl, b2, c2, by rw [upd_ne this]; exact d2, by rw [hh]; exact e2⟩
      | ow ds =>
        obtain ⟨p2, vs2, rfl, b2, c2, d2, e2⟩ := h2
        have : p2 ≠ p := fun z => by subst z; exact R.apart j i _ _ _ hj e rfl h1 hi rfl hs
        exact ⟨p2, vs2, rfl, b2, c2, by rw [upd_ne this]; exact d2, by rw [hh]; exact e2⟩
      | dow ds =>
        obtain ⟨p2, vs2, rfl, b2, c2, d2, e2⟩ := h2
        have : p2 ≠ p := fun z => by subst z; exact R.apart j i _ _ _ hj e rfl h1 hi rfl hs
        exact ⟨p2, vs2, rfl, b2, c2, by rw [upd_ne this]; exact d2, by rw [hh]; exact e2⟩
  · have back : ∀ (j : Nat) (s : SL), (ρ.set i (some (.mw ds')))[j]? = some (some s) → ownS s = true → ∃ s', ρ[j]? = some (some s') ∧ ownS s' = true := fun j s e o => by
      by_cases hj : j = i
      · subst hj; exact ⟨_, hi, rfl⟩
      · rw [List.getElem?_set_ne (Ne.symm hj)] at e; exact ⟨s, e, o⟩
    obtain ⟨s', a1, a2⟩ := back j s e1 o1
    obtain ⟨t', b1, b2⟩ := back k t e3 o3
    exact R.apart j k s' t' q hjk a1 a2 e2 b1 b2 e4
/-- a new thing becomes an own one -/
theorem Rep.setOwn (R : Rep K C O H σ ρ) {i : Nat} {p : Addr} {u : SL} (x : Gx C.T H H') (n : H p = none) (h : H' p ≠ none) (a : SlotOk K C (p :: O) H' (.ref p) u) : Rep K C (p :: O) H' (σ.set i (some (.ref p))) (ρ.set i (some u)) := by
  have R1 : Rep K C (p :: O) H' σ ρ := R.more x n h
  refine ⟨R1.ex, R1.o0, R1.sub, R1.alive, by rw [List.length_set, List.length_set]; exact R.len, fun j s e => ?_, fun j k s t q hjk e1 o1 e2 e3 o3 e4 => ?_⟩
  · by_cases hj : j = i
    · subst hj
      have hl : j < ρ.length := by
        have := (List.getElem?_eq_some_iff.mp e).1
        rw [List.length_set] at this
        exact this
      rw [List.getElem?_set_self hl] at e
      cases e
      exact ⟨.ref p, by rw [List.getElem?_set_self (by rw [R.len]; exact hl)], a⟩
    · rw [List.getElem?_set_ne (Ne.symm hj)] at e
      rw [List.getElem?_set_ne (Ne.symm hj)]
      exact R1.slot j s e
  · have old : ∀ (j : Nat) (s : SL), ρ[j]? = some (some s) → ownS s = true → σ[j]? = some (some (.ref p)) → False := fun j s e1 o1 e2 => by
      obtain ⟨v, h1, h2⟩ := R.slot j s e1
      rw [e2] at h1
      cases h1
      cases s with
      | ow ds => obtain ⟨p', vs', e, b, _⟩ := h2; cases e; exact R.alive _ b n
      | dow ds => obtain ⟨p', vs', e, b, _⟩ := h2; cases e; exact R.alive _ b n
      | mw ds => obtain ⟨p', vs', e, b, _⟩ := h2; cases e; exact R.alive _ b n
      | og ds => obtain ⟨p', vs', e, b, _⟩ := h2; cases e; exact R.alive _ b n
      | _ => cases o1
    by_cases hj : j = i
    · subst hj
      have hl : j < ρ.length := by
        have := (List.getElem?_eq_some_iff.mp e1).1
        rw [List.length_set] at this
        exact this
      rw [List.getElem?_set_self (by rw [R.len]; exact hl)] at e2
      cases e2
      rw [List.getElem?_set_ne hjk] at e3 e4
      exact old k t e3 o3 e4
    · by_cases hk : k = i
      · subst hk
        have hl : k < ρ.length := by
          have := (List.getElem?_eq_some_iff.mp e3).1
          rw [List.length_set] at this
          exact this
        rw [List.getElem?_set_self (by rw [R.len]; exact hl)] at e4
        cases e4
        rw [List.getElem?_set_ne (Ne.symm hj)] at e1 e2
        exact old j s e1 o1 e2
      · rw [List.getElem?_set_ne (Ne.symm hj)] at e1 e2
        rw [List.getElem?_set_ne (Ne.symm hk)] at e3 e4
        exact R.apart j k s t q hjk e1 o1 e2 e3 o3 e4
theorem Rows.mem {G : Hp} : ∀ {qs : List Addr} {dss : List (List PyData)}, Rows K G qs dss → ∀ q ∈ qs, ∃ us, G q = some (.lst us)
  | _, _, .nil, q, h => (List.not_mem_nil h).elim
  | _, _, .cons e _ t, q, h => by
    rcases List.mem_cons.mp h with rfl | h
    · exact ⟨_, e⟩
    · exact Rows.mem t q h
theorem Rows.snoc {G : Hp} {q : Addr} {us : List V} {ds : List PyData} (h : G q = some (.lst us)) (a : DpAll K G us ds) : ∀ {qs : List Addr} {dss : List (List PyData)}, Rows K G qs dss → Rows K G (qs ++ [q]) (dss ++ [ds])
  | _, _, .nil => .cons h a .nil
  | _, _, .cons e b t => .cons e b (Rows.snoc h a t)
theorem Rows.len {G : Hp} : ∀ {qs : List Addr} {dss : List (List PyData)}, Rows K G qs dss → qs.length = dss.length
  | _, _, .nil => rfl
  | _, _, .cons _ _ t => by rw [List.length_cons, List.length_cons, Rows.len t]
/-- a row more -/
theorem Rep.putG (R : Rep K C O H σ ρ) {i : Nat} {p q : Addr} {qs : List Addr} {us : List V} {dss : List (List PyData)} {ds : List PyData} (hi : ρ[i]? = some (some (.og dss))) (hs : σ[i]? = some (some (.ref p))) (hp : H p = some (.lst (qs.map V.ref))) (hO : p ∈ O) (hn : C.H0 p = none) (oo : Oo K C.H0 (hid O H) qs dss) (hq : hid O H q = some (.lst us)) (hq0 : C.H0 q = none) (hqn : q ∉ qs) (a : DpAll K (hid O H) us ds) :
    Rep K C O (upd H p (.lst ((qs ++ [q]).map V.ref))) σ (ρ.set i (some (.og (dss ++ [ds])))) := by
  have hl : i < ρ.length := (List.getElem?_eq_some_iff.mp hi).1
  refine ⟨R.ex.put (.inl hn) hp rfl nofun, R.o0, R.sub, fun b hb e => ?_, by rw [List.length_set]; exact R.len, fun j s e => ?_, fun j k s t q hjk e1 o1 e2 e3 o3 e4 => ?_⟩
  · by_cases hbp : b = p
    · subst hbp; rw [upd_same] at e; cases e
    · rw [upd_ne hbp] at e; exact R.alive b hb e
  · have hh : hid O (upd H p (.lst ((qs ++ [q]).map V.ref))) = hid O H := hid_upd hO
    by_cases hj : j = i
    · subst hj
      rw [List.getElem?_set_self hl] at e
      cases e
      refine ⟨.ref p, hs, p, qs ++ [q], rfl, hO, hn, upd_same, ?_⟩
      rw [hh]
      refine ⟨List.nodup_append.mpr ⟨oo.nd, List.nodup_cons.mpr ⟨List.not_mem_nil, List.nodup_nil⟩, fun b hb c hc z => ?_⟩, fun b hb => ?_, oo.row.snoc hq a⟩
      · rw [List.mem_singleton.mp hc] at z
        subst z
        exact hqn hb
      · rcases List.mem_append.mp hb with hb | hb
        · exact oo.new b hb
        · rw [List.mem_singleton.mp hb]; exact hq0
    · rw [List.getElem?_set_ne (Ne.symm hj)] at e
      obtain ⟨v, h1, h2⟩ := R.slot j s e
      refine ⟨v, h1, ?_⟩
      cases s with
      | fz d => show Dp K (hid O _) v d; rw [hh]; exact h2
      | bw ds => obtain ⟨p2, vs2, a2, b2, c2, d2⟩ := h2; exact ⟨p2, vs2, a2, b2, c2, by rw [hh]; exact d2⟩
      | dbw ds => obtain ⟨p2, vs2, a2, b2, c2, d2⟩ := h2; exact ⟨p2, vs2, a2, b2, c2, by rw [hh]; exact d2⟩
      | er n => exact h2
      | oo dss => show OoF K _ (hid O _) v dss; rw [hh]; exact h2
      | hd dss => show HdF K _ (hid O _) v dss; rw [hh]; exact h2
      | mw ds =>
        obtain ⟨p2, vs2, rfl, b2, c2, d2, e2⟩ := h2
        have : p2 ≠ p := fun z => by subst z; exact R.apart j i _ _ _ hj e rfl h1 hi rfl hs
        exact ⟨p2, vs2, rfl, b2, c2, by rw [upd_ne this]; exact d2, by rw [hh]; exact e2⟩
      | og ds =>
        obtain ⟨p2, vs2, rfl, b2, c2, d2, e2⟩ := h2
        have : p2 ≠ p := fun z => by subst z; exact R.apart j i _ _ _ hj e rfl h1 hi rfl hs
        exact ⟨p2, vs2, rfl, b2, c2, by rw [upd_ne this]; exact d2, by rw [hh]; exact e2⟩
      | ow ds =>
        obtain ⟨p2, vs2, rfl, b2, c2, d2, e2⟩ := h2
        have : p2 ≠ p := fun z => by subst z; exact R.apart j i _ _ _ hj e rfl h1 hi rfl hs
        exact ⟨p2, vs2, rfl, b2, c2, by rw [upd_ne this]; exact d2, by rw [hh]; exact e2⟩
      | dow ds =>
        obtain ⟨p2, vs2, rfl, b2, c2, d2, e2⟩ := h2
        have : p2 ≠ p := fun z => by subst z; exact R.apart j i _ _ _ hj e rfl h1 hi rfl hs
        exact ⟨p2, vs2, rfl, b2, c2, by rw [upd_ne this]; exact d2, by rw [hh]; exact e2⟩
  · have back : ∀ (j : Nat) (s : SL), (ρ.set i (some (.og (dss ++ [ds]))))[j]? = some (some s) → ownS s = true → ∃ s', ρ[j]? = some (some s') ∧ ownS s' = true := fun j s e o => by
      by_cases hj : j = i
      · subst hj; exact ⟨_, hi, rfl⟩
      · rw [List.getElem?_set_ne (Ne.symm hj)] at e; exact ⟨s, e, o⟩
    obtain ⟨s', a1, a2⟩ := back j s e1 o1
    obtain ⟨t', b1, b2⟩ := back k t e3 o3
    exact R.apart j k s' t' q hjk a1 a2 e2 b1 b2 e4
end
section
variable {X : Cx} {C : PC} {a b c e k : Expr} {f g : VE} {l : LE} {pos p1 p2 apos cpos : Pos}
/-- x.insert(k, e), x handed in -/
theorem s_insM (i : Nat) {y : Str} {np : Pos} (hk : PE X k (tV X.K C g)) (ha : PE X a (tV X.K C f)) (hN : X.N[i]? = some y := by rfl) (hv : Vis X.env.scope y := by first | exact Or.inl rfl | exact Or.inr (Or.inl rfl) | exact Or.inr (Or.inr rfl)) (hd : (y == ("__debug__" : Str)) = false := by decide)
    (hcd : (y == ("__classdict__" : Str)) = false := by decide) (hs : starEach [k, a] X.env = (false, eval k X.env) :: starEach [a] X.env := by rfl) (hs2 : starEach [a] X.env = (false, eval a X.env) :: starEach [] X.env := by rfl)
    (hbase : attributeBase (.Name y np) "insert" X.env (eval (.Name y np) X.env) = eval (.Name y np) X.env := by rfl)
    (hfew : ((backTo cpos (starEach [k, a] X.env)).all (fun x => !x.1) && (backToKw cpos (keywordEach [] X.env)).all (fun x => x.1.isSome)
      && decide ([k, a].length + ([] : List Keyword).length + (if ([] : List Keyword).isEmpty then 0 else 1) < 30)) = true := by rfl)
    (hline : (apos.endLine == cpos.line) = true := by rfl) (hplain : (backTo cpos (starEach [a] X.env)).any (·.1) = false := by rfl) (hsw : swapsWith (.Call (.Attribute (.Name y np) "insert" apos) [k, a] [] cpos) none pos.line X.env = pure false := by rfl) :
    PS X (.Expr (.Call (.Attribute (.Name y np) "insert" apos) [k, a] [] cpos) pos) (tS X.K C (sInsM i g f)) :=
  ps_imp (ps_expr (pe_bm PySem.F.plainAttrs_list PySem.F.slot_list_insert PySem.F.type_list_insert mt_insert (pe_var (i := i) hN hv hd hcd) (pa_cons hk (pa_cons ha pa_nil hs2) hs) hbase hfew hline hs hplain) hsw) fun D σ H ⟨O, ρ, R, q⟩ => by
  unfold sInsM at q
  split at q
  · rename_i ds hi
    obtain ⟨v, h1, p, vs, rfl, h2, h3, h4, h5⟩ := R.slot i _ hi
    refine ⟨.ref p, h1, .inl ⟨rfl, _, SqL.of h4⟩, O, ρ, R, Post.fin R q fun n _ k0 v0 H0 x0 p0 => ?_⟩
    refine ⟨O, ρ, R.grow x0, Post.fin (R.grow x0) (Post.grow k0 (hid_mono x0)) fun d _ k v H1 x1 p1 => ?_⟩
    have x01 := x0.trans x1
    cases n with
    | int n =>
      by_cases hc : 0 ≤ n ∧ n ≤ ds.length ∧ ds.length < 1000000
      · have k2 := k
        simp only [if_pos hc] at k2
        have h4' := x01.ex _ _ h4 rfl
        refine ⟨p, vs, n, v, rfl, by rw [dp_int p0], h4', line_lt (by rw [h5.len]; exact hc.2.2), hc.1, by omega, ?_⟩
        have h5' := DpAll.mono (hid_mono x01) h5
        refine k2 σ O _ ((R.grow x01).putM hi h1 ?_) ?_
        · rw [List.append_assoc]
          exact (h5'.take _).append (.cons p1 (h5'.drop _))
        · rw [hid_upd h2]
          exact hid_mono x1
      · have k2 := k
        simp only [if_neg hc] at k2
        exact k2.elim
    | _ => exact k.elim
  · exact q.elim
/-- y = [a new list] -/
theorem s_setG {i : Nat} {y : Str} {pos' : Pos} (hN : X.N.Nodup) (hi : X.N[i]? = some y) (hx : Loc X.env.scope y) (he : PE X e (tF X.K C l)) (hse : starEach [e] X.env = (false, eval e X.env) :: starEach [] X.env := by rfl) (hs : swapsWith (.List [e] p1) (some (.Name y pos')) pos.line X.env = pure false := by rfl) (hf : X.fn y = true ∨ X.env.scope.names.lookup y = some .local := by first | exact .inl rfl | exact .inr rfl | assumption) :
    PS X (.Assign [.Name y pos'] (.List [e] p1) pos) (tS X.K C (sSetG i l)) := ps_imp (ps_set hN hi hx (pe_lst (pa_cons he pa_nil hse)) hs hf) fun D σ H ⟨O, ρ, R, q⟩ => by
  refine ⟨O, ρ, R, Post.fin R q fun ds _ k p vs H' x n h a => ⟨line_le (by show 1 ≤ 1000000; decide), fun r nr => ?_⟩⟩
  have x2 := x.trans (Gx.new nr (o := .lst [.ref p]))
  have hrp : r ≠ p := fun z => by subst z; rw [h] at nr; cases nr
  have hpO : p ∉ O := fun z => R.alive p z n
  have hG : hid (r :: O) (upd H' r (.lst [.ref p])) p = some (.lst vs) := by
    exact hid_out (by simp only [List.mem_cons, not_or]; exact ⟨Ne.symm hrp, hpO⟩) (by rw [upd_ne (Ne.symm hrp)]; exact h)
  have hx' : Ex (hid (p :: O) H') (hid (r :: O) (upd H' r (.lst [.ref p]))) := fun b o e _ => by
    obtain ⟨hb, e', hn⟩ := hid_of3 e
    have hbr : b ≠ r := ne_of_none e' nr
    exact hid_out (by simp only [List.mem_cons, not_or]; exact ⟨hbr, fun z => hb (List.mem_cons_of_mem _ z)⟩) (by rw [upd_ne hbr]; exact e') hn
  refine k _ (r :: O) _ (R.setOwn (i := i) x2 (fresh_back x nr) (by rw [upd_same]; nofun) ⟨r, [p], rfl, List.mem_cons_self, R.back0 (fresh_back x nr), upd_same, ⟨List.nodup_cons.mpr ⟨List.not_mem_nil, List.nodup_nil⟩, fun q hq => by rw [List.mem_singleton.mp hq]; exact R.back0 n, .cons hG (DpAll.mono hx' a) .nil⟩⟩) ?_
  exact hid_more x2 (fresh_back x nr)
/-- y.append(a new list) -/
theorem s_appG (i : Nat) {y : Str} {np : Pos} (ha : PE X a (tF X.K C l)) (hN : X.N[i]? = some y := by rfl) (hv : Vis X.env.scope y := by first | exact Or.inl rfl | exact Or.inr (Or.inl rfl) | exact Or.inr (Or.inr rfl)) (hd : (y == ("__debug__" : Str)) = false := by decide)
    (hcd : (y == ("__classdict__" : Str)) = false := by decide) (hs : starEach [a] X.env = (false, eval a X.env) :: starEach [] X.env := by rfl)
    (hbase : attributeBase (.Name y np) "append" X.env (eval (.Name y np) X.env) = eval (.Name y np) X.env := by rfl)
    (hfew : ((backTo cpos (starEach [a] X.env)).all (fun x => !x.1) && (backToKw cpos (keywordEach [] X.env)).all (fun x => x.1.isSome)
      && decide ([a].length + ([] : List Keyword).length + (if ([] : List Keyword).isEmpty then 0 else 1) < 30)) = true := by rfl)
    (hline : (apos.endLine == cpos.line) = true := by rfl) (hsw : swapsWith (.Call (.Attribute (.Name y np) "append" apos) [a] [] cpos) none pos.line X.env = pure false := by rfl) :
    PS X (.Expr (.Call (.Attribute (.Name y np) "append" apos) [a] [] cpos) pos) (tS X.K C (sAppG i l)) :=
  ps_imp (ps_expr (pe_bm PySem.F.plainAttrs_list PySem.F.slot_list_append PySem.F.type_list_append mt_append (pe_var (i := i) hN hv hd hcd) (pa_cons ha pa_nil hs) hbase hfew hline hs (by rfl)) hsw) fun D σ H ⟨O, ρ, R, q⟩ => by
  unfold sAppG at q
  split at q
  · rename_i dss hi
    obtain ⟨v, h1, p, qs, rfl, hO, hn, h4, oo⟩ := R.slot i _ hi
    refine ⟨.ref p, h1, .inl ⟨rfl, _, SqL.of h4⟩, O, ρ, R, Post.fin R q fun ds _ k r vs H1 x1 nr h a => ?_⟩
    by_cases hc : dss.length < 1000000
    · have k2 := k
      simp only [if_pos hc] at k2
      have h4' := x1.ex _ _ h4 rfl
      have R1 := R.grow x1
      have oo1 := oo.mono (hid_mono x1 (O := O))
      have hrO : r ∉ O := fun z => R.alive r z nr
      have hrq : r ∉ qs := fun z => by
        obtain ⟨us, e⟩ := oo.row.mem r z
        rw [hid_none nr] at e
        cases e
      refine ⟨p, qs.map V.ref, .ref r, rfl, rfl, h4', line_lt (by rw [List.length_map, oo.row.len]; exact hc), ?_⟩
      have R2 := R1.putG hi h1 h4' hO hn oo1 (q := r) (us := vs) (hid_out hrO h) (R.back0 nr) hrq (DpAll.mono (hid_sub fun b z => List.mem_cons_of_mem _ z) a)
      rw [List.map_append] at R2
      refine k2 σ O _ R2 ?_
      rw [hid_upd hO]
      exact hid_mono x1
    · have k2 := k
      simp only [if_neg hc] at k2
      exact k2.elim
  · exact q.elim
end

/-! ### a def that changes the list handed in first -/
def spM (K : PySem.W.Frag) (tb : List (Addr × Str)) (n : Nat) (F : FM) : Sp := fun vs H Q _ => ∃ O p us ds rest args es, vs = .ref p :: rest ∧ args.length + 1 = n ∧ p ∈ O ∧ H p = some (.lst us) ∧ DpAll K (hid O H) us ds ∧ LamX.Tabs tb H ∧ (∀ b ∈ O, H b ≠ none) ∧ ArgsOk K O H rest args ∧ (∀ s ∈ args, ∃ d, s = .fz d) ∧ F ds args = some es ∧
  ∀ us' H', ExM tb [p] H H' → H' p = some (.lst us') → DpAll K (hid O H') us' es → Q .non H'
structure DfnM (P : Program) (w : World) (K : PySem.W.Frag) (mg : Str → Option Value) (base : Heap) (tb : List (Addr × Str)) (k : Nat) (x : Str) (n : Nat) (F : FM) : Prop where
  ex : ∃ (f : Addr) (fd : FuncData) (ps : List Str), FnOk P w K mg base (L2.CX P w) k f fd ps (spM K tb n F) ∧ mg x = some (.ref f) ∧ PySem.W.keepIn K (.ref f) = true ∧ Binds K fd ps []
theorem DfnM.imp {P : Program} {w : World} {K : PySem.W.Frag} {mg : Str → Option Value} {base : Heap} {tb : List (Addr × Str)} {k : Nat} {x : Str} {n : Nat} {F F' : FM} (D : DfnM P w K mg base tb k x n F) (h : ∀ ds as es, F' ds as = some es → F ds as = some es) : DfnM P w K mg base tb k x n F' := by
  obtain ⟨f, fd, ps, F0, r⟩ := D.ex
  exact ⟨f, fd, ps, F0.imp fun vs H Q E ⟨O, p, us, ds, rest, args, es, h1, h2, h3, h4, h5, h6, h7, h8, h8', h9, q⟩ => ⟨O, p, us, ds, rest, args, es, h1, h2, h3, h4, h5, h6, h7, h8, h8', h _ _ _ h9, q⟩, r⟩
section
variable {X : Cx} {C : PC} {e : Expr} {es : List Expr} {ra : AE} {pos p1 p2 : Pos} {k n : Nat} {x : Str} {F : FM}
/-- the heap behind such a call -/
theorem Rep.callM {K : PySem.W.Frag} {O : List Addr} {H H' : Hp} {σ : L2.St} {ρ : Env} (R : Rep K C O H σ ρ) {i : Nat} {p : Addr} {us' : List V} {ds ds' : List PyData} (hi : ρ[i]? = some (some (.ow ds))) (hs : σ[i]? = some (some (.ref p))) (x : ExM C.T [p] H H') (hp : H' p = some (.lst us')) (a : DpAll K (hid O H') us' ds') :
    Rep K C O H' σ (ρ.set i (some (.ow ds'))) ∧ Ex (hid O H) (hid O H') := by
  obtain ⟨v, h1, p', vs, rfl, hO, hM, hp0, al⟩ := R.slot i _ hi
  rw [hs] at h1
  cases h1
  have hl : i < ρ.length := (List.getElem?_eq_some_iff.mp hi).1
  have st : ∀ b o, b ≠ p → H b = some o → isTbl o = false → H' b = some o := fun b o hb => x.st b o (by simpa using hb)
  have hx : Ex (hid O H) (hid O H') := fun b o e n => by
    obtain ⟨hb, e', hn⟩ := hid_of3 e
    exact hid_out hb (st b o (fun z => hb (z ▸ hO)) e' n) hn
  refine ⟨⟨⟨fun b o hb e n => ?_, fun b o e => ?_, fun q hq t => x.tab q hq (R.ex.tab q hq t)⟩, R.o0, R.sub, fun b hb e => ?_, by rw [List.length_set]; exact R.len, fun j s e => ?_, fun j k s t q hjk e1 o1 e2 e3 o3 e4 => ?_⟩, hx⟩
  · by_cases hbp : b = p
    · subst hbp
      rcases hM with z | z
      · rw [z] at e; cases e
      · exact absurd z hb
    · exact st b o hbp (R.ex.st b o hb e n) n
  · cases q : H b with
    | none => exact absurd q (R.ex.tb b o e)
    | some u => exact x.tb b u q
  · cases q : H b with
    | none => exact R.alive b hb q
    | some u => exact x.tb b u q e
  · by_cases hj : j = i
    · subst hj
      rw [List.getElem?_set_self hl] at e
      cases e
      exact ⟨.ref p, hs, p, us', rfl, hO, hM, hp, a⟩
    · rw [List.getElem?_set_ne (Ne.symm hj)] at e
      obtain ⟨v, h1, h2⟩ := R.slot j s e
      refine ⟨v, h1, ?_⟩
      cases s with
      | fz d => exact Dp.mono hx h2
      | bw ds => obtain ⟨p2, vs2, a2, b2, c2, d2⟩ := h2; exact ⟨p2, vs2, a2, b2, c2, DpAll.mono hx d2⟩
      | dbw ds => obtain ⟨p2, vs2, a2, b2, c2, d2⟩ := h2; exact ⟨p2, vs2, a2, b2, c2, KvAll.mono hx d2⟩
      | er n => exact h2
      | oo dss => exact OoF.mono hx h2
      | hd dss => exact HdF.mono hx h2
      | mw ds =>
        obtain ⟨p2, vs2, rfl, b2, c2, d2, e2⟩ := h2
        have : p2 ≠ p := fun z => by subst z; exact R.apart j i _ _ _ hj e rfl h1 hi rfl hs
        exact ⟨p2, vs2, rfl, b2, c2, st _ _ this d2 rfl, DpAll.mono hx e2⟩
      | og ds =>
        obtain ⟨p2, vs2, rfl, b2, c2, d2, e2⟩ := h2
        have : p2 ≠ p := fun z => by subst z; exact R.apart j i _ _ _ hj e rfl h1 hi rfl hs
        exact ⟨p2, vs2, rfl, b2, c2, st _ _ this d2 rfl, e2.mono hx⟩
      | ow ds =>
        obtain ⟨p2, vs2, rfl, b2, c2, d2, e2⟩ := h2
        have : p2 ≠ p := fun z => by subst z; exact R.apart j i _ _ _ hj e rfl h1 hi rfl hs
        exact ⟨p2, vs2, rfl, b2, c2, st _ _ this d2 rfl, DpAll.mono hx e2⟩
      | dow ds =>
        obtain ⟨p2, vs2, rfl, b2, c2, d2, e2⟩ := h2
        have : p2 ≠ p := fun z => by subst z; exact R.apart j i _ _ _ hj e rfl h1 hi rfl hs
        exact ⟨p2, vs2, rfl, b2, c2, st _ _ this d2 rfl, KvAll.mono hx e2⟩
  · have back : ∀ (j : Nat) (s : SL), (ρ.set i (some (.ow ds')))[j]? = some (some s) → ownS s = true → ∃ s', ρ[j]? = some (some s') ∧ ownS s' = true := fun j s e o => by
      by_cases hj : j = i
      · subst hj; exact ⟨_, hi, rfl⟩
      · rw [List.getElem?_set_ne (Ne.symm hj)] at e; exact ⟨s, e, o⟩
    obtain ⟨s', a1, a2⟩ := back j s e1 o1
    obtain ⟨t', b1, b2⟩ := back k t e3 o3
    exact R.apart j k s' t' q hjk a1 a2 e2 b1 b2 e4
theorem ExM.pre {τ : List (Addr × Str)} {M : List Addr} {H H1 H2 : Hp} (a : Gx τ H H1) (b : ExM τ M H1 H2) : ExM τ M H H2 := by
  refine ⟨fun x o hx h n => b.st x o hx (a.ex x o h n) n, fun x o h => ?_, fun p hp t => b.tab p hp (a.tab p hp t)⟩
  cases e : H1 x with
  | none => exact absurd e (a.tb x o h)
  | some u => exact b.tb x u e
theorem s_callM (i : Nat) {y : Str} {np : Pos} (D : DfnM X.prog X.w X.K X.mg X.base C.T k x n F) (hr : Room k X.A) (hx : Wk X C) (hg : Gl X x) (ha : PA X es (tAr X.K C ra)) (hn : ∀ ρ ss, ra ρ = .ok ss → ss.length + 1 = n) (hfz : ∀ ρ ss, ra ρ = .ok ss → ∀ s ∈ ss, ∃ d, s = .fz d) (hN : X.N[i]? = some y := by rfl) (hv : Vis X.env.scope y := by first | exact Or.inl rfl | exact Or.inr (Or.inl rfl) | exact Or.inr (Or.inr rfl)) (hd : (y == ("__debug__" : Str)) = false := by decide)
    (hcd : (y == ("__classdict__" : Str)) = false := by decide) (hdb : (x == ("__debug__" : Str)) = false := by decide) (he : starEach (.Name y np :: es) X.env = (false, eval (.Name y np) X.env) :: starEach es X.env := by rfl) (hpl : (backTo pos (starEach es X.env)).any (·.1) = false := by rfl) (hsw : swapsWith (.Call (.Name x p1) (.Name y np :: es) [] pos) none p2.line X.env = pure false := by rfl) :
    PS X (.Expr (.Call (.Name x p1) (.Name y np :: es) [] pos) p2) (tS X.K C (sCallM F i ra)) := by
  obtain ⟨f, fd, ps, F0, hmg, hk, hb⟩ := D.ex
  refine ps_imp (ps_expr (pe_callS F0 hr hg hmg hk hb hx (pa_cons (pe_var (i := i) hN hv hd hcd) ha he) hdb he hpl) hsw) fun D σ H ⟨O, ρ, R, q⟩ => ?_
  unfold sCallM at q
  split at q
  · rename_i ds hi
    obtain ⟨p, vs, h1, h2, h3, h4, h5⟩ := R.own hi
    refine ⟨.ref p, h1, O, ρ, R, Post.fin R q fun ss ess k us H1 x1 a1 => ?_⟩
    have R1 := R.grow x1
    cases z : F ds ss with
    | some es' =>
      have k2 := k
      rw [z] at k2
      refine ⟨O, p, vs, ds, us, ss, es', rfl, hn _ _ ess, h2, x1.ex _ _ h4 rfl, DpAll.mono (hid_mono x1) h5, R1.tabs, R1.alive, a1, hfz _ _ ess, z, fun us' H' x2 hp a => ?_⟩
      obtain ⟨R2, hx2⟩ := R1.callM hi h1 x2 hp a
      exact (show ∀ σ' O' H', Rep X.K C O' H' σ' (ρ.set i (some (.ow es'))) → Ex (hid O H) (hid O' H') → D.nx σ' H' from k2) σ O H' R2 ((hid_mono x1).trans hx2)
    | none => have k2 := k; rw [z] at k2; exact k2.elim
  · exact q.elim
end
theorem fz_nil : ∀ ρ ss, rNil ρ = .ok ss → ∀ s ∈ ss, ∃ d, s = .fz d := fun ρ ss h s hs => by
  cases h
  cases hs
theorem fz_V {f : VE} {ra : AE} (h : ∀ ρ ss, ra ρ = .ok ss → ∀ s ∈ ss, ∃ d, s = .fz d) : ∀ ρ ss, rV f ra ρ = .ok ss → ∀ s ∈ ss, ∃ d, s = .fz d := fun ρ ss e s hs => by
  unfold rV at e
  cases e1 : f ρ with
  | ok d =>
    rw [e1] at e
    cases e2 : ra ρ with
    | ok r =>
      rw [e2] at e
      cases e
      rcases List.mem_cons.mp hs with rfl | hs
      · exact ⟨d, rfl⟩
      · exact h ρ r e2 s hs
    | exc n => rw [e2] at e; cases e
    | stuck => rw [e2] at e; cases e
  | exc n => rw [e1] at e; cases e
  | stuck => rw [e1] at e; cases e
theorem len_M {ra : AE} {n : Nat} (h : ArLen ra n) : ∀ ρ ss, ra ρ = .ok ss → ss.length + 1 = n + 1 := fun ρ ss e => by rw [h ρ ss e]
/-! ### such a def by its body -/
def PC.ofM (tb : List (Addr × Str)) (cv : String → Value) (H : Hp) (O : List Addr) (p : Addr) (E : XK) : PC := ⟨[p], H, O, fun cls d _ H' => E cls d H', cv, fun _ _ => False, tb⟩
section
variable {P : Program} {w : World} {K : PySem.W.Frag} {mg : Str → Option Value} {base : Heap} {tb : List (Addr × Str)} {cv : String → Value}
theorem argsM_rep {O : List Addr} {H : Hp} {E : XK} {p : Addr} {us : List V} {ds : List PyData} {vs : List V} {args : List SL} {n : Nat} (hT : LamX.Tabs tb H) (al : ∀ b ∈ O, H b ≠ none) (hO : p ∈ O) (hp : H p = some (.lst us)) (a : DpAll K (hid O H) us ds) (h : ArgsOk K O H vs args) (hf : ∀ s ∈ args, ∃ d, s = .fz d) :
    Rep K (PC.ofM tb cv H O p E) O H ((V.ref p :: vs).map some ++ List.replicate n none) ((some (.mw ds) :: args.map some) ++ List.replicate n none) := by
  have hl := h.len
  have key : ∀ (i : Nat) (s : SL), (args.map some ++ List.replicate n none)[i]? = some (some s) → ownS s = false ∧ ∃ v, (vs.map some ++ List.replicate n none)[i]? = some (some v) ∧ SlotOk K (PC.ofM tb cv H O p E) O H v s := by
    clear hl
    induction h with
    | nil =>
      intro i s e
      rw [List.map_nil, List.nil_append, List.getElem?_replicate] at e
      split at e <;> cases e
    | @cons v vs s ss h _ ih =>
      intro i t e
      cases i with
      | zero =>
        cases e
        obtain ⟨d, rfl⟩ := hf s List.mem_cons_self
        exact ⟨rfl, v, rfl, h⟩
      | succ i => exact ih (fun s hs => hf s (List.mem_cons_of_mem _ hs)) i t e
  refine ⟨ExM.refl _ _, ⟨fun b hb => al b hb, hT⟩, fun b hb => hb, al, ?_, fun i s e => ?_, fun i j s t q hij e1 o1 e2 e3 o3 e4 => ?_⟩
  · simp [hl]
  · cases i with
    | zero =>
      cases e
      exact ⟨.ref p, rfl, p, us, rfl, hO, List.mem_singleton.mpr rfl, hp, a⟩
    | succ i => exact (key i s e).2
  · cases i with
    | zero =>
      cases j with
      | zero => exact hij rfl
      | succ j => rw [(key j t e3).1] at o3; cases o3
    | succ i => rw [(key i s e1).1] at o1; cases o1
theorem mk_defM {x qual : Str} {st : Stmt} {f : Addr} {fd : FuncData} {N ps : List Str} {k : Nat} {g : SE} (F : Fun K x qual st f fd) (S : FnScope N ps (defScope st)) (hmg : mg x = some (.ref f)) (hb : Binds K fd ps [])
    (body : ∀ (cdv : Value) (A : Around) (outer : List PySem.Env) (s : Shared) (H : Hp) (O : List Addr) (p : Addr) (E : XK), p ∈ O → Room k (A.deeper (PyProof.Rows.envOfC qual (defScope st) s.heap.objs.size f cdv)) → Wk (cxOf (L2.CX P w) P w K mg base N qual (defScope st) f cdv A outer s H E) (PC.ofM tb cv H O p E) →
      Takes (cxOf (L2.CX P w) P w K mg base N qual (defScope st) f cdv A outer s H E) (PC.ofM tb cv H O p E).W → PassesOwn (model P w) (A.deeper (PyProof.Rows.envOfC qual (defScope st) s.heap.objs.size f cdv)) (PyProof.Rows.envOfC qual (defScope st) s.heap.objs.size f cdv) (cxOf (L2.CX P w) P w K mg base N qual (defScope st) f cdv A outer s H E).xe →
      PSs (cxOf (L2.CX P w) P w K mg base N qual (defScope st) f cdv A outer s H E) (defBody st) (tS K (PC.ofM tb cv H O p E) g)) :
    DfnM P w K mg base tb (k + 1) x ps.length (runM ps.length N.length g) := by
  refine ⟨f, fd, ps, ?_, hmg, F.kp, hb⟩
  refine F.okX S (fun vs H Q E ⟨O, p, us, ds, rest, args, es, e, hl, _, _, _, _, _, ha, _⟩ => by rw [e, List.length_cons, ha.len, hl]) fun cdv A outer s H vs Q E hr h => ?_
  obtain ⟨O, p, us, ds, rest, args, es, rfl, hl, hO, hp, a, hT, al, ha, hf, hF, q⟩ := h
  have tk : Takes (cxOf (L2.CX P w) P w K mg base N qual (defScope st) f cdv A outer s H E) (PC.ofM tb cv H O p E).W := takes_of rfl rfl rfl rfl
  refine ⟨_, body cdv A outer s H O p E hO hr (fun σ => passAt tk σ) tk (passes_of rfl), O, (some (.mw ds) :: args.map some) ++ List.replicate (N.length - ps.length) none, ?_, ?_⟩
  · have hv : (V.ref p :: rest).length = ps.length := by rw [List.length_cons, ha.len, hl]
    unfold L2.start
    rw [hv]
    exact argsM_rep hT al hO hp a ha hf
  · unfold runM at hF
    rw [if_pos hl] at hF
    cases hg : g ((some (.mw ds) :: args.map some) ++ List.replicate (N.length - ps.length) none) with
    | nx ρ' =>
      rw [hg] at hF
      intro σ' O' H' R _
      match ρ', hF, R with
      | some (.mw es') :: r, hF, R =>
        have e : es' = es := Option.some.inj hF
        subst e
        obtain ⟨v, h1, p', us', rfl, h2, h3, h4, h5⟩ := R.slot 0 _ rfl
        have e : p' = p := List.mem_singleton.mp h3
        subst e
        exact q us' H' R.ex h4 (DpAll.mono (hid_sub R.sub) h5)
    | rt r ρ' => rw [hg] at hF; cases hF
    | ex n ρ' => rw [hg] at hF; cases hF
    | bk ρ' => rw [hg] at hF; cases hF
    | ct ρ' => rw [hg] at hF; cases hF
    | stuck => rw [hg] at hF; cases hF
end
/-! ### t.count(k), t a tuple of whole numbers -/
section
variable {X : Cx} {C : PC} {a b : Expr} {f g : VE} {pos apos : Pos}
def rCntT (K : PySem.W.Frag) : V → List V → Hp → VK → Prop := fun x xs H Q => ∃ (p : Addr) (ns : List Int) (k : Int), x = .ref p ∧ xs = [.int k] ∧ SqT K H p (ns.map V.int) ∧ Q (.int (ns.count k : Nat)) H
theorem mt_tcount : MtR X "tuple.count" (rCntT X.K) := by
  intro pins s σ H x xs v us Q I rx rxs h
  obtain ⟨p, ns, k, rfl, rfl, hs, q⟩ := h
  cases rx
  obtain ⟨u, rfl, ru⟩ := rxs.one
  obtain ⟨t, rfl⟩ := ru
  obtain ⟨its, rv, ⟨⟨cls, dd, data, sl⟩, ho, hc, n, hd⟩, hlen⟩ := I.tuple hs
  simp only at hc hd
  subst hc hd
  have hi := ints_of_vals rv
  refine call_meets PySem.F.slot_tuple_count ⟨_, ho, rfl⟩ PySem.F.entry_tuple_count (PySem.F.args_tuple_count_2 _ _)
    (SeqAt.tuple_countAt p its.toArray n dd sl (.int k t) (eqk k)) ⟨ho, fun y hy => (eqk_gives hi y (by simpa using hy)).at _ _, ?_⟩
  have ec : its.toArray.toList.countP (eqk k) = ns.count k := eqk_count hi
  refine ⟨.int (ns.count k : Nat), H, I.tok _, ⟨s.toks, ?_⟩, q⟩
  show Value.int ((its.toArray.toList.countP (eqk k) : Nat) : Int) s.toks = Value.int ((ns.count k : Nat) : Int) s.toks
  rw [ec]
/-- no tuple among the given objects holds an instance dict -/
def TupK (K : PySem.W.Frag) : Prop := ∀ a o, K.lookup a = some o → o.cls = .type "tuple" → o.dict = none
theorem tupK_of {K : PySem.W.Frag} (h : K.all (fun p => match p.2.cls with
    | .type "tuple" => p.2.dict.isNone
    | _ => true) = true) : TupK K := fun a o e hc => by
  have hm : ∀ (K : PySem.W.Frag), K.lookup a = some o → (a, o) ∈ K := fun K => by
    induction K with
    | nil => intro z; cases z
    | cons p r ih =>
      intro z
      obtain ⟨b, u⟩ := p
      rw [List.lookup_cons] at z
      split at z
      · rename_i hb
        have := beq_iff_eq.mp hb
        subst this
        cases z
        exact List.mem_cons_self
      · exact List.mem_cons_of_mem _ (ih z)
  have := List.all_eq_true.mp h _ (hm K e)
  dsimp only at this
  rw [hc] at this
  exact Option.isNone_iff_eq_none.mp this
def tyTup (K : PySem.W.Frag) : V → Hp → Prop := fun x H => ∃ a xs, x = .ref a ∧ SqT K (hid [] H) a xs
theorem ty_tup (hk : TupK X.K) : TyOk X "tuple" (tyTup X.K) := by
  intro pins σ H s x v I r ⟨a, xs, e, h⟩
  subst e
  cases r
  rcases h with (h | ⟨o, h⟩) | ⟨o, its, n, h1, h2, h3, h4, h5⟩
  · have := (hid_of3 h).2.2
    cases this
  · obtain ⟨_, h, hn⟩ := hid_of3 h
    obtain ⟨ho, _, us, _, o', ho', hc, n, hd⟩ := I.hok a _ h
    rw [ho] at ho'
    cases ho'
    refine ⟨⟨o, ho, hc⟩, fun b e => ?_⟩
    cases e
    refine ⟨o, ho, ?_⟩
    have hn : o.dict.isSome = false := hn
    cases q : o.dict with
    | none => rfl
    | some _ => rw [q] at hn; cases hn
  · have ho := I.kIn a o h1
    exact ⟨⟨o, ho, h2⟩, fun b e => by cases e; exact ⟨o, ho, hk a o h1 h2⟩⟩
theorem v_tcount (hk : TupK X.K) (ha : PE X a (tV X.K C f)) (hb : PE X b (tV X.K C g)) (hs : starEach [b] X.env = (false, eval b X.env) :: starEach [] X.env := by rfl) (hbase : attributeBase a "count" X.env (eval a X.env) = eval a X.env := by rfl)
    (hfew : ((backTo pos (starEach [b] X.env)).all (fun x => !x.1) && (backToKw pos (keywordEach [] X.env)).all (fun x => x.1.isSome)
      && decide ([b].length + ([] : List Keyword).length + (if ([] : List Keyword).isEmpty then 0 else 1) < 30)) = true := by rfl) (hline : (apos.endLine == pos.line) = true := by rfl) :
    PE X (.Call (.Attribute a "count" apos) [b] [] pos) (tV X.K C (eTCount f g)) :=
  pe_imp (pe_mG (ty_tup hk) PySem.F.plainAttrs_tuple PySem.F.slot_tuple_count PySem.F.type_tuple_count mt_tcount ha (pa_cons hb pa_nil hs) hbase hfew hline hs (by rfl)) fun σ H Q ⟨O, ρ, R, q⟩ => by
  refine ⟨O, ρ, R, (Fin.bind q).imp fun d _ q1 v H1 x1 p1 => ?_⟩
  have R1 := R.grow x1
  cases d with
  | tuple ds =>
    obtain ⟨p, vs, rfl, s, al⟩ := dp_tup p1
    refine ⟨⟨p, vs, rfl, ex_t (hid_sub fun b z => (List.not_mem_nil z).elim) s⟩, O, ρ, R1, ((Fin.bind (show Fin C σ H ((g ρ).bind (cntOf ds)) _ from q1)).grow x1).imp fun e _ q2 u H2 x2 p2 => ?_⟩
    cases e with
    | int k =>
      unfold cntOf at q2
      cases z : asInts ds with
      | none => simp only [z] at q2; exact q2.elim
      | some ns =>
        simp only [z] at q2
        have hv := DpAll.ints al z
        subst hv
        exact ⟨p, ns, k, rfl, by rw [dp_int p2], ex_t ((hid_ex (O := O)).trans x2.ex) s, (show ∀ v H', Gx C.T H H' → Dp X.K (hid O H') v (.int ((ns.count k : Nat) : Int)) → Q v H' from q2) _ H2 (x1.trans x2) (.int _)⟩
    | _ => exact q2.elim
  | _ => exact q1.elim
end
end PL

/-! PLT: for y in x: y.append(e), x a list of new lists. -/
namespace PL
open PySem L2
section
variable {K : PySem.W.Frag} {C : PC} {O qs : List Addr} {G G' H H' : Hp} {σ σ' : L2.St} {ρ : Env}
theorem flat_any {v : V} {d : PyData} (h : Dp K G v d) (hf : flatD d = true) : Dp K G' v d := by
  cases h with
  | non => exact .non
  | bl b => exact .bl b
  | int i => exact .int i
  | str s => exact .str s
  | lst _ _ => cases hf
  | tup _ _ => cases hf
theorem flats_any : ∀ {vs : List V} {ds : List PyData}, DpAll K G vs ds → ds.all flatD = true → DpAll K G' vs ds
  | _, _, .nil, _ => .nil
  | _, _, .cons h t, hf => by
    rw [List.all_cons, Bool.and_eq_true] at hf
    exact .cons (flat_any h hf.1) (flats_any t hf.2)
theorem hide_at (hq : ∀ q ∈ qs, ∃ us, H q = some (.lst us)) {a : Addr} {u : HO} (h : hid O H a = some u) (hu : ∀ us, u ≠ .lst us) : hid (qs ++ O) H a = some u := by
  obtain ⟨h1, h2, h3⟩ := hid_of3 h
  refine hid_out (fun z => ?_) h2 h3
  rcases List.mem_append.mp z with z | z
  · obtain ⟨us, e⟩ := hq a z
    rw [h2] at e
    exact hu us (Option.some.inj e)
  · exact h1 z
theorem hideT (hq : ∀ q ∈ qs, ∃ us, H q = some (.lst us)) {a : Addr} {xs : List V} (h : SqT K (hid O H) a xs) : SqT K (hid (qs ++ O) H) a xs := by
  rcases h with (h | ⟨o, h⟩) | h
  · exact .inl (.inl (hide_at hq h nofun))
  · exact .inl (.inr ⟨o, hide_at hq h nofun⟩)
  · exact .inr h
theorem hide1 (hq : ∀ q ∈ qs, ∃ us, H q = some (.lst us)) {v : V} {d : PyData} (h : Dp K (hid O H) v d) (hf : noL1 d = true) : Dp K (hid (qs ++ O) H) v d := by
  cases h with
  | non => exact .non
  | bl b => exact .bl b
  | int i => exact .int i
  | str s => exact .str s
  | lst _ _ => cases hf
  | tup s al => exact .tup (hideT hq s) (flats_any al hf)
theorem hides1 (hq : ∀ q ∈ qs, ∃ us, H q = some (.lst us)) : ∀ {vs : List V} {ds : List PyData}, DpAll K (hid O H) vs ds → ds.all noL1 = true → DpAll K (hid (qs ++ O) H) vs ds
  | _, _, .nil, _ => .nil
  | _, _, .cons h t, hf => by
    rw [List.all_cons, Bool.and_eq_true] at hf
    exact .cons (hide1 hq h hf.1) (hides1 hq t hf.2)
theorem hide2 (hq : ∀ q ∈ qs, ∃ us, H q = some (.lst us)) {v : V} {d : PyData} (h : Dp K (hid O H) v d) (hf : noL2 d = true) : Dp K (hid (qs ++ O) H) v d := by
  cases h with
  | non => exact .non
  | bl b => exact .bl b
  | int i => exact .int i
  | str s => exact .str s
  | lst _ _ => cases hf
  | tup s al => exact .tup (hideT hq s) (hides1 hq al hf)
theorem hides2 (hq : ∀ q ∈ qs, ∃ us, H q = some (.lst us)) : ∀ {vs : List V} {ds : List PyData}, DpAll K (hid O H) vs ds → ds.all noL2 = true → DpAll K (hid (qs ++ O) H) vs ds
  | _, _, .nil, _ => .nil
  | _, _, .cons h t, hf => by
    rw [List.all_cons, Bool.and_eq_true] at hf
    exact .cons (hide2 hq h hf.1) (hides2 hq t hf.2)
/-- the rows as they stand -/
inductive RowsM (K : PySem.W.Frag) (H G : Hp) : List Addr → List (List PyData) → Prop
  | nil : RowsM K H G [] []
  | cons {q : Addr} {us : List V} {ds : List PyData} {qs : List Addr} {dss : List (List PyData)} : H q = some (.lst us) → DpAll K G us ds → RowsM K H G qs dss → RowsM K H G (q :: qs) (ds :: dss)
theorem RowsM.get : ∀ {qs : List Addr} {dss : List (List PyData)} {k : Nat} {q : Addr}, RowsM K H G qs dss → qs[k]? = some q → ∃ us ds, dss[k]? = some ds ∧ H q = some (.lst us) ∧ DpAll K G us ds
  | _, _, _, _, .nil, e => by cases e
  | _, _, 0, _, .cons h a _, e => by cases e; exact ⟨_, _, rfl, h, a⟩
  | _, _, k + 1, _, .cons _ _ t, e => RowsM.get (k := k) t (by simpa using e)
theorem RowsM.grow (x : ∀ q us, H q = some (.lst us) → H' q = some (.lst us)) (g : Ex G G') : ∀ {qs : List Addr} {dss : List (List PyData)}, RowsM K H G qs dss → RowsM K H' G' qs dss
  | _, _, .nil => .nil
  | _, _, .cons h a t => .cons (x _ _ h) (DpAll.mono g a) (RowsM.grow x g t)
theorem RowsM.other {q : Addr} {o : HO} : ∀ {qs : List Addr} {dss : List (List PyData)}, q ∉ qs → RowsM K H G qs dss → RowsM K (upd H q o) G qs dss
  | _, _, _, .nil => .nil
  | _, _, n, .cons h a t => .cons (by rw [upd_ne fun z => n (by rw [← z]; exact List.mem_cons_self)]; exact h) a (RowsM.other (fun z => n (List.mem_cons_of_mem _ z)) t)
theorem RowsM.set {us : List V} {ds : List PyData} (a : DpAll K G us ds) : ∀ {qs : List Addr} {dss : List (List PyData)} {k : Nat} {q : Addr}, qs.Nodup → RowsM K H G qs dss → qs[k]? = some q → RowsM K (upd H q (.lst us)) G qs (dss.set k ds)
  | _, _, _, _, _, .nil, e => by cases e
  | _, _, 0, _, n, .cons h b t, e => by
    cases e
    exact .cons upd_same a (t.other (List.nodup_cons.mp n).1)
  | r :: _, _ :: _, k + 1, q, n, .cons h b t, e => by
    have e' : _ := (by simpa using e)
    have hq : q ≠ r := fun z => by
      subst z
      exact (List.nodup_cons.mp n).1 (List.mem_of_getElem? e')
    exact .cons (by rw [upd_ne (Ne.symm hq)]; exact h) b (RowsM.set a (List.nodup_cons.mp n).2 t e')
/-- the first k rows are longer -/
def curr (dss : List (List PyData)) (d : PyData) (k : Nat) : List (List PyData) := (dss.take k).map (· ++ [d]) ++ dss.drop k
theorem curr_s {dss : List (List PyData)} {d : PyData} {k : Nat} {ds : List PyData} (h : dss[k]? = some ds) : (curr dss d k)[k]? = some ds ∧ (curr dss d k).set k (ds ++ [d]) = curr dss d (k + 1) := by
  obtain ⟨hk, e⟩ := List.getElem?_eq_some_iff.mp h
  have hl : ((dss.take k).map (· ++ [d])).length = k := by rw [List.length_map, List.length_take]; omega
  have hd : dss.drop k = ds :: dss.drop (k + 1) := by rw [List.drop_eq_getElem_cons hk, e]
  have ht : dss.take (k + 1) = dss.take k ++ [ds] := by rw [List.take_succ, h]; rfl
  unfold curr
  constructor
  · rw [List.getElem?_append_right (by omega), hl, Nat.sub_self, hd]
    rfl
  · rw [List.set_append_right _ _ (by omega), hl, Nat.sub_self, hd, ht, List.map_append, List.append_assoc]
    rfl
theorem Rep.mutH {O' : List Addr} (R : Rep K C O' H σ ρ) {q : Addr} {us us' : List V} (hq : q ∈ O') (h0 : C.H0 q = none) (h : H q = some (.lst us)) (no : ∀ (m : Nat) (s : SL), ρ[m]? = some (some s) → ownS s = true → σ[m]? ≠ some (some (.ref q))) : Rep K C O' (upd H q (.lst us')) σ ρ := by
  have hh : hid O' (upd H q (.lst us')) = hid O' H := hid_upd hq
  refine ⟨R.ex.put (.inl h0) h rfl nofun, R.o0, R.sub, fun b hb e => ?_, R.len, fun j s e => ?_, R.apart⟩
  · by_cases hbp : b = q
    · subst hbp; rw [upd_same] at e; cases e
    · rw [upd_ne hbp] at e; exact R.alive b hb e
  · obtain ⟨v, h1, h2⟩ := R.slot j s e
    refine ⟨v, h1, ?_⟩
    have ne : ∀ p, v = .ref p → ownS s = true → p ≠ q := fun p hv ho z => no j s e ho (by rw [h1, hv, z])
    cases s with
    | fz d => show Dp K (hid O' _) v d; rw [hh]; exact h2
    | bw ds => obtain ⟨p2, vs2, a2, b2, c2, d2⟩ := h2; exact ⟨p2, vs2, a2, b2, c2, by rw [hh]; exact d2⟩
    | dbw ds => obtain ⟨p2, vs2, a2, b2, c2, d2⟩ := h2; exact ⟨p2, vs2, a2, b2, c2, by rw [hh]; exact d2⟩
    | er n => exact h2
    | oo dss => show OoF K _ (hid O' _) v dss; rw [hh]; exact h2
    | hd dss => show HdF K _ (hid O' _) v dss; rw [hh]; exact h2
    | mw ds => obtain ⟨p2, vs2, e1, b2, c2, d2, e2⟩ := h2; exact ⟨p2, vs2, e1, b2, c2, by rw [upd_ne (ne p2 e1 rfl)]; exact d2, by rw [hh]; exact e2⟩
    | og ds => obtain ⟨p2, vs2, e1, b2, c2, d2, e2⟩ := h2; exact ⟨p2, vs2, e1, b2, c2, by rw [upd_ne (ne p2 e1 rfl)]; exact d2, by rw [hh]; exact e2⟩
    | ow ds => obtain ⟨p2, vs2, e1, b2, c2, d2, e2⟩ := h2; exact ⟨p2, vs2, e1, b2, c2, by rw [upd_ne (ne p2 e1 rfl)]; exact d2, by rw [hh]; exact e2⟩
    | dow ds => obtain ⟨p2, vs2, e1, b2, c2, d2, e2⟩ := h2; exact ⟨p2, vs2, e1, b2, c2, by rw [upd_ne (ne p2 e1 rfl)]; exact d2, by rw [hh]; exact e2⟩
theorem keep_some {k : Nat} {s : SL} (h : (keepFlat ρ)[k]? = some (some s)) : ρ[k]? = some (some s) ∧ flatS s = true := by
  unfold keepFlat at h
  rw [List.getElem?_map] at h
  cases e : ρ[k]? with
  | none => rw [e] at h; cases h
  | some o =>
    rw [e] at h
    cases o with
    | none => cases h
    | some t =>
      simp only [Option.map_some] at h
      split at h
      · rename_i hf
        cases h
        exact ⟨rfl, hf⟩
      · cases h
theorem keepj_some {j k : Nat} {s : SL} (h : ((keepFlat ρ).set j none)[k]? = some (some s)) : ρ[k]? = some (some s) ∧ flatS s = true ∧ k ≠ j := by
  by_cases hj : k = j
  · subst hj
    have hl := (List.getElem?_eq_some_iff.mp h).1
    rw [List.length_set] at hl
    rw [List.getElem?_set_self hl] at h
    cases h
  · rw [List.getElem?_set_ne (Ne.symm hj)] at h
    exact ⟨(keep_some h).1, (keep_some h).2, hj⟩
/-- the flat slots over other hidden objects -/
theorem Rep.flat {O' : List Addr} {j : Nat} (R : Rep K C O H σ ρ) (hl : σ'.length = σ.length) (hs : ∀ m, m ≠ j → σ'[m]? = σ[m]?) (hO : ∀ b ∈ O, b ∈ O') (al : ∀ b ∈ O', H b ≠ none) : Rep K C O' H σ' ((keepFlat ρ).set j none) := by
  refine ⟨R.ex, R.o0, fun b hb => hO b (R.sub b hb), al, by rw [List.length_set]; unfold keepFlat; rw [List.length_map, hl]; exact R.len, fun k s e => ?_, fun k m s t p hkm e1 o1 e2 e3 o3 e4 => ?_⟩
  · obtain ⟨e1, e2, e3⟩ := keepj_some e
    obtain ⟨v, h1, h2⟩ := R.slot k s e1
    refine ⟨v, by rw [hs k e3]; exact h1, ?_⟩
    cases s with
    | fz d => exact flat_any h2 e2
    | ow ds => obtain ⟨p, vs, a, b, c, d, f⟩ := h2; exact ⟨p, vs, a, hO p b, c, d, flats_any f e2⟩
    | bw ds => obtain ⟨p, vs, a, b, c, f⟩ := h2; exact ⟨p, vs, a, b, c, flats_any f e2⟩
    | _ => cases e2
  · obtain ⟨a1, _, a3⟩ := keepj_some e1
    obtain ⟨b1, _, b3⟩ := keepj_some e3
    rw [hs k a3] at e2
    rw [hs m b3] at e4
    exact R.apart k m s t p hkm a1 o1 e2 b1 o3 e4
end
section
variable {X : Cx} {C : PC} {a : Expr} {f : VE} {d : PyData}
theorem s_thaw (i j : Nat) {x y : Str} {px py np : Pos} {apos cpos epos pos : Pos} (hp : PassesOwn (model X.prog X.w) X.A X.env X.xe) (hc : X.calm = true) (hND : X.N.Nodup) (hf : ∀ ρ, f ρ = .ok d) (ha : PE X a (tV X.K C f)) (hNi : X.N[i]? = some x := by rfl) (hvi : Vis X.env.scope x := by first | exact Or.inl rfl | exact Or.inr (Or.inl rfl) | exact Or.inr (Or.inr rfl)) (hdi : (x == ("__debug__" : Str)) = false := by decide) (hcdi : (x == ("__classdict__" : Str)) = false := by decide)
    (hN : X.N[j]? = some y := by rfl) (hxy : Loc X.env.scope y := by first | exact Or.inl rfl | exact Or.inr rfl) (hv : Vis X.env.scope y := by first | exact Or.inl rfl | exact Or.inr (Or.inl rfl) | exact Or.inr (Or.inr rfl)) (hd : (y == ("__debug__" : Str)) = false := by decide) (hcd : (y == ("__classdict__" : Str)) = false := by decide) (hfy : X.fn y = true ∨ X.env.scope.names.lookup y = some .local := by first | exact .inl rfl | exact .inr rfl)
    (hs : starEach [a] X.env = (false, eval a X.env) :: starEach [] X.env := by rfl)
    (hbase : attributeBase (.Name y np) "append" X.env (eval (.Name y np) X.env) = eval (.Name y np) X.env := by rfl)
    (hfew : ((backTo cpos (starEach [a] X.env)).all (fun x => !x.1) && (backToKw cpos (keywordEach [] X.env)).all (fun x => x.1.isSome)
      && decide ([a].length + ([] : List Keyword).length + (if ([] : List Keyword).isEmpty then 0 else 1) < 30)) = true := by rfl)
    (hline : (apos.endLine == cpos.line) = true := by rfl) (hsw : swapsWith (.Call (.Attribute (.Name y np) "append" apos) [a] [] cpos) none epos.line X.env = pure false := by rfl) (hfo : ∀ z, foldedSetIterable (.Name x px) X.env z = pure z := by intro _; rfl) :
    PS X (.For (.Name y py) (.Name x px) [.Expr (.Call (.Attribute (.Name y np) "append" apos) [a] [] cpos) epos] [] pos) (tSW X.K C (sThaw i j f)) :=
  ps_imp (ps_for hp hc (pi_list (pe_var (i := i) hNi hvi hdi hcdi)) (pg_name hND hN hxy hfy) (pss_one (ps_expr (pe_bm PySem.F.plainAttrs_list PySem.F.slot_list_append PySem.F.type_list_append mt_append (pe_var (i := j) hN hv hd hcd) (pa_cons ha pa_nil hs) hbase hfew hline hs (by rfl)) hsw)) hfo) fun D σ H ⟨O, ρ, R, q⟩ => by
  unfold sThaw at q
  rw [hf] at q
  split at q
  · rename_i dss d' e ed
    cases ed
    split at q
    · rename_i hcond
      obtain ⟨hall, hlen, hij, hjl0⟩ := hcond
      obtain ⟨v, h1, p, qs, rfl, hp', hpq, oo⟩ := R.slot i _ e
      obtain ⟨hpO, hpH⟩ := hid_of hp'
      have hqH : ∀ r ∈ qs, r ∉ O ∧ ∃ us, H r = some (.lst us) := fun r hr => by
        obtain ⟨us, e⟩ := oo.row.mem r hr
        exact ⟨(hid_of e).1, us, (hid_of e).2⟩
      have hq2 : ∀ r ∈ qs, ∃ us, H r = some (.lst us) := fun r hr => (hqH r hr).2
      have hO : ∀ b ∈ O, b ∈ qs ++ O := fun b hb => List.mem_append.mpr (.inr hb)
      have al : ∀ b ∈ qs ++ O, H b ≠ none := fun b hb => by
        rcases List.mem_append.mp hb with hb | hb
        · obtain ⟨us, e⟩ := hq2 b hb
          rw [e]; nofun
        · exact R.alive b hb
      -- own slots lie apart from the rows
      have own0 : ∀ (m : Nat) (s : SL), ((keepFlat ρ).set j none)[m]? = some (some s) → ownS s = true → ∀ p2, σ[m]? = some (some (.ref p2)) → p2 ∈ O := fun m s em os p2 es => by
        obtain ⟨e1, e2, _⟩ := keepj_some em
        obtain ⟨v, h1, h2⟩ := R.slot m s e1
        rw [es] at h1
        cases h1
        cases s with
        | ow ds => obtain ⟨p3, vs, z, b, _⟩ := h2; cases z; exact b
        | dow ds => cases e2
        | mw ds => cases e2
        | og ds => cases e2
        | _ => cases os
      have rows0 : RowsM X.K H (hid (qs ++ O) H) qs dss := by
        have : ∀ (rs : List Addr) (ess : List (List PyData)), Rows X.K (hid O H) rs ess → ess.all (fun ds => decide (ds.length < 1000000) && ds.all noL2) = true → RowsM X.K H (hid (qs ++ O) H) rs ess := fun rs ess r => by
          induction r with
          | nil => exact fun _ => .nil
          | cons e a _ ih =>
            intro h
            rw [List.all_cons, Bool.and_eq_true, Bool.and_eq_true] at h
            exact .cons (hid_of e).2 (hides2 hq2 a h.1.2) (ih h.2)
        exact this _ _ oo.row hall
      have hql : qs.length = dss.length := oo.row.len
      refine ⟨.ref p, h1, p, rfl, ⟨qs.map V.ref, SqL.of hpH⟩, ?_⟩
      refine for_list (xs := qs.map V.ref) (fun k σ' H' => Rep X.K C (qs ++ O) H' σ' ((keepFlat ρ).set j none) ∧ H' p = some (.lst (qs.map V.ref)) ∧ RowsM X.K H' (hid (qs ++ O) H') qs (curr dss d k) ∧ σ'.length = σ.length ∧ ∀ m, m ≠ j → σ'[m]? = σ[m]?) ?_ ?_ ?_ ?_
      · exact ⟨R.flat rfl (fun _ _ => rfl) hO al, hpH, by unfold curr; rw [List.take_zero, List.drop_zero]; exact rows0, rfl, fun _ _ => rfl⟩
      · rintro k σ' H' _ ⟨_, b, _⟩
        exact SqL.of b
      · rintro k x σ' H' hx ⟨R', hp2, rows, hl, hs'⟩
        rw [List.getElem?_map] at hx
        cases eq : qs[k]? with
        | none => rw [eq] at hx; cases hx
        | some r =>
          rw [eq] at hx
          cases hx
          obtain ⟨us, ds, e1, e2, e3⟩ := rows.get eq
          have hk : k < dss.length := by rw [← hql]; exact (List.getElem?_eq_some_iff.mp eq).1
          obtain ⟨c1, c2⟩ := curr_s (d := d) (List.getElem?_eq_getElem hk)
          rw [c1] at e1
          cases e1
          have hrq : r ∈ qs := List.mem_of_getElem? eq
          have hjl : j < σ'.length := by
            rw [hl, R.len]
            exact hjl0
          have R2 : Rep X.K C (qs ++ O) H' (σ'.set j (some (.ref r))) ((keepFlat ρ).set j none) := R'.weak (by rw [List.length_set]; exact R'.len) fun m s em => ⟨em, List.getElem?_set_ne (Ne.symm (keepj_some em).2.2)⟩
          refine ⟨.ref r, List.getElem?_set_self hjl, .inl ⟨rfl, _, SqL.of e2⟩, qs ++ O, _, R2, ?_⟩
          rw [hf]
          refine fun v H2 x2 p2 => ⟨r, us, v, rfl, rfl, x2.ex _ _ e2 rfl, ?_, ?_⟩
          · have := List.all_eq_true.mp hall _ (List.getElem_mem hk)
            rw [Bool.and_eq_true, decide_eq_true_iff] at this
            exact line_lt (by rw [e3.len]; exact this.1)
          · have R3 := (R2.grow x2).mutH (us' := us ++ [v]) (List.mem_append.mpr (.inl hrq)) (oo.new r hrq) (x2.ex _ _ e2 rfl) fun m s em os es => by
              have hm := (keepj_some em).2.2
              rw [List.getElem?_set_ne (Ne.symm hm), hs' m hm] at es
              exact (hqH r hrq).1 (own0 m s em os r es)
            have hrp : p ≠ r := fun z => hpq (by rw [z]; exact hrq)
            refine ⟨R3, by rw [upd_ne hrp]; exact x2.ex _ _ hp2 rfl, ?_, by rw [List.length_set]; exact hl, fun m hm => by rw [List.getElem?_set_ne (Ne.symm hm)]; exact hs' m hm⟩
            have hh : hid (qs ++ O) (upd H2 r (.lst (us ++ [v]))) = hid (qs ++ O) H2 := hid_upd (List.mem_append.mpr (.inl hrq))
            rw [hh, ← c2]
            exact RowsM.set ((DpAll.mono (hid_mono x2) e3).append (.cons p2 .nil)) oo.nd (rows.grow (fun q us h => x2.ex _ _ h rfl) (hid_mono x2)) eq
      · rintro σ' H' ⟨R', hp2, rows, hl, hs'⟩
        have R1 : Rep X.K C O H' σ' ((keepFlat ρ).set j none) := ⟨R'.ex, R'.o0, R.sub, fun b hb => R'.alive b (hO b hb), R'.len, (fun k s em => by
          obtain ⟨_, e2, e3⟩ := keepj_some em
          obtain ⟨v, a1, a2⟩ := R'.slot k s em
          refine ⟨v, a1, ?_⟩
          cases s with
          | fz d => exact flat_any a2 e2
          | ow ds =>
            obtain ⟨p3, vs, rfl, _, b2, b3, b4⟩ := a2
            rw [hs' k e3] at a1
            exact ⟨p3, vs, rfl, own0 k _ em rfl p3 a1, b2, b3, flats_any b4 e2⟩
          | bw ds => obtain ⟨p3, vs, b1, b2, b3, b4⟩ := a2; exact ⟨p3, vs, b1, b2, b3, flats_any b4 e2⟩
          | er n => cases e2
          | mw n => cases e2
          | og n => cases e2
          | oo n => cases e2
          | hd n => cases e2
          | dow n => cases e2
          | dbw n => cases e2), R'.apart⟩
        have hcur : curr dss d dss.length = dss.map (· ++ [d]) := by unfold curr; rw [List.take_length, List.drop_length, List.append_nil]
        have hx : Ex (hid (qs ++ O) H') (hid O H') := hid_sub hO
        have rl : ∀ (rs : List Addr) (ess : List (List PyData)), (∀ r ∈ rs, r ∉ O) → RowsM X.K H' (hid (qs ++ O) H') rs ess → DpAll X.K (hid O H') (rs.map V.ref) (ess.map PyData.list) := fun rs ess hn r => by
          induction r with
          | nil => exact .nil
          | cons e a _ ih => exact .cons (.lst (SqL.of (hid_out (hn _ List.mem_cons_self) e)) (DpAll.mono hx a)) (ih fun r hr => hn r (List.mem_cons_of_mem _ hr))
        rw [List.length_map, hql, hcur] at rows
        have hD : Dp X.K (hid O H') (.ref p) (.list (dss.map fun ds => .list (ds ++ [d]))) := by
          have := rl _ _ (fun r hr => (hqH r hr).1) rows
          rw [List.map_map] at this
          exact .lst (SqL.of (hid_out hpO hp2)) this
        have R2 := R1.set (i := i) hD
        rw [set_self (show σ'[i]? = some (some (.ref p)) by rw [hs' i hij]; exact h1)] at R2
        exact q σ' O H' R2
    · exact q.elim
  · exact q.elim
end
end PL

/-! PLR: own classes: a new instance, a method, each of which may raise; the fields of a Reader. -/
namespace PL
open PySem L2
section
variable {X : Cx} {CX : CXT} {k : Nat} {f C : Addr} {fd : FuncData} {ps : List Str} {sp : Sp} {E : L2.St → XK} {x m : Str}
variable {p pos apos : Pos} {e o : Expr} {es : List Expr} {ta : TE} {t : TA}
/-- what a new instance wants, at whose slots an error may look -/
def tMakeS (C : Addr) (sp : Sp) (E : L2.St → XK) (t : TA) : TE := fun σ H Q => t σ H fun vs H1 => ∀ y dx, H1 y = none → H1 dx = none → dx ≠ y →
  sp (.ref y :: vs) (upd (upd H1 dx (.own y)) y (.ins C dx [])) (fun v H2 => v = .non ∧ Q (.ref y) H2) (E σ)
theorem makeS_run {pins : List (Addr × Obj)} {σ : L2.St} {H : Hp} {s : Shared} {Q : VK} {us : List Value} {vs : List V}
    (M : Mk X.K C f) (F : FnOk X.prog X.w X.K X.mg X.base CX k f fd ps sp) (room : Room (k + 1) X.A) (bi : Binds X.K fd ps [])
    (out : PassesAt CX X σ (E σ)) (I : Inv X pins σ H s) (r : Vals vs us)
    (q : ∀ y dx, H y = none → H dx = none → dx ≠ y → sp (.ref y :: vs) (upd (upd H dx (.own y)) y (.ins C dx [])) (fun v H2 => v = .non ∧ Q (.ref y) H2) (E σ)) :
    wpAny (model X.prog X.w) X.A (call (.ref C) us) (EP X pins σ Q) X.xe s := by
  have free : ∀ n, s.heap.objs.size ≤ n → H n = none := fun n hn => I.hok.fresh hn
  have want := q (s.heap.objs.size + 1) s.heap.objs.size (free _ (Nat.le_succ _)) (free _ (Nat.le_refl _)) (Nat.ne_of_lt (Nat.lt_succ_self _))
  have J := Inv.made (C := C) I
  have rr : Vals (V.ref (s.heap.objs.size + 1) :: vs) (Value.ref (s.heap.objs.size + 1) :: us) := .cons rfl r
  have len : (Value.ref (s.heap.objs.size + 1) :: us).length = ps.length := by
    have z := rr.length
    rw [F.len _ _ _ _ want] at z
    exact z.symm
  have bb := bi _ (Value.ref (s.heap.objs.size + 1) :: us) J.kIn (by rw [List.append_nil]; exact len)
  rw [List.append_nil] at bb
  have ran := F.run _ X.stack _ _ ⟨Value.ref (s.heap.objs.size + 1) :: us, []⟩ (Value.ref (s.heap.objs.size + 1) :: us) _ _ (E σ) (room.make C us [])
    (J.env0.make C us []) bb rr want
  refine wpAny_call (make_map (f := f) I.kIn M.makes M.init (beq_iff_eq.mp M.fn) (codeAny_mono ran fun way s2 hw => ?_))
  cases way with
  | error er => exact out pins _ _ er s2 J hw
  | ok fl =>
    cases fl with
    | ret u =>
      obtain ⟨v, H2, I3, rv, ev, q3⟩ := J.after hw
      subst ev
      exact ⟨rv, ⟨V.ref (s.heap.objs.size + 1), H2, I3, rfl, q3⟩⟩
    | next => exact hw.elim
    | brk => exact hw.elim
    | cont => exact hw.elim
theorem pe_makeS (M : Mk X.K C f) (F : FnOk X.prog X.w X.K X.mg X.base CX k f fd ps sp) (room : Room (k + 1) X.A) (hg : Gl X x) (hm : X.mg x = some (.ref C))
    (bi : Binds X.K fd ps []) (out : ∀ σ, PassesAt CX X σ (E σ)) (ha : PA X (e :: es) t) (hdb : (x == ("__debug__" : Str)) = false := by decide)
    (he : starEach (e :: es) X.env = (false, eval e X.env) :: starEach es X.env := by rfl) (hpl : (backTo pos (starEach es X.env)).any (·.1) = false := by rfl) :
    PE X (.Call (.Name x p) (e :: es) [] pos) (tMakeS C sp E t) := ⟨fun pins s σ H Q I h =>
  wpAny_Call_Name_kw (ld_glob I hg hm (PySem.W.callWith_K (h₀ := X.base) I.ok.mod.kin M.kp (thn (ha.run pos pins s σ H _ I h)
    fun us s1 ⟨vs, H1, I1, r, q⟩ => ⟨I1.kIn, makeS_run M F room bi (out σ) I1 r q⟩) he hpl) hdb)⟩
/-- what a method's call wants -/
def tMethS (C : Addr) (m : Str) (sp : Sp) (E : L2.St → XK) (ta : TE) (t : TA) : TE := fun σ H Q => ta σ H fun v H1 => ∃ a dx fs, v = .ref a ∧
  H1 a = some (.ins C dx fs) ∧ fs.lookup m = none ∧ t σ H1 fun vs H2 => sp (v :: vs) H2 Q (E σ)
theorem pe_methS {pl : Sem Bool} (ho : PE X o ta) (c : Cls X.K C) (hm : Meth X.K C m f) (F : FnOk X.prog X.w X.K X.mg X.base CX k f fd ps sp) (room : Room k X.A)
    (bi : Binds X.K fd ps []) (out : ∀ σ, PassesAt CX X σ (E σ)) (ha : PA X (e :: es) t)
    (hst : starEach (e :: es) X.env = (false, eval e X.env) :: starEach es X.env := by rfl)
    (hpl : (backTo pos (starEach es X.env)).any (·.1) = false := by rfl)
    (ht : eval (.Call (.Attribute o m apos) (e :: es) [] pos) X.env = (do
      let ov ← eval o X.env
      standAt apos.atName
      let (g, first) ← holding [ov] (getMethod ov m pl)
      callWith pos g first (backTo pos (starEach (e :: es) X.env)) (backToKw pos (keywordEach [] X.env))) := by rfl) :
    PE X (.Call (.Attribute o m apos) (e :: es) [] pos) (tMethS C m sp E ta t) := by
  refine ⟨fun pins s σ H Q I h => ?_⟩
  have first := ho.run pins s σ H _ I h
  refine PySem.W.methodCall_KW (pl := pl) (thn first fun u s1 ⟨v, H1, I1, rv, a, dx, fs, ev, ea, l, q⟩ => ?_) ht
  subst ev
  cases (show u = Value.ref a from rv)
  refine getmeth_ok I1 ea c hm l ?_
  refine PySem.W.callWith_K (h₀ := X.base) (first := [.ref a]) I1.ok.mod.kin hm.kp (thn (ha.run pos pins s1 σ H1 _ I1 q) fun us s2 ⟨vs, H2, I2, r, q2⟩ => ⟨I2.kIn, ?_⟩) hst hpl
  exact run_fnS (us := Value.ref a :: us) (vs := V.ref a :: vs) F room bi (out σ) I2 (.cons rfl r) q2
theorem pe_meth0S {pl : Sem Bool} (ho : PE X o ta) (c : Cls X.K C) (hm : Meth X.K C m f) (F : FnOk X.prog X.w X.K X.mg X.base CX k f fd ps sp) (room : Room k X.A)
    (bi : Binds X.K fd ps []) (out : ∀ σ, PassesAt CX X σ (E σ))
    (ht : eval (.Call (.Attribute o m apos) [] [] pos) X.env = (do
      let ov ← eval o X.env
      standAt apos.atName
      let (g, first) ← holding [ov] (getMethod ov m pl)
      callWith pos g first (backTo pos (starEach [] X.env)) (backToKw pos (keywordEach [] X.env))) := by rfl) :
    PE X (.Call (.Attribute o m apos) [] [] pos) (tMethS C m sp E ta tNil) := by
  refine ⟨fun pins s σ H Q I h => ?_⟩
  have first := ho.run pins s σ H _ I h
  refine PySem.W.methodCall_KW (pl := pl) (thn first fun u s1 ⟨v, H1, I1, rv, a, dx, fs, ev, ea, l, q⟩ => ?_) ht
  subst ev
  cases (show u = Value.ref a from rv)
  refine getmeth_ok I1 ea c hm l ?_
  exact PySem.W.callWith_K0 (first := [.ref a]) I1.kIn hm.kp (run_fnS (us := [.ref a]) (vs := [.ref a]) F room bi (out σ) I1 (.cons rfl .nil) q)
end
theorem iteTc {c : Bool} {a b : Prop} (h : c = true) (x : a) : if c = true then a else b := by rw [if_pos h]; exact x
theorem iteFc {c : Bool} {a b : Prop} (h : c = false) (x : b) : if c = true then a else b := by rw [if_neg (by rw [h]; decide)]; exact x
/-! ### the fields of a Reader -/
theorem ne_wb : ¬ (("words" : Str) = "bits") := by decide +kernel
theorem ne_ws : ¬ (("words" : Str) = "signs") := by decide +kernel
theorem ne_bs : ¬ (("bits" : Str) = "signs") := by decide +kernel
def rdF (q1 : Addr) (b : Str) (q2 : Addr) : List (Str × V) := [("words", .ref q1), ("bits", .str b), ("signs", .ref q2)]
theorem lookup_c (f g : Str) (v : V) (r : List (Str × V)) : List.lookup g ((f, v) :: r) = if g = f then some v else r.lookup g := by
  rw [List.lookup_cons]
  by_cases h : g = f
  · rw [if_pos h, beq_iff_eq.mpr h]
  · rw [if_neg h, beq_eq_false_iff_ne.mpr h]
theorem rdF_words (q1 : Addr) (b : Str) (q2 : Addr) : (rdF q1 b q2).lookup ("words" : Str) = some (.ref q1) := by
  unfold rdF
  rw [lookup_c, if_pos rfl]
theorem rdF_bits (q1 : Addr) (b : Str) (q2 : Addr) : (rdF q1 b q2).lookup ("bits" : Str) = some (.str b) := by
  unfold rdF
  rw [lookup_c, if_neg (Ne.symm ne_wb), lookup_c, if_pos rfl]
theorem rdF_signs (q1 : Addr) (b : Str) (q2 : Addr) : (rdF q1 b q2).lookup ("signs" : Str) = some (.ref q2) := by
  unfold rdF
  rw [lookup_c, if_neg (Ne.symm ne_ws), lookup_c, if_neg (Ne.symm ne_bs), lookup_c, if_pos rfl]
theorem rdF_no (q1 : Addr) (b : Str) (q2 : Addr) {m : Str} (h1 : ¬ m = "words") (h2 : ¬ m = "bits") (h3 : ¬ m = "signs") : (rdF q1 b q2).lookup m = none := by
  unfold rdF
  rw [lookup_c, if_neg h1, lookup_c, if_neg h2, lookup_c, if_neg h3]
  rfl
theorem str0 : ("" : Str) = Str.empty := rfl
theorem rdF_two (q1 : Addr) (b : Str) : putF "bits" (.str b) (putF "words" (.ref q1) []) = ([("words", .ref q1), ("bits", .str b)] : List (Str × V)) := by
  show (if ("words" : Str) = "bits" then _ else _ :: putF "bits" (.str b) []) = _
  rw [if_neg ne_wb]
  rfl
theorem rdF_make (q1 : Addr) (b : Str) (q2 : Addr) : putF "signs" (.ref q2) (putF "bits" (.str b) (putF "words" (.ref q1) [])) = rdF q1 b q2 := by
  show putF "signs" (.ref q2) (putF "bits" (.str b) ([("words", .ref q1)] : List (Str × V))) = rdF q1 b q2
  have e1 : putF "bits" (.str b) [(("words" : Str), V.ref q1)] = ([("words", .ref q1), ("bits", .str b)] : List (Str × V)) := by
    show (if ("words" : Str) = "bits" then _ else _ :: putF "bits" (.str b) []) = _
    rw [if_neg ne_wb]
    rfl
  rw [e1]
  show (if ("words" : Str) = "signs" then _ else _ :: (if ("bits" : Str) = "signs" then _ else _ :: putF "signs" (.ref q2) [])) = _
  rw [if_neg ne_ws, if_neg ne_bs]
  rfl
theorem rdF_put (q1 : Addr) (b b' : Str) (q2 : Addr) : putF "bits" (.str b') (rdF q1 b q2) = rdF q1 b' q2 := by
  show (if ("words" : Str) = "bits" then _ else _ :: (if ("bits" : Str) = "bits" then _ else _)) = _
  rw [if_neg ne_wb, if_pos rfl]
  rfl
/-- a Reader at p: its words, the bits held, the signs done -/
structure RdAt (C : Addr) (H : Hp) (p q1 q2 : Addr) (ws : List Str) (b : Str) (ss : List Int) : Prop where
  ob : ∃ dx, H p = some (.ins C dx (rdF q1 b q2))
  wd : H q1 = some (.lst (ws.map V.str))
  sg : H q2 = some (.lst (ss.map V.int))
  ne : q1 ≠ q2
theorem RdAt.mono {C : Addr} {H H' : Hp} {p q1 q2 : Addr} {ws : List Str} {b : Str} {ss : List Int} (x : Ex H H') (R : RdAt C H p q1 q2 ws b ss) : RdAt C H' p q1 q2 ws b ss := by
  obtain ⟨⟨dx, h⟩, h1, h2, h3⟩ := R
  exact ⟨⟨dx, x _ _ h rfl⟩, x _ _ h1 rfl, x _ _ h2 rfl, h3⟩
/-- the class -/
structure RdTxt (K : PySem.W.Frag) (mg : Str → Option Value) (C fI fT fH fD : Addr) : Prop where
  cl : Cls K C
  nW : NoAttr K C "words"
  nB : NoAttr K C "bits"
  nS : NoAttr K C "signs"
  mgC : mg "Reader" = some (.ref C)
  mI : Mk K C fI
  mT : Meth K C "take" fT
  mH : Meth K C "held" fH
  mD : Meth K C "done" fD
end PL

/-! PLS: texts in lists, index, join, repeated texts; extend of a list handed in; two new lists in a list, the first of which changes. -/
namespace PL
open PySem L2
theorem inV_strL (x : Str) (ws : List Str) : inV (.str x) (ws.map V.str) = decide (x ∈ ws) := by
  unfold inV
  rw [List.any_map, Bool.eq_iff_iff, List.any_eq_true, decide_eq_true_iff]
  constructor
  · rintro ⟨y, hy, e⟩
    have : y = x := beq_iff_eq.mp e
    subst this
    exact hy
  · exact fun h => ⟨x, h, beq_iff_eq.mpr rfl⟩
theorem flat_strL (ws : List Str) : (ws.map V.str).all flatV = true := by
  rw [List.all_map, List.all_eq_true]
  intro y _
  rfl
theorem idx_strL {x : Str} {ws : List Str} (h : x ∈ ws) : ∃ z, (ws.map V.str)[ws.findIdx fun y => decide (y = x)]? = some z ∧ eqV z (.str x) = true ∧ ∀ m z', m < (ws.findIdx fun y => decide (y = x)) → (ws.map V.str)[m]? = some z' → eqV z' (.str x) = false := by
  have hl : (ws.findIdx fun y => decide (y = x)) < ws.length := List.findIdx_lt_length_of_exists ⟨x, h, decide_eq_true rfl⟩
  refine ⟨.str ws[ws.findIdx fun y => decide (y = x)], by rw [List.getElem?_map, List.getElem?_eq_getElem hl]; rfl, ?_, fun m z' hm e => ?_⟩
  · have := of_decide_eq_true (List.findIdx_getElem (w := hl))
    exact beq_iff_eq.mpr this
  · have hm2 : m < ws.length := by omega
    rw [List.getElem?_map, List.getElem?_eq_getElem hm2] at e
    cases e
    have := List.not_of_lt_findIdx hm
    exact beq_eq_false_iff_ne.mpr fun z => by rw [z] at this; simp at this
section
variable {X : Cx} {C : PC} {a b : Expr} {f g : VE} {l m : LE} {pos apos cpos : Pos}
/-- x in y, y a list of texts -/
theorem inL_t {K : PySem.W.Frag} {neg : Bool} {σ : L2.St} {H : Hp} {Q : VK} (q : tV K C (eInL neg f l) σ H Q) : tOp (rIn K neg) (tV K C f) (tL K C l) σ H Q := by
  obtain ⟨O, ρ, R, q⟩ := q
  refine ⟨O, ρ, R, (Fin.bind q).imp fun d _ q1 v H1 x1 p1 => ?_⟩
  refine ⟨O, ρ, R.grow x1, ((Fin.bind q1).grow x1).imp fun ds _ q2 p vs H2 x2 s2 al => ?_⟩
  cases d with
  | str x =>
    cases z : allStr ds with
    | none => simp only [z] at q2; exact q2.elim
    | some ss =>
      simp only [z] at q2
      have hv := DpAll.strs al z
      subst hv
      refine ⟨p, _, rfl, .inl s2, by rw [dp_str p1]; rfl, flat_strL ss, ?_⟩
      rw [dp_str p1, inV_strL]
      exact (show ∀ v H', Gx C.T H H' → Dp K (hid O H') v (.bool (if neg = true then !decide (x ∈ ss) else decide (x ∈ ss))) → Q v H' from q2) _ H2 (x1.trans x2) (.bl _)
  | _ => exact q2.elim
theorem v_inL (ha : PE X a (tV X.K C f)) (hb : PE X b (tL X.K C l)) (hm : behindInMarks .In b = false := by rfl) : PE X (.Compare a [.In] [b] pos) (tV X.K C (eInL false f l)) := pe_imp (pe_cmpR op_in_seq ha hb hm) fun σ H Q q => inL_t q
theorem t_inL (ha : PE X a (tV X.K C f)) (hb : PE X b (tL X.K C l)) (hm : behindInMarks .In b = false := by rfl) : PT X (.Compare a [.In] [b] pos) (tT X.K C (bOf (eInL false f l))) := pt_imp (pt_cmpR op_in_seq ha hb hm) fun σ H Q q => inL_t (tT_tV q)
/-- x.index(y) -/
theorem v_index (ha : PE X a (tL X.K C l)) (hb : PE X b (tV X.K C f)) (hs : starEach [b] X.env = (false, eval b X.env) :: starEach [] X.env := by rfl)
    (hbase : attributeBase a "index" X.env (eval a X.env) = eval a X.env := by rfl)
    (hfew : ((backTo cpos (starEach [b] X.env)).all (fun x => !x.1) && (backToKw cpos (keywordEach [] X.env)).all (fun x => x.1.isSome)
      && decide ([b].length + ([] : List Keyword).length + (if ([] : List Keyword).isEmpty then 0 else 1) < 30)) = true := by rfl)
    (hline : (apos.endLine == cpos.line) = true := by rfl) :
    PE X (.Call (.Attribute a "index" apos) [b] [] cpos) (tV X.K C (eIndex l f)) :=
  pe_imp (pe_bm PySem.F.plainAttrs_list PySem.F.slot_list_index PySem.F.type_list_index mt_index ha (pa_cons hb pa_nil hs) hbase hfew hline hs (by rfl)) fun σ H Q ⟨O, ρ, R, q⟩ => by
  refine ⟨O, ρ, R, (Fin.bind q).imp fun ds _ q1 p vs H1 x1 s1 al => ?_⟩
  refine ⟨.inl ⟨rfl, _, s1⟩, O, ρ, R.grow x1, ((Fin.bind q1).grow x1).imp fun d _ q2 v H2 x2 p2 => ?_⟩
  cases d with
  | str x =>
    cases z : allStr ds with
    | none => simp only [z] at q2; exact q2.elim
    | some ss =>
      simp only [z] at q2
      by_cases hx : x ∈ ss
      · rw [if_pos hx] at q2
        have hv := DpAll.strs al z
        subst hv
        obtain ⟨zz, g1, g2, g3⟩ := idx_strL hx
        refine ⟨p, _, v, _, zz, rfl, rfl, ex_l x2.ex s1, by rw [dp_str p2]; rfl, flat_strL ss, g1, by rw [dp_str p2]; exact g2, fun m z' hm e => by rw [dp_str p2]; exact g3 m z' hm e, ?_⟩
        exact (show ∀ v H', Gx C.T H H' → Dp X.K (hid O H') v (.int ((ss.findIdx fun y => decide (y = x) : Nat) : Int)) → Q v H' from q2) _ H2 (x1.trans x2) (.int _)
      · rw [if_neg hx] at q2
        exact q2.elim
  | _ => exact q2.elim
/-- s.join(y) -/
theorem v_join (ha : PE X a (tV X.K C f)) (hb : PE X b (tL X.K C l)) (hs : starEach [b] X.env = [(false, eval b X.env)] := by rfl) (hbase : attributeBase a "join" X.env (eval a X.env) = eval a X.env := by rfl) (hline : (apos.endLine == pos.line) = true := by rfl) :
    PE X (.Call (.Attribute a "join" apos) [b] [] pos) (tV X.K C (eJoin f l)) := pe_imp (pe_join ha hb hs hbase hline) fun σ H Q ⟨O, ρ, R, q⟩ => by
  refine ⟨O, ρ, R, (Fin.bind q).imp fun d _ q1 v H1 x1 p1 => ?_⟩
  cases d with
  | str z =>
    refine ⟨⟨z, dp_str p1⟩, O, ρ, R.grow x1, ((Fin.bind (show Fin C σ H ((l ρ).bind (joinOf z)) _ from q1)).grow x1).imp fun ds _ q2 p vs H2 x2 s2 al => ?_⟩
    unfold joinOf at q2
    cases zz : allStr ds with
    | none => simp only [zz] at q2; exact q2.elim
    | some ss =>
      simp only [zz] at q2
      by_cases hc : (ss.map (·.length)).sum + ss.length * z.length ≤ 1000000
      · rw [if_pos hc] at q2
        have hv := DpAll.strs al zz
        subst hv
        exact ⟨z, p, ss, dp_str p1, rfl, .inl s2, Nat.le_trans hc (by decide), (show ∀ v H', Gx C.T H H' → Dp X.K (hid O H') v (.str (Txt.join z ss)) → Q v H' from q2) _ H2 (x1.trans x2) (.str _)⟩
      · rw [if_neg hc] at q2
        exact q2.elim
  | _ => exact q1.elim
/-- s * k -/
theorem op_repS : OpR X (binaryOp .Mult) (fun x y H Q => ∃ z k, x = .str z ∧ y = .int k ∧ MulOk z k ∧ Q (.str (Txt.mul z k)) H) := by
  intro pins s σ H x y v u Q I rx ry h
  obtain ⟨z, k, rfl, rfl, hz, q⟩ := h
  obtain ⟨t, rfl⟩ := rx
  obtain ⟨t', rfl⟩ := ry
  exact SB.mul hz fun t' tk => ⟨.str (Txt.mul z k), H, I.tok _, ⟨_, rfl⟩, q⟩
theorem mul_ok {z : Str} {k : Int} (h0 : 0 ≤ k) (h1 : k ≤ 1000) (h2 : z.length ≤ 1000) : MulOk z k := by
  refine ⟨?_, fun _ _ => ?_, fun _ _ => ?_⟩
  · rw [Bool.or_eq_false_iff]
    exact ⟨decide_eq_false (by omega), decide_eq_false (by omega)⟩
  · intro hc
    by_cases hk : k = 0
    · omega
    · have : (1000 : Int) ≤ (2 ^ 63 - 1) / k := (Int.le_ediv_iff_mul_le (by omega)).mpr (by omega)
      omega
  · have hm : z.length * k.toNat ≤ 1000 * 1000 := Nat.mul_le_mul h2 (by omega)
    exact decide_eq_false (Nat.not_lt.mpr (line_le (Nat.le_trans hm (by decide))))
theorem d_repS : OpD X (binaryOp .Mult) oRepS := ⟨⟨_, op_repS, fun O H x y d e z Q al h1 h2 hz hq => by
  unfold oRepS at hz
  split at hz
  · split at hz
    · rename_i hc
      cases hz
      exact ⟨_, _, dp_str h1, dp_int h2, mul_ok hc.1 hc.2.1 hc.2.2, hq _ H (Gx.refl H) (.str _)⟩
    · cases hz
  · cases hz⟩, fun d e n h => by
  unfold oRepS at h
  split at h
  · split at h <;> cases h
  · cases h⟩
end
section
variable {X : Cx} {C : PC} {a c : Expr} {f : VE} {l m : LE} {pos p1 apos cpos sp : Pos} {s1 s2 : SE} {bt : BE}
/-- x.extend(e), x a list handed in that is changed -/
theorem s_extM (i : Nat) {y : Str} {np : Pos} (ha : PE X a (tO X.K C l)) (hN : X.N[i]? = some y := by rfl) (hv : Vis X.env.scope y := by first | exact Or.inl rfl | exact Or.inr (Or.inl rfl) | exact Or.inr (Or.inr rfl)) (hd : (y == ("__debug__" : Str)) = false := by decide)
    (hcd : (y == ("__classdict__" : Str)) = false := by decide) (hs : starEach [a] X.env = (false, eval a X.env) :: starEach [] X.env := by rfl)
    (hbase : attributeBase (.Name y np) "extend" X.env (eval (.Name y np) X.env) = eval (.Name y np) X.env := by rfl)
    (hfew : ((backTo cpos (starEach [a] X.env)).all (fun x => !x.1) && (backToKw cpos (keywordEach [] X.env)).all (fun x => x.1.isSome)
      && decide ([a].length + ([] : List Keyword).length + (if ([] : List Keyword).isEmpty then 0 else 1) < 30)) = true := by rfl)
    (hline : (apos.endLine == cpos.line) = true := by rfl) (hsw : swapsWith (.Call (.Attribute (.Name y np) "extend" apos) [a] [] cpos) none pos.line X.env = pure false := by rfl) :
    PS X (.Expr (.Call (.Attribute (.Name y np) "extend" apos) [a] [] cpos) pos) (tS X.K C (sExtM i l)) :=
  ps_imp (ps_expr (pe_bm PySem.F.plainAttrs_list PySem.F.slot_list_extend PySem.F.type_list_extend mt_extend (pe_var (i := i) hN hv hd hcd) (pa_cons ha pa_nil hs) hbase hfew hline hs (by rfl)) hsw) fun D σ H ⟨O, ρ, R, q⟩ => by
  unfold sExtM at q
  split at q
  · rename_i ds hi
    obtain ⟨v, h1, p, vs, rfl, h2, h3, h4, h5⟩ := R.slot i _ hi
    refine ⟨.ref p, h1, .inl ⟨rfl, _, SqL.of h4⟩, O, ρ, R, Post.fin R q fun es _ k b zs H1 x1 hb p1 => ?_⟩
    by_cases hc : ds.length + es.length < 1000000
    · have k2 := k
      simp only [if_pos hc] at k2
      have h4' := x1.ex _ _ h4 rfl
      refine ⟨p, b, vs, zs, rfl, rfl, h4', hb, line_le (by rw [h5.len, p1.len]; omega), ?_⟩
      refine k2 σ O _ ((R.grow x1).putM hi h1 ((DpAll.mono (hid_mono x1) h5).append p1)) ?_
      rw [hid_upd h2]
      exact hid_mono x1
    · have k2 := k
      simp only [if_neg hc] at k2
      exact k2.elim
  · exact q.elim
/-- x = [a new list, another one] -/
theorem s_setG2 {e e2 : Expr} {i : Nat} {y : Str} {pos' : Pos} (hN : X.N.Nodup) (hi : X.N[i]? = some y) (hx : Loc X.env.scope y) (he : PE X e (tF X.K C l)) (he2 : PE X e2 (tF X.K C m)) (hse : starEach [e, e2] X.env = (false, eval e X.env) :: starEach [e2] X.env := by rfl) (hse2 : starEach [e2] X.env = (false, eval e2 X.env) :: starEach [] X.env := by rfl) (hs : swapsWith (.List [e, e2] p1) (some (.Name y pos')) pos.line X.env = pure false := by rfl) (hf : X.fn y = true ∨ X.env.scope.names.lookup y = some .local := by first | exact .inl rfl | exact .inr rfl | assumption) :
    PS X (.Assign [.Name y pos'] (.List [e, e2] p1) pos) (tS X.K C (sSetG2 i l m)) := ps_imp (ps_set hN hi hx (pe_lst (pa_cons he (pa_cons he2 pa_nil hse2) hse)) hs hf) fun D σ H ⟨O, ρ, R, q⟩ => by
  refine ⟨O, ρ, R, Post.fin R q fun ds _ k p vs H1 x1 n h a => ?_⟩
  refine ⟨O, ρ, R.grow x1, Post.fin (R.grow x1) (Post.grow k (hid_mono x1)) fun es _ k2 p2 us H2 x2 n2 h2 a2 => ⟨line_le (by show 2 ≤ 1000000; decide), fun r nr => ?_⟩⟩
  have hp2 : H2 p = some (.lst vs) := x2.ex _ _ h rfl
  have npp : p ≠ p2 := ne_of_none h n2
  have x3 := (x1.trans x2).trans (Gx.new nr (o := .lst [.ref p, .ref p2]))
  have hrp : r ≠ p := fun z => by subst z; rw [hp2] at nr; cases nr
  have hrp2 : r ≠ p2 := fun z => by subst z; rw [h2] at nr; cases nr
  have hpO : p ∉ O := fun z => R.alive p z n
  have hp2O : p2 ∉ O := fun z => (R.grow x1).alive p2 z n2
  have hG : hid (r :: O) (upd H2 r (.lst [.ref p, .ref p2])) p = some (.lst vs) :=
    hid_out (by simp only [List.mem_cons, not_or]; exact ⟨Ne.symm hrp, hpO⟩) (by rw [upd_ne (Ne.symm hrp)]; exact hp2)
  have hG2 : hid (r :: O) (upd H2 r (.lst [.ref p, .ref p2])) p2 = some (.lst us) :=
    hid_out (by simp only [List.mem_cons, not_or]; exact ⟨Ne.symm hrp2, hp2O⟩) (by rw [upd_ne (Ne.symm hrp2)]; exact h2)
  have up : ∀ t, Ex (hid (t :: O) H2) (hid (r :: O) (upd H2 r (.lst [.ref p, .ref p2]))) := fun t b o e _ => by
    obtain ⟨hb, e', hn⟩ := hid_of3 e
    have hbr : b ≠ r := ne_of_none e' nr
    exact hid_out (by simp only [List.mem_cons, not_or]; exact ⟨hbr, fun z => hb (List.mem_cons_of_mem _ z)⟩) (by rw [upd_ne hbr]; exact e') hn
  have nr0 : H r = none := fresh_back (x1.trans x2) nr
  have b2 : C.H0 p2 = none := (R.grow x1).back0 n2
  refine k2 _ (r :: O) _ (R.setOwn (i := i) x3 nr0 (by rw [upd_same]; nofun) ⟨r, [p, p2], rfl, List.mem_cons_self, R.back0 nr0, upd_same, ⟨List.nodup_cons.mpr ⟨fun z => npp (List.mem_singleton.mp z), List.nodup_cons.mpr ⟨List.not_mem_nil, List.nodup_nil⟩⟩, fun q hq => by
    rcases List.mem_cons.mp hq with rfl | hq
    · exact R.back0 n
    · rw [List.mem_singleton.mp hq]; exact b2, .cons hG (DpAll.mono ((hid_mono x2).trans (up p)) a) (.cons hG2 (DpAll.mono (up p2) a2) .nil)⟩⟩) ?_
  exact hid_more (x2.trans (Gx.new nr (o := .lst [.ref p, .ref p2]))) (fresh_back x2 nr)
theorem s_ifW {A B : List Stmt} (hc : PT X c (tT X.K C bt)) (ha : PSs X A (tSW X.K C s1)) (hb : PSs X B (tSW X.K C s2)) : PS X (.If c A B pos) (tSW X.K C (sIf bt s1 s2)) := ps_imp (ps_if hc ha hb) fun D σ H ⟨O, ρ, R, q⟩ => ⟨O, ρ, R, by
  unfold sIf at q
  cases e : bt ρ with
  | ok b =>
    rw [e] at q
    intro H' x
    cases b with
    | true => exact iteT ⟨O, ρ, R.grow x, q⟩
    | false => exact iteF ⟨O, ρ, R.grow x, q⟩
  | exc n => rw [e] at q; exact fun H' x => q σ O H' (R.grow x)
  | stuck => rw [e] at q; exact q⟩
end
section
variable {K : PySem.W.Frag} {C : PC} {O O' : List Addr} {H H' : Hp} {σ : L2.St} {ρ : Env}
/-- the first item of a list changes -/
theorem Rep.hdset (R : Rep K C O H σ ρ) {i : Nat} {p q : Addr} {ds' : List PyData} (hs : σ[i]? = some (some (.ref p))) (hp0 : C.H0 p = none) (sub : ∀ b ∈ O, b ≠ p → b ∈ O') (sup : ∀ b ∈ O', b ∈ O) (np : ∀ (k : Nat) (s : SL), k ≠ i → ρ[k]? = some (some s) → ownS s = true → σ[k]? ≠ some (some (.ref p)))
    (ex : ExM C.T C.M C.H0 H') (same : ∀ b o, b ≠ q → H b = some o → H' b = some o) (hq : q ∉ O) (hd : HdF K C.H0 (hid O' H') (.ref p) ds') : Rep K C O' H' σ ((keepFlat ρ).set i (some (.hd ds'))) := by
  have old : ∀ (k : Nat) (s : SL), ((keepFlat ρ).set i (some (.hd ds')))[k]? = some (some s) → (k = i ∧ s = .hd ds') ∨ (k ≠ i ∧ ρ[k]? = some (some s) ∧ flatS s = true) := fun k s e => by
    by_cases hk : k = i
    · subst hk
      have hl := (List.getElem?_eq_some_iff.mp e).1
      rw [List.length_set] at hl
      rw [List.getElem?_set_self hl] at e
      cases e
      exact .inl ⟨rfl, rfl⟩
    · rw [List.getElem?_set_ne (Ne.symm hk)] at e
      exact .inr ⟨hk, (keep_some e).1, (keep_some e).2⟩
  refine ⟨ex, R.o0, fun b hb => sub b (R.sub b hb) (fun z => R.o0.1 b hb (by rw [z]; exact hp0)), fun b hb e => ?_, by rw [List.length_set]; unfold keepFlat; rw [List.length_map]; exact R.len, fun k s e => ?_, fun k j s t r hkj e1 o1 e2 e3 o3 e4 => ?_⟩
  · have hb' := sup b hb
    cases z : H b with
    | none => exact R.alive b hb' z
    | some o =>
      rw [same b o (fun y => hq (by rw [← y]; exact hb')) z] at e
      cases e
  · rcases old k s e with ⟨rfl, rfl⟩ | ⟨hk, e1, e2⟩
    · exact ⟨.ref p, hs, hd⟩
    · obtain ⟨v, h1, h2⟩ := R.slot k s e1
      refine ⟨v, h1, ?_⟩
      cases s with
      | fz d => exact flat_any h2 e2
      | ow ds =>
        obtain ⟨p2, vs, rfl, b, c, d, f⟩ := h2
        exact ⟨p2, vs, rfl, sub p2 b (fun z => np k _ hk e1 rfl (by rw [h1, z])), c, same p2 _ (fun z => hq (by rw [← z]; exact b)) d, flats_any f e2⟩
      | bw ds => obtain ⟨p2, vs, a, b, c, f⟩ := h2; exact ⟨p2, vs, a, b, c, flats_any f e2⟩
      | _ => cases e2
  · rcases old k s e1 with ⟨rfl, rfl⟩ | ⟨hk, f1, _⟩
    · cases o1
    · rcases old j t e3 with ⟨rfl, rfl⟩ | ⟨hj, f3, _⟩
      · cases o3
      · exact R.apart k j s t r hkj f1 o1 e2 f3 o3 e4
end
theorem at_0 (x : V) (r : List V) : atI (x :: r) 0 = some x := atI_nat (xs := x :: r) (j := 0) rfl
section
variable {X : Cx} {C : PC} {a c : Expr} {f : VE} {d : PyData} {pos apos cpos sp cp : Pos} {j : Nat}
/-- x[0].clear() -/
theorem s_clr0 (i : Nat) {y : Str} {np : Pos} (hN : X.N[i]? = some y := by rfl) (hv : Vis X.env.scope y := by first | exact Or.inl rfl | exact Or.inr (Or.inl rfl) | exact Or.inr (Or.inr rfl)) (hd : (y == ("__debug__" : Str)) = false := by decide)
    (hcd : (y == ("__classdict__" : Str)) = false := by decide) (hix : PlainIx (.Constant (.int 0) j cp) := by intro _ _; rfl)
    (hbase : attributeBase (.Subscript (.Name y np) (.Constant (.int 0) j cp) sp) "clear" X.env (eval (.Subscript (.Name y np) (.Constant (.int 0) j cp) sp) X.env) = eval (.Subscript (.Name y np) (.Constant (.int 0) j cp) sp) X.env := by rfl)
    (hline : (apos.endLine == cpos.line) = true := by rfl) (hsw : swapsWith (.Call (.Attribute (.Subscript (.Name y np) (.Constant (.int 0) j cp) sp) "clear" apos) [] [] cpos) none pos.line X.env = pure false := by rfl) :
    PS X (.Expr (.Call (.Attribute (.Subscript (.Name y np) (.Constant (.int 0) j cp) sp) "clear" apos) [] [] cpos) pos) (tSW X.K C (sClr0 i)) :=
  ps_imp (ps_expr (pe_bm0 PySem.F.plainAttrs_list PySem.F.slot_list_clear PySem.F.type_list_clear mt_clear (pe_ix ix_list (pe_var (i := i) hN hv hd hcd) pe_int hix) hbase hline) hsw) fun D σ H ⟨O, ρ, R, q⟩ => by
  unfold sClr0 at q
  split at q
  · rename_i ds dss hi
    obtain ⟨v, h1, p, qs, rfl, h2, h3, h4, oo⟩ := R.slot i _ hi
    match qs, oo, h4 with
    | q0 :: rest, ⟨nd, new, .cons (us := us) hq0 al _⟩, h4 =>
      obtain ⟨hqO, hqH, _⟩ := hid_of3 hq0
      have npq : p ≠ q0 := fun z => hqO (by rw [← z]; exact h2)
      have n0 := new q0 List.mem_cons_self
      refine ⟨.ref p, h1, p, _, 0, .ref q0, rfl, rfl, SqL.of h4, at_0 _ _, .inl ⟨rfl, _, SqL.of hqH⟩, q0, us, rfl, rfl, hqH, ?_⟩
      have hs0 : ∀ b o, b ≠ q0 → H b = some o → upd H q0 (.lst []) b = some o := fun b o hb e => by rw [upd_ne hb]; exact e
      refine q σ (O.filter fun b => decide (b ≠ p)) _ (R.hdset (q := q0) h1 h3 (fun b hb hn => List.mem_filter.mpr ⟨hb, decide_eq_true hn⟩) (fun b hb => (List.mem_filter.mp hb).1) (fun k s hk e o z => R.apart k i s _ p hk e o z hi rfl h1) (R.ex.put (.inl n0) hqH rfl nofun) hs0 hqO ?_)
      refine ⟨p, q0, rest.map V.ref, [], rfl, hid_out (fun z => of_decide_eq_true (List.mem_filter.mp z).2 rfl) (by rw [upd_ne npq]; exact h4), hid_out (fun z => hqO (List.mem_filter.mp z).1) upd_same, n0, h3, npq, .nil⟩
  · exact q.elim
/-- x[0].append(d) -/
theorem s_app0 (i : Nat) {y : Str} {np : Pos} (hf : ∀ ρ, f ρ = .ok d) (ha : PE X a (tV X.K C f)) (hN : X.N[i]? = some y := by rfl) (hv : Vis X.env.scope y := by first | exact Or.inl rfl | exact Or.inr (Or.inl rfl) | exact Or.inr (Or.inr rfl)) (hd : (y == ("__debug__" : Str)) = false := by decide)
    (hcd : (y == ("__classdict__" : Str)) = false := by decide) (hix : PlainIx (.Constant (.int 0) j cp) := by intro _ _; rfl) (hs : starEach [a] X.env = (false, eval a X.env) :: starEach [] X.env := by rfl)
    (hbase : attributeBase (.Subscript (.Name y np) (.Constant (.int 0) j cp) sp) "append" X.env (eval (.Subscript (.Name y np) (.Constant (.int 0) j cp) sp) X.env) = eval (.Subscript (.Name y np) (.Constant (.int 0) j cp) sp) X.env := by rfl)
    (hfew : ((backTo cpos (starEach [a] X.env)).all (fun x => !x.1) && (backToKw cpos (keywordEach [] X.env)).all (fun x => x.1.isSome)
      && decide ([a].length + ([] : List Keyword).length + (if ([] : List Keyword).isEmpty then 0 else 1) < 30)) = true := by rfl)
    (hline : (apos.endLine == cpos.line) = true := by rfl) (hsw : swapsWith (.Call (.Attribute (.Subscript (.Name y np) (.Constant (.int 0) j cp) sp) "append" apos) [a] [] cpos) none pos.line X.env = pure false := by rfl) :
    PS X (.Expr (.Call (.Attribute (.Subscript (.Name y np) (.Constant (.int 0) j cp) sp) "append" apos) [a] [] cpos) pos) (tSW X.K C (sApp0 i d)) :=
  ps_imp (ps_expr (pe_bm PySem.F.plainAttrs_list PySem.F.slot_list_append PySem.F.type_list_append mt_append (pe_ix ix_list (pe_var (i := i) hN hv hd hcd) pe_int hix) (pa_cons ha pa_nil hs) hbase hfew hline hs (by rfl)) hsw) fun D σ H ⟨O, ρ, R, q⟩ => by
  unfold sApp0 at q
  split at q
  · rename_i ds hi
    split at q
    · rename_i hc
      obtain ⟨v, h1, p, q0, rest, us, rfl, hp, hq, n0, hp0, npq, al⟩ := R.slot i _ hi
      obtain ⟨hpO, hpH⟩ := hid_of hp
      obtain ⟨hqO, hqH⟩ := hid_of hq
      refine ⟨.ref p, h1, p, _, 0, .ref q0, rfl, rfl, SqL.of hpH, at_0 _ _, .inl ⟨rfl, _, SqL.of hqH⟩, O, ρ, R, ?_⟩
      rw [hf]
      intro v H1 x1 p1
      have R1 := R.grow x1
      have hq1 := x1.ex _ _ hqH rfl
      have hp1 := x1.ex _ _ hpH rfl
      refine ⟨q0, us, v, rfl, rfl, hq1, line_lt (by rw [al.len]; exact hc.2.2), ?_⟩
      have hs0 : ∀ b o, b ≠ q0 → H1 b = some o → upd H1 q0 (.lst (us ++ [v])) b = some o := fun b o hb e => by rw [upd_ne hb]; exact e
      refine q σ O _ (R1.hdset (q := q0) h1 hp0 (fun b hb _ => hb) (fun b hb => hb) (fun k s hk e o z => ?_) (R1.ex.put (.inl n0) hq1 rfl nofun) hs0 hqO ?_)
      · obtain ⟨w, w1, w2⟩ := R.slot k s e
        rw [z] at w1
        cases w1
        cases s with
        | ow ds => obtain ⟨p', vs', e, b, _⟩ := w2; cases e; exact hpO b
        | dow ds => obtain ⟨p', vs', e, b, _⟩ := w2; cases e; exact hpO b
        | mw ds => obtain ⟨p', vs', e, b, _⟩ := w2; cases e; exact hpO b
        | og ds => obtain ⟨p', vs', e, b, _⟩ := w2; cases e; exact hpO b
        | _ => cases o
      · exact ⟨p, q0, rest, us ++ [v], rfl, hid_out hpO (by rw [upd_ne npq]; exact hp1), hid_out hqO upd_same, n0, hp0, npq, (flats_any al hc.1).append (.cons (flat_any p1 hc.2.1) .nil)⟩
    · exact q.elim
  · exact q.elim
/-- x[0], a list of which only the first item is known -/
theorem l_hd (i : Nat) {y : Str} {np : Pos} (hN : X.N[i]? = some y := by rfl) (hv : Vis X.env.scope y := by first | exact Or.inl rfl | exact Or.inr (Or.inl rfl) | exact Or.inr (Or.inr rfl)) (hd : (y == ("__debug__" : Str)) = false := by decide)
    (hcd : (y == ("__classdict__" : Str)) = false := by decide) (hix : PlainIx (.Constant (.int 0) j cp) := by intro _ _; rfl) : PE X (.Subscript (.Name y np) (.Constant (.int 0) j cp) sp) (tL X.K C (lHd i)) := pe_imp (pe_ix ix_list (pe_var (i := i) hN hv hd hcd) pe_int hix) fun σ H Q ⟨O, ρ, R, q⟩ => by
  unfold lHd at q
  split at q
  · rename_i ds hi
    obtain ⟨v, h1, p, q0, rest, us, rfl, hp, hq, n0, hp0, npq, al⟩ := R.slot i _ hi
    exact ⟨.ref p, h1, p, _, 0, .ref q0, rfl, rfl, SqL.of (hid_of hp).2, at_0 _ _, q q0 us H (Gx.refl H) (SqL.of (hid_of hq).2) al⟩
  · exact q.elim
end
end PL
namespace PL
open PySem L2
section
variable {X : Cx} {C : PC} {a b : Expr} {f : VE} {l : LE} {pos : Pos}
theorem v_inLN (ha : PE X a (tV X.K C f)) (hb : PE X b (tL X.K C l)) (hm : behindInMarks .NotIn b = false := by rfl) : PE X (.Compare a [.NotIn] [b] pos) (tV X.K C (eInL true f l)) := pe_imp (pe_cmpR op_notIn_seq ha hb hm) fun σ H Q q => inL_t q
theorem t_inLN (ha : PE X a (tV X.K C f)) (hb : PE X b (tL X.K C l)) (hm : behindInMarks .NotIn b = false := by rfl) : PT X (.Compare a [.NotIn] [b] pos) (tT X.K C (bOf (eInL true f l))) := pt_imp (pt_cmpR op_notIn_seq ha hb hm) fun σ H Q q => inL_t (tT_tV q)
end
end PL

/-! PL9: the plain semantics reckoned: lemmas for simp, loops, comprehensions. -/
namespace PL
open PySem L2
section
variable {α : Type} {i j : Nat} {x : Option SL} {r ρ : Env} {d e : PyData} {ds es : List PyData} {f g h : VE} {l m : LE} {b c : BE} {s t : SE} {o : Op2} {kvs : List (List Int × PyData)}
@[simp] theorem eVar_0 : eVar 0 (some (.fz d) :: r) = .ok d := rfl
@[simp] theorem eVar_s : eVar (i + 1) (x :: r) = eVar i r := rfl
@[simp] theorem rVar_0 : rVar 0 (some (.fz d) :: r) = .ok d := rfl
@[simp] theorem rVar_0o : rVar 0 (some (.ow ds) :: r) = .ok (.list ds) := rfl
@[simp] theorem rVar_0b : rVar 0 (some (.bw ds) :: r) = .ok (.list ds) := rfl
@[simp] theorem rVar_s : rVar (i + 1) (x :: r) = rVar i r := rfl
@[simp] theorem lVar_0 : lVar 0 (some (.fz (.list ds)) :: r) = .ok ds := rfl
@[simp] theorem lVar_0o : lVar 0 (some (.ow ds) :: r) = .ok ds := rfl
@[simp] theorem lVar_0b : lVar 0 (some (.bw ds) :: r) = .ok ds := rfl
@[simp] theorem lVar_s : lVar (i + 1) (x :: r) = lVar i r := rfl
@[simp] theorem kVar_0o : kVar 0 (some (.ow ds) :: r) = .ok ds := rfl
@[simp] theorem kVar_s : kVar (i + 1) (x :: r) = kVar i r := rfl
@[simp] theorem sVar_0 : sVar 0 (some (.fz (.list ds)) :: r) = .ok ds := rfl
@[simp] theorem sVar_0b : sVar 0 (some (.bw ds) :: r) = .ok ds := rfl
@[simp] theorem sVar_s : sVar (i + 1) (x :: r) = sVar i r := rfl
@[simp] theorem dVar_0o : dVar 0 (some (.dow kvs) :: r) = .ok kvs := rfl
@[simp] theorem dVar_0b : dVar 0 (some (.dbw kvs) :: r) = .ok kvs := rfl
@[simp] theorem dVar_s : dVar (i + 1) (x :: r) = dVar i r := rfl
@[simp] theorem eC_ap : eC d ρ = .ok d := rfl
@[simp] theorem eOfL_ap : eOfL l ρ = (l ρ).bind fun ds => .ok (.list ds) := rfl
@[simp] theorem lOfV_ok (h : f ρ = .ok (.list ds)) : lOfV f ρ = .ok ds := by unfold lOfV; rw [h]; rfl
@[simp] theorem lOfV_eOfL : lOfV (eOfL l) ρ = l ρ := by unfold lOfV eOfL; cases l ρ <;> rfl
@[simp] theorem eOp_ap : eOp o f g ρ = (f ρ).bind fun x => (g ρ).bind fun y => o x y := rfl
@[simp] theorem oAdd_i {i j : Int} : oAdd (.int i) (.int j) = .ok (.int (i + j)) := rfl
@[simp] theorem oSub_i {i j : Int} : oSub (.int i) (.int j) = .ok (.int (i - j)) := rfl
@[simp] theorem oLt_i {i j : Int} : oLt (.int i) (.int j) = .ok (.bool (decide (i < j))) := rfl
@[simp] theorem oLe_i {i j : Int} : oLe (.int i) (.int j) = .ok (.bool (decide (i ≤ j))) := rfl
@[simp] theorem oGt_i {i j : Int} : oGt (.int i) (.int j) = .ok (.bool (decide (j < i))) := rfl
@[simp] theorem oGe_i {i j : Int} : oGe (.int i) (.int j) = .ok (.bool (decide (j ≤ i))) := rfl
theorem oMul_l {i j : Int} (h : -(2 ^ 64) < i ∧ i < 2 ^ 64) : oMul (.int i) (.int j) = .ok (.int (i * j)) := by
  show (if (smallI i || smallI j) = true then Out.ok (PyData.int (i * j)) else .stuck) = _
  rw [if_pos (by rw [show smallI i = true from decide_eq_true h]; rfl)]
theorem oMul_r {i j : Int} (h : -(2 ^ 64) < j ∧ j < 2 ^ 64) : oMul (.int i) (.int j) = .ok (.int (i * j)) := by
  show (if (smallI i || smallI j) = true then Out.ok (PyData.int (i * j)) else .stuck) = _
  rw [if_pos (by rw [show smallI j = true from decide_eq_true h, Bool.or_true])]
theorem oFdiv_i {i j : Int} (h : 0 < j ∧ j < 1073741824) : oFdiv (.int i) (.int j) = .ok (.int (i / j)) := by
  exact if_pos h
theorem oMod_i {i j : Int} (h : 0 < j) : oMod (.int i) (.int j) = .ok (.int (i % j)) := by
  exact if_pos h
@[simp] theorem shaped_int {i : Int} : SeqAt.shaped (.int i) = true := by
  simp [SeqAt.shaped, PyData.canLay0, PyData.depth]
@[simp] theorem shaped_bool {i : Bool} : SeqAt.shaped (.bool i) = true := by
  simp [SeqAt.shaped, PyData.canLay0, PyData.depth]
theorem shaped_str {i : Str} (h : PyData.strOk i = true) : SeqAt.shaped (.str i) = true := by
  simp [SeqAt.shaped, PyData.canLay0, PyData.depth, h]
@[simp] theorem shaped_none : SeqAt.shaped .none = true := by
  simp [SeqAt.shaped, PyData.canLay0, PyData.depth]
theorem eqv_int {i j : Int} : PyData.eqv (.int i) (.int j) = decide (i = j) := by
  simp [PyData.eqv, Bool.beq_eq_decide_eq]
@[simp] theorem oEq_i {i j : Int} : oEq (.int i) (.int j) = .ok (.bool (decide (i = j))) := by
  unfold oEq
  rw [shaped_int, shaped_int, eqv_int]
  rfl
@[simp] theorem oNe_i {i j : Int} : oNe (.int i) (.int j) = .ok (.bool (!decide (i = j))) := by
  unfold oNe
  rw [shaped_int, shaped_int, eqv_int]
  rfl
@[simp] theorem eIsN_ap : eIsN f ρ = (f ρ).bind fun d => .ok (.bool (isN d)) := rfl
@[simp] theorem eNotN_ap : eNotN f ρ = (f ρ).bind fun d => .ok (.bool (!isN d)) := rfl
@[simp] theorem isN_n : isN .none = true := rfl
@[simp] theorem isN_i {i : Int} : isN (.int i) = false := rfl
@[simp] theorem isN_b {i : Bool} : isN (.bool i) = false := rfl
@[simp] theorem isN_s {i : Str} : isN (.str i) = false := rfl
@[simp] theorem isN_t {ds : List PyData} : isN (.tuple ds) = false := rfl
@[simp] theorem isN_l {ds : List PyData} : isN (.list ds) = false := rfl
@[simp] theorem eNeg_ok {i : Int} (h : f ρ = .ok (.int i)) : eNeg f ρ = .ok (.int (-i)) := by unfold eNeg; rw [h]; rfl
@[simp] theorem bOf_ap (f : VE) (ρ : Env) : bOf f ρ = (f ρ).bind fun d => match d with
  | .bool b => .ok b
  | _ => .stuck := rfl
@[simp] theorem bAnd_ap : bAnd b c ρ = (b ρ).bind fun x => if x then c ρ else .ok false := rfl
@[simp] theorem bOr_ap : bOr b c ρ = (b ρ).bind fun x => if x then .ok true else c ρ := rfl
@[simp] theorem bNot_ap : bNot b ρ = (b ρ).bind fun x => .ok (!x) := rfl
@[simp] theorem bYes_ap : bYes ρ = .ok true := rfl
@[simp] theorem eOfB_ap : eOfB b ρ = (b ρ).bind fun b => .ok (.bool b) := rfl
@[simp] theorem aAll_nil : aAll [] ρ = .ok [] := rfl
@[simp] theorem aAll_cons {fs : List VE} : aAll (f :: fs) ρ = (f ρ).bind fun x => (aAll fs ρ).bind fun xs => .ok (x :: xs) := rfl
@[simp] theorem eTup_ap {fs : List VE} : eTup fs ρ = (aAll fs ρ).bind fun xs => .ok (.tuple xs) := rfl
@[simp] theorem lLst_ap {fs : List VE} : lLst fs ρ = aAll fs ρ := rfl
@[simp] theorem oNo_ap : oNo ρ = .ok none := rfl
@[simp] theorem oPart_ok {i : Int} (h : f ρ = .ok (.int i)) : oPart f ρ = .ok (some i) := by unfold oPart; rw [h]; rfl
@[simp] theorem lSl_ap {p q : OE} : lSl l p q ρ = (l ρ).bind fun ds => (p ρ).bind fun a => (q ρ).bind fun b => .ok (cutD ds a b) := rfl
@[simp] theorem eLenV_ap : eLenV f ρ = (f ρ).bind lenOf := rfl
@[simp] theorem lenOf_l : lenOf (.list ds) = .ok (.int ds.length) := rfl
@[simp] theorem lenOf_t : lenOf (.tuple ds) = .ok (.int ds.length) := rfl
theorem lenOf_s {z : Str} (h : z.length ≤ 1000000) : lenOf (.str z) = .ok (.int z.length) := if_pos h
@[simp] theorem rNil_ap : rNil ρ = .ok [] := rfl
@[simp] theorem rV_ap {a : AE} : rV f a ρ = (f ρ).bind fun d => (a ρ).bind fun ss => .ok (.fz d :: ss) := rfl
@[simp] theorem rL_ap {a : AE} : rL l a ρ = (l ρ).bind fun d => (a ρ).bind fun ss => .ok (.bw d :: ss) := rfl
@[simp] theorem rD_ap {a : AE} : rD i a ρ = (dVar i ρ).bind fun d => (a ρ).bind fun ss => .ok (.dbw d :: ss) := rfl
@[simp] theorem xCall_ap {a : AE} {F : FN} : xCall F a ρ = (a ρ).bind F := eq_of_heq (HEq.refl _)
@[simp] theorem eX_val {a : XE} (h : a ρ = .ok (.val d)) : eX a ρ = .ok d := by unfold eX; rw [h]; rfl
@[simp] theorem eX_fresh {a : XE} (h : a ρ = .ok (.fresh ds)) : eX a ρ = .ok (.list ds) := by unfold eX; rw [h]; rfl
@[simp] theorem eX_exc {a : XE} {n : String} (h : a ρ = .exc n) : eX a ρ = .exc n := by unfold eX; rw [h]; rfl
@[simp] theorem lX_fresh {a : XE} (h : a ρ = .ok (.fresh ds)) : lX a ρ = .ok ds := by unfold lX; rw [h]; rfl
@[simp] theorem lX_exc {a : XE} {n : String} (h : a ρ = .exc n) : lX a ρ = .exc n := by unfold lX; rw [h]; rfl
@[simp] theorem eSum_ok {ns : List Int} (h : l ρ = .ok ds) (h2 : asInts ds = some ns) : eSum l ρ = .ok (.int ns.sum) := by unfold eSum; rw [h]; simp only [Out.bind_ok, h2]
@[simp] theorem sNext_ap : sNext ρ = .nx ρ := rfl
@[simp] theorem sBrk_ap : sBrk ρ = .bk ρ := rfl
@[simp] theorem sCont_ap : sCont ρ = .ct ρ := rfl
@[simp] theorem sSeq_ap : sSeq s t ρ = (s ρ).then t := rfl
@[simp] theorem sSet_ap : sSet i f ρ = wOut (f ρ) ρ fun d => .nx (ρ.set i (some (.fz d))) := rfl
@[simp] theorem sSetL_ap : sSetL i l ρ = wOut (l ρ) ρ fun ds => .nx (ρ.set i (some (.ow ds))) := rfl
@[simp] theorem sSetX_ap {a : XE} : sSetX i a ρ = wOut (a ρ) ρ fun r => .nx (ρ.set i (some (slotOf r))) := rfl
@[simp] theorem slotOf_v : slotOf (.val d) = .fz d := rfl
@[simp] theorem slotOf_f : slotOf (.fresh ds) = .ow ds := rfl
@[simp] theorem slotOf_d : slotOf (.dfresh kvs) = .dow kvs := rfl
@[simp] theorem sSetD_ap : sSetD i ρ = .nx (ρ.set i (some (.dow []))) := rfl
@[simp] theorem sDrop_ap : sDrop f ρ = wOut (f ρ) ρ fun _ => .nx ρ := rfl
@[simp] theorem sDropX_ap {a : XE} : sDropX a ρ = wOut (a ρ) ρ fun _ => .nx ρ := rfl
@[simp] theorem sIf_ap : sIf b s t ρ = wOut (b ρ) ρ fun x => if x then s ρ else t ρ := rfl
@[simp] theorem sRet_ap : sRet f ρ = wOut (f ρ) ρ fun d => .rt (.val d) ρ := rfl
@[simp] theorem sRetL_ap : sRetL l ρ = wOut (l ρ) ρ fun ds => .rt (.fresh ds) ρ := rfl
@[simp] theorem sRetX_ap {a : XE} : sRetX a ρ = wOut (a ρ) ρ fun r => .rt r ρ := rfl
@[simp] theorem sRaise_ap {n : String} : sRaise n ρ = .ex n ρ := rfl
@[simp] theorem sFrz_ap : sFrz i s ρ = s (frzE i ρ) := rfl
@[simp] theorem frzE_0 {t : SL} : frzE 0 (some t :: r) = some (frzS t) :: r := rfl
@[simp] theorem frzE_s : frzE (i + 1) (x :: r) = x :: frzE i r := by
  unfold frzE
  rw [List.getElem?_cons_succ]
  cases r[i]? with
  | none => rfl
  | some y => cases y <;> rfl
@[simp] theorem frzS_o : frzS (.ow ds) = .fz (.list ds) := rfl
@[simp] theorem frzS_f : frzS (.fz d) = .fz d := rfl
@[simp] theorem frzS_b : frzS (.bw ds) = .bw ds := rfl
@[simp] theorem sWipe_ap {ws : List Nat} : sWipe ws s ρ = s (wp ws ρ) := rfl
@[simp] theorem wp_nil : wp [] ρ = ρ := rfl
@[simp] theorem wp_cons {v : Nat} {vs : List Nat} : wp (v :: vs) ρ = (wp vs ρ).set v none := rfl
@[simp] theorem tgN_ap : tgN i d ρ = some (ρ.set i (some (.fz d))) := rfl
@[simp] theorem tgP_ap {d e : PyData} : tgP i j (.tuple [d, e]) ρ = some ((ρ.set i (some (.fz d))).set j (some (.fz e))) := rfl
@[simp] theorem sFor_ap {w : LE} {tg : TGT} {ws : List Nat} : sFor w tg ws s ρ = wOut (w ρ) ρ fun ds => forGo tg ws s ds ρ := rfl
@[simp] theorem wRange1_ok {n : Int} (h : f ρ = .ok (.int n)) (h2 : -(2 ^ 61) ≤ n ∧ n < 2 ^ 61) : wRange1 f ρ = .ok (rngD 0 n.toNat 1) := by
  unfold wRange1
  rw [h]
  exact if_pos (decide_eq_true h2)
@[simp] theorem wRange2_ok {n m : Int} (h : f ρ = .ok (.int n)) (h' : g ρ = .ok (.int m)) (h2 : -(2 ^ 61) ≤ n ∧ n < 2 ^ 61) (h3 : -(2 ^ 61) ≤ m ∧ m < 2 ^ 61) : wRange2 f g ρ = .ok (rngD n (m - n).toNat 1) := by
  unfold wRange2
  rw [h, h']
  exact if_pos (by rw [show okR n = true from decide_eq_true h2, show okR m = true from decide_eq_true h3]; rfl)
@[simp] theorem eDGet_ap {fs : List VE} : eDGet i fs ρ = (dVar i ρ).bind fun kvs => (aAll fs ρ).bind fun ks => match asInts ks with
  | some ks => match dGet kvs ks with
    | some d => .ok d
    | none => .stuck
  | none => .stuck := rfl
@[simp] theorem eDLen_ap : eDLen i ρ = (dVar i ρ).bind fun kvs => .ok (.int kvs.length) := rfl
@[simp] theorem eDIs_ap : eDIs i ρ = (dVar i ρ).bind fun _ => .ok (.bool true) := rfl
@[simp] theorem sRetO_0 : sRetO 0 (some (.ow ds) :: r) = .rt (.fresh ds) (some (.ow ds) :: r) := rfl
theorem eIsI_ok {T : String} {x : Bool} (h : f ρ = .ok d) (h2 : kitB (tyName d) T = some x) : eIsI f T ρ = .ok (.bool x) := by
  unfold eIsI
  rw [h]
  simp only [Out.bind_ok, h2]
end
theorem eIx_ok {l : LE} {i : VE} {ρ : Env} {ds : List PyData} {k : Int} {d : PyData} (h : l ρ = .ok ds) (h2 : i ρ = .ok (.int k)) (h3 : atI ds k = some d) : eIx l i ρ = .ok d := by
  unfold eIx
  rw [h]
  simp only [Out.bind_ok, h2, h3]
theorem eIxT_ok {l : VE} {i : VE} {ρ : Env} {ds : List PyData} {k : Int} {d : PyData} (h : l ρ = .ok (.tuple ds)) (h2 : i ρ = .ok (.int k)) (h3 : atI ds k = some d) : eIxT l i ρ = .ok d := by
  unfold eIxT
  rw [h]
  simp only [Out.bind_ok, h2, h3]
theorem atI_ints {ns : List Int} {k : Nat} (h : k < ns.length) : atI (ns.map PyData.int) (k : Int) = some (.int ns[k]) := atI_nat (by rw [List.getElem?_map, List.getElem?_eq_getElem h]; rfl)
theorem atI_intsZ {ns : List Int} {k : Int} (h0 : 0 ≤ k) (h : k < ns.length) : atI (ns.map PyData.int) k = some (.int (ns.getD k.toNat 0)) := by
  have hk : k.toNat < ns.length := by omega
  have e := atI_ints hk
  rw [show ((k.toNat : Nat) : Int) = k from by omega] at e
  rw [e, List.getD_eq_getElem?_getD, List.getElem?_eq_getElem hk]
  rfl
/-! ### int, bool ..: isinstance -/
def isInt : PyData → Bool
  | .int _ => true
  | .bool _ => true
  | _ => false
def isBool : PyData → Bool
  | .bool _ => true
  | _ => false
theorem kit_int : ∀ d : PyData, (∀ kvs, d ≠ .dict kvs) → kitB (tyName d) "int" = some (isInt d)
  | .none, _ => by decide +kernel
  | .bool _, _ => by show kitB "bool" "int" = some true; decide +kernel
  | .int _, _ => by show kitB "int" "int" = some true; decide +kernel
  | .str _, _ => by show kitB "str" "int" = some false; decide +kernel
  | .list _, _ => by show kitB "list" "int" = some false; decide +kernel
  | .tuple _, _ => by show kitB "tuple" "int" = some false; decide +kernel
  | .dict kvs, h => absurd rfl (h kvs)
theorem kit_bool : ∀ d : PyData, (∀ kvs, d ≠ .dict kvs) → kitB (tyName d) "bool" = some (isBool d)
  | .none, _ => by decide +kernel
  | .bool _, _ => by show kitB "bool" "bool" = some true; decide +kernel
  | .int _, _ => by show kitB "int" "bool" = some false; decide +kernel
  | .str _, _ => by show kitB "str" "bool" = some false; decide +kernel
  | .list _, _ => by show kitB "list" "bool" = some false; decide +kernel
  | .tuple _, _ => by show kitB "tuple" "bool" = some false; decide +kernel
  | .dict kvs, h => absurd rfl (h kvs)
/-! ### loops -/
/-- one turn -/
def turn (tg : TGT) (ws : List Nat) (body : SE) (d : PyData) (ρ : Env) : SO := match tg d ρ with
  | none => .stuck
  | some ρ1 => match body ρ1 with
    | .nx ρ2 => .nx (wp ws ρ2)
    | .ct ρ2 => .nx (wp ws ρ2)
    | .bk ρ2 => .bk (wp ws ρ2)
    | .rt x ρ2 => .rt x ρ2
    | .ex n ρ2 => .ex n ρ2
    | .stuck => .stuck
section
variable {tg : TGT} {ws : List Nat} {body : SE} {ρ : Env}
@[simp] theorem forGo_nil : forGo tg ws body [] ρ = .nx ρ := rfl
theorem forGo_cons (d : PyData) (r : List PyData) : forGo tg ws body (d :: r) ρ = match turn tg ws body d ρ with
    | .nx ρ' => forGo tg ws body r ρ'
    | .bk ρ' => .nx ρ'
    | o => o := by
  conv => lhs; unfold forGo
  unfold turn
  cases tg d ρ with
  | none => rfl
  | some ρ1 => dsimp only; cases body ρ1 <;> rfl
theorem turn_nx {d : PyData} {ρ ρ1 ρ2 : Env} (h1 : tg d ρ = some ρ1) (h2 : body ρ1 = .nx ρ2) : turn tg ws body d ρ = .nx (wp ws ρ2) := by
  unfold turn
  rw [h1]
  dsimp only
  rw [h2]
theorem turn_rt {d : PyData} {ρ ρ1 ρ2 : Env} {r : RV} (h1 : tg d ρ = some ρ1) (h2 : body ρ1 = .rt r ρ2) : turn tg ws body d ρ = .rt r ρ2 := by
  unfold turn
  rw [h1]
  dsimp only
  rw [h2]
theorem turn_ex {d : PyData} {ρ ρ1 ρ2 : Env} {r : String} (h1 : tg d ρ = some ρ1) (h2 : body ρ1 = .ex r ρ2) : turn tg ws body d ρ = .ex r ρ2 := by
  unfold turn
  rw [h1]
  dsimp only
  rw [h2]
/-- a loop that goes to its end: what holds behind the items taken so far -/
theorem forGo_inv (I : List PyData → Env → Prop) (ds : List PyData) (h0 : I [] ρ) (hs : ∀ pre d post ρ, ds = pre ++ d :: post → I pre ρ → ∃ ρ', turn tg ws body d ρ = .nx ρ' ∧ I (pre ++ [d]) ρ') : ∃ ρ', forGo tg ws body ds ρ = .nx ρ' ∧ I ds ρ' := by
  have key : ∀ (rest pre : List PyData) (ρ : Env), ds = pre ++ rest → I pre ρ → ∃ ρ', forGo tg ws body rest ρ = .nx ρ' ∧ I ds ρ' := by
    intro rest
    induction rest with
    | nil => intro pre ρ e i; rw [List.append_nil] at e; subst e; exact ⟨ρ, rfl, i⟩
    | cons d r ih =>
      intro pre ρ e i
      obtain ⟨ρ1, h1, h2⟩ := hs pre d r ρ e i
      obtain ⟨ρ2, h3, h4⟩ := ih (pre ++ [d]) ρ1 (by rw [e, List.append_assoc]; rfl) h2
      exact ⟨ρ2, by rw [forGo_cons, h1]; exact h3, h4⟩
  exact key ds [] ρ rfl h0
/-- .. whose state is a fold -/
theorem forGo_fold {α : Type} (mk : α → Env) (step : α → PyData → α) (ds : List PyData) (a : α) (hs : ∀ a, ∀ d ∈ ds, turn tg ws body d (mk a) = .nx (mk (step a d))) : forGo tg ws body ds (mk a) = .nx (mk (ds.foldl step a)) := by
  induction ds generalizing a with
  | nil => rfl
  | cons d r ih =>
    rw [forGo_cons, hs a d List.mem_cons_self]
    exact ih (step a d) fun a d hd => hs a d (List.mem_cons_of_mem _ hd)
/-- a loop that looks for something and keeps nothing -/
theorem forGo_find (t : PyData → Bool) (o : PyData → SO) (ho : ∀ d ρ', o d ≠ .nx ρ' ∧ o d ≠ .bk ρ') (ds : List PyData) (hs : ∀ d ∈ ds, turn tg ws body d ρ = if t d then o d else .nx ρ) : forGo tg ws body ds ρ = match ds.find? t with
    | some d => o d
    | none => .nx ρ := by
  induction ds with
  | nil => rfl
  | cons d r ih =>
    rw [forGo_cons, hs d List.mem_cons_self, List.find?_cons]
    cases t d with
    | true =>
      rw [if_pos rfl]
      have h1 := ho d
      cases e : o d with
      | nx ρ' => exact absurd e (h1 ρ').1
      | bk ρ' => exact absurd e (h1 ρ').2
      | ct ρ' => simp only [e]
      | rt x ρ' => simp only [e]
      | ex x ρ' => simp only [e]
      | stuck => simp only [e]
    | false =>
      rw [if_neg Bool.false_ne_true]
      exact ih fun d hd => hs d (List.mem_cons_of_mem _ hd)
theorem forGo_pass (ds : List PyData) (hs : ∀ d ∈ ds, turn tg ws body d ρ = .nx ρ) : forGo tg ws body ds ρ = .nx ρ := by
  induction ds with
  | nil => rfl
  | cons d r ih =>
    rw [forGo_cons, hs d List.mem_cons_self]
    exact ih fun d hd => hs d (List.mem_cons_of_mem _ hd)
end
/-! ### comprehensions -/
section
variable {tg : TGT} {ws : List Nat} {tt : BE} {el : VE} {ρ : Env} {w : LE}
theorem lcGo_map (f : PyData → PyData) (ds : List PyData) (h : ∀ d ∈ ds, ∃ ρ1, tg d ρ = some ρ1 ∧ tt ρ1 = .ok true ∧ el ρ1 = .ok (f d)) : lcGo tg tt el ρ ds = .ok (ds.map f) := by
  induction ds with
  | nil => rfl
  | cons d r ih =>
    obtain ⟨ρ1, h1, h2, h3⟩ := h d List.mem_cons_self
    unfold lcGo
    rw [h1]
    simp only [h2, h3, Out.bind_ok, if_true, ih fun d hd => h d (List.mem_cons_of_mem _ hd), List.map_cons]
theorem lcGo_filter (p : PyData → Bool) (f : PyData → PyData) (ds : List PyData) (h : ∀ d ∈ ds, ∃ ρ1, tg d ρ = some ρ1 ∧ tt ρ1 = .ok (p d) ∧ (p d = true → el ρ1 = .ok (f d))) : lcGo tg tt el ρ ds = .ok ((ds.filter p).map f) := by
  induction ds with
  | nil => rfl
  | cons d r ih =>
    obtain ⟨ρ1, h1, h2, h3⟩ := h d List.mem_cons_self
    have ih' := ih fun d hd => h d (List.mem_cons_of_mem _ hd)
    unfold lcGo
    rw [h1]
    simp only [h2, Out.bind_ok]
    cases e : p d with
    | true => rw [if_pos rfl, h3 e, List.filter_cons, if_pos e]; simp only [Out.bind_ok, ih', List.map_cons]
    | false => rw [if_neg Bool.false_ne_true, ih', List.filter_cons, if_neg (by rw [e]; exact Bool.false_ne_true)]
theorem lComp_map (f : PyData → PyData) {ds : List PyData} (hw : w ρ = .ok ds) (hl : ds.length < 1000000) (h : ∀ d ∈ ds, ∃ ρ1, tg d (wp ws ρ) = some ρ1 ∧ tt ρ1 = .ok true ∧ el ρ1 = .ok (f d)) : lComp w tg ws tt el ρ = .ok (ds.map f) := by
  unfold lComp
  rw [hw]
  simp only [Out.bind_ok]
  rw [if_pos hl, lcGo_map f ds h]
  rfl
theorem lComp_filter (p : PyData → Bool) (f : PyData → PyData) {ds : List PyData} (hw : w ρ = .ok ds) (hl : ds.length < 1000000) (h : ∀ d ∈ ds, ∃ ρ1, tg d (wp ws ρ) = some ρ1 ∧ tt ρ1 = .ok (p d) ∧ (p d = true → el ρ1 = .ok (f d))) : lComp w tg ws tt el ρ = .ok ((ds.filter p).map f) := by
  unfold lComp
  rw [hw]
  simp only [Out.bind_ok]
  rw [if_pos hl, lcGo_filter p f ds h]
  rfl
end
/-! ### lists of ints -/
abbrev DI (ns : List Int) : List PyData := ns.map PyData.int
@[simp] theorem asInts_DI : ∀ ns : List Int, asInts (ns.map PyData.int) = some ns
  | [] => rfl
  | n :: r => by
    have ih := asInts_DI r
    unfold asInts at ih ⊢
    rw [List.map_cons, List.mapM_cons, ih]
    rfl
@[simp] theorem asInts_nil : asInts [] = some [] := rfl
@[simp] theorem asInts_cons (i : Int) (r : List PyData) : asInts (.int i :: r) = (asInts r).map (i :: ·) := by
  unfold asInts
  rw [List.mapM_cons]
  cases List.mapM (fun d => match d with
    | PyData.int i => some i
    | x => none) r <;> rfl
theorem asInts_some : ∀ {ds : List PyData} {ns : List Int}, asInts ds = some ns → ds = ns.map PyData.int
  | [], ns, e => by
    have : ns = [] := by simpa [asInts] using e.symm
    subst this; rfl
  | d :: ds, ns, e => by
    unfold asInts at e
    rw [List.mapM_cons] at e
    cases d with
    | int i =>
      cases q : asInts ds with
      | none =>
        unfold asInts at q
        rw [q] at e
        simp at e
      | some ms =>
        have ih := asInts_some q
        unfold asInts at q
        rw [q] at e
        have e' : i :: ms = ns := by simpa using e
        subst e'
        rw [ih, List.map_cons]
    | _ => simp at e
theorem rng_map (n : Nat) : rngD 0 n 1 = (List.range n).map fun k => PyData.int ((k : Nat) : Int) := by
  unfold rngD
  congr 1
  funext k
  congr 1
  omega
theorem canLay_ints : ∀ ns : List Int, PyData.canLayAll0 (ns.map PyData.int) = true
  | [] => by simp [PyData.canLayAll0]
  | n :: r => by simp [PyData.canLayAll0, PyData.canLay0, canLay_ints r]
theorem depth_ints : ∀ ns : List Int, PyData.depthAll (ns.map PyData.int) ≤ 1
  | [] => by simp [PyData.depthAll]
  | n :: r => by
    have := depth_ints r
    simp only [List.map_cons, PyData.depthAll, PyData.depth]
    omega
@[simp] theorem shaped_ints (ns : List Int) : SeqAt.shaped (.list (ns.map PyData.int)) = true := by
  have := depth_ints ns
  simp [SeqAt.shaped, PyData.canLay0, canLay_ints, PyData.depth]
  omega
theorem eqv_ints : ∀ a b : List Int, PyData.eqvAll (a.map PyData.int) (b.map PyData.int) = decide (a = b)
  | [], [] => by simp [PyData.eqvAll]
  | [], _ :: _ => by simp [PyData.eqvAll]
  | _ :: _, [] => by simp [PyData.eqvAll]
  | x :: r, y :: s => by
    simp only [List.map_cons, PyData.eqvAll, eqv_ints r s, eqv_int]
    rw [← Bool.decide_and]
    congr 1
    simp
@[simp] theorem oEq_ints (a b : List Int) : oEq (.list (a.map PyData.int)) (.list (b.map PyData.int)) = .ok (.bool (decide (a = b))) := by
  unfold oEq
  rw [shaped_ints, shaped_ints]
  simp only [PyData.eqv, eqv_ints]
  rfl
@[simp] theorem oNe_ints (a b : List Int) : oNe (.list (a.map PyData.int)) (.list (b.map PyData.int)) = .ok (.bool (!decide (a = b))) := by
  unfold oNe
  rw [shaped_ints, shaped_ints]
  simp only [PyData.eqv, eqv_ints]
  rfl
/-! ### a def's end -/
theorem runF_rt {p N : Nat} {g : SE} (ρ0 : Env) {args : List SL} {r : RV} {ρ' : Env} (hl : args.length = p) (he : args.map some ++ List.replicate (N - p) none = ρ0) (h : g ρ0 = .rt r ρ') : runF p N g args = .ok r := by
  unfold runF
  rw [if_pos hl, he, h]
theorem runF_nx {p N : Nat} {g : SE} (ρ0 : Env) {args : List SL} {ρ' : Env} (hl : args.length = p) (he : args.map some ++ List.replicate (N - p) none = ρ0) (h : g ρ0 = .nx ρ') : runF p N g args = .ok (.val .none) := by
  unfold runF
  rw [if_pos hl, he, h]
theorem runF_ex {p N : Nat} {g : SE} (ρ0 : Env) {args : List SL} {n : String} {ρ' : Env} (hl : args.length = p) (he : args.map some ++ List.replicate (N - p) none = ρ0) (h : g ρ0 = .ex n ρ') : runF p N g args = .exc n := by
  unfold runF
  rw [if_pos hl, he, h]
theorem seq_nx {a b : SE} {ρ ρ' : Env} (h : a ρ = .nx ρ') : sSeq a b ρ = b ρ' := by
  unfold sSeq
  rw [h]
  rfl
theorem for_of {w : LE} {tg : TGT} {ws : List Nat} {body : SE} {ρ : Env} {ds : List PyData} (h : w ρ = .ok ds) : sFor w tg ws body ρ = forGo tg ws body ds ρ := by
  unfold sFor
  rw [h]
  rfl
/-! ### slices -/
theorem sIxN (l d n : Nat) : HT.sIx l d (some ((n : Nat) : Int)) = min n l := HT.sIx_nat l d n
theorem cutD_to {α : Type} (xs : List α) (n : Nat) : cutD xs none (some (n : Int)) = xs.take n := by
  unfold cutD
  rw [sIxN, HT.sIx_none, List.drop_zero, Nat.sub_zero]
  by_cases h : n ≤ xs.length
  · rw [Nat.min_eq_left h]
  · rw [Nat.min_eq_right (by omega), List.take_length, List.take_of_length_le (by omega)]
theorem cutD_from {α : Type} (xs : List α) (n : Nat) : cutD xs (some (n : Int)) none = xs.drop n := by
  unfold cutD
  rw [sIxN, HT.sIx_none]
  by_cases h : n ≤ xs.length
  · rw [Nat.min_eq_left h, List.take_of_length_le (by rw [List.length_drop]; omega)]
  · rw [Nat.min_eq_right (by omega), Nat.sub_self, List.take_zero, List.drop_of_length_le (by omega)]
theorem cutD_mid {α : Type} (xs : List α) (a b : Nat) (h : b ≤ xs.length) : cutD xs (some (a : Int)) (some (b : Int)) = (xs.drop a).take (b - a) := by
  unfold cutD
  rw [sIxN, sIxN, Nat.min_eq_left h]
  by_cases h2 : a ≤ xs.length
  · rw [Nat.min_eq_left h2]
  · rw [Nat.min_eq_right (by omega), List.drop_of_length_le (by omega), List.drop_of_length_le (by omega), List.take_nil, List.take_nil]
theorem cutD_hd {α : Type} (xs : List α) : cutD xs none (some 1) = xs.take 1 := cutD_to xs 1
theorem cutD_tl {α : Type} (xs : List α) : cutD xs (some 1) none = xs.drop 1 := cutD_from xs 1
end PL
namespace PL
open PySem L2
section
variable {s g : SE} {ct : String → Bool} {ρ ρ' : Env} {i : Nat} {n : String} {r : RV}
theorem sTryO_nx (h : s ρ = .nx ρ') : sTryO s ct g ρ = .nx ρ' := by unfold sTryO; rw [h]
theorem sTryO_rt (h : s ρ = .rt r ρ') : sTryO s ct g ρ = .rt r ρ' := by unfold sTryO; rw [h]
theorem sTryO_ex (h : s ρ = .ex n ρ') (hc : ct n = true) : sTryO s ct g ρ = sOutO (g ρ') := by unfold sTryO; rw [h]; exact if_pos hc
theorem sTryAs_nx (h : s ρ = .nx ρ') : sTryAs s ct i g ρ = .nx ρ' := by unfold sTryAs; rw [h]
theorem sTryAs_rt (h : s ρ = .rt r ρ') : sTryAs s ct i g ρ = .rt r ρ' := by unfold sTryAs; rw [h]
theorem sTryAs_ex (h : s ρ = .ex n ρ') (hc : ct n = true) : sTryAs s ct i g ρ = sOut i (g (ρ'.set i (some (.er n)))) := by unfold sTryAs; rw [h]; exact if_pos hc
theorem seq_rt {a b : SE} (h : a ρ = .rt r ρ') : sSeq a b ρ = .rt r ρ' := by
  unfold sSeq
  rw [h]
  rfl
theorem seq_ex {a b : SE} (h : a ρ = .ex n ρ') : sSeq a b ρ = .ex n ρ' := by
  unfold sSeq
  rw [h]
  rfl
end
end PL

/-! PLE: what the end of a claim leans on -/
namespace PL
open PySem L2
section
variable {K : PySem.W.Frag} {O : List Addr} {H H' : Hp}
theorem dp_ints {G : Hp} : ∀ ns : List Int, DpAll K G (ns.map V.int) (ns.map PyData.int)
  | [] => .nil
  | n :: r => .cons (.int n) (dp_ints r)
theorem law_args {a : Addr} {ns : List Int} (h : SqL K H a (ns.map V.int)) : ArgsOk K O H [.ref a] [.bw (ns.map PyData.int)] := .cons ⟨a, _, rfl, h, dp_ints ns⟩ .nil
theorem law_ret {v : V} (h : RetC K O H H' v (.val (.bool true))) : v = .bl true := by cases (show Dp K (hid O H') v (.bool true) from h); rfl
end
theorem cx_false {P : Program} {w : World} {outer : List PySem.Env} {H : Hp} {s : Shared} {u : Value} {s' : Shared} (h : L2.CX P w outer H s (fun _ _ _ => False) u s') : False := by
  obtain ⟨_, _, _, _, _, _, _, _, _, _, _, _, e⟩ := h
  exact e
/-! ### the classes of the errors -/
open PySem.W in
structure HereC (K : Frag) (m T : String) : Prop where
  ex : ∃ D G, nsIn K mainGlobals (Str.ofString m) = some (some (.ref D)) ∧ nsIn K mainGlobals (Str.ofString T) = some (some (.ref G)) ∧ exmOne K (.ref D) (.ref G) = some true
open PySem.W in
theorem hereCat_of {K : Frag} {m T : String} {D G : Addr} (a : nsIn K mainGlobals (Str.ofString m) = some (some (.ref D))) (b : nsIn K mainGlobals (Str.ofString T) = some (some (.ref G))) (h1 : subIn K (.ref G) (.type "BaseException") = some true) (h2 : hasDictIn K G = true) (h3 : typeIn K (.ref G) = some (.type "type")) (h4 : subIn K (.ref D) (.ref G) = some true) : HereC K m T := ⟨D, G, a, b, exm_ref h1 h2 h3 h4⟩
theorem cat_one {K : PySem.W.Frag} {h : Heap} {mg : Str → Option Value} {T : String} (X : K.In h) (N : h.Ns mainGlobals mg) (e : HereC K T T) : Cat K mg T (ctOne T) := by
  obtain ⟨D, G, a, b, c⟩ := e.ex
  refine ⟨G, PySem.W.mg_of X N b, fun m hm => ?_⟩
  have hm := of_decide_eq_true hm
  subst hm
  exact ⟨D, PySem.W.mg_of X N a, c⟩
theorem cat_all {K : PySem.W.Frag} {h : Heap} {mg : Str → Option Value} (X : K.In h) (N : h.Ns mainGlobals mg) (e : ∀ m ∈ ex8, HereC K m "CodeError") : Cat K mg "CodeError" ct8 := by
  obtain ⟨D, G, a, b, c⟩ := (e "NoSign" (by decide)).ex
  refine ⟨G, PySem.W.mg_of X N b, fun m hm => ?_⟩
  obtain ⟨D', G', a', b', c'⟩ := (e m (of_decide_eq_true hm)).ex
  cases (PySem.W.mg_of X N b).symm.trans (PySem.W.mg_of X N b')
  exact ⟨D', PySem.W.mg_of X N a', c'⟩
theorem all8 {P : String → Prop} (h1 : P "NoWeights") (h2 : P "BadWeight") (h3 : P "BadBound") (h4 : P "NoRoom") (h5 : P "BadLengths") (h6 : P "BadWords") (h7 : P "BadBits") (h8 : P "NoSign") : ∀ m ∈ ex8, P m := by
  intro m hm
  simp only [ex8, List.mem_cons, List.not_mem_nil, or_false] at hm
  rcases hm with rfl | rfl | rfl | rfl | rfl | rfl | rfl | rfl <;> assumption
structure HereE (K : PySem.W.Frag) (n : String) : Prop where
  ex : ∃ D, PySem.W.nsIn K mainGlobals (Str.ofString n) = some (some (.ref D)) ∧ ExcC K D ∧ PySem.W.kitOne K (.ref D) (.type "ValueError") = some true
theorem kit_val {K : PySem.W.Frag} {D : Addr} (h : PySem.W.subIn K (.ref D) (.type "ValueError") = some true) : PySem.W.kitOne K (.ref D) (.type "ValueError") = some true := by
  unfold PySem.W.kitOne
  rw [if_neg (by intro z; cases z)]
  unfold PySem.W.kitCls
  dsimp only
  rw [if_pos (by rfl)]
  exact h
open PySem.W in
theorem hereE_of {K : Frag} {n : String} {D : Addr} (a : nsIn K mainGlobals (Str.ofString n) = some (some (.ref D))) (hg : findIn K (.ref D) "__getattribute__" = some (some (.builtin "BaseException.__getattribute__"))) (hk : findIn K (.ref D) "__getattr__" = some none) (hs : subIn K (.ref D) (.type "BaseException") = some true) (hd : hasDictIn K D = true)
    (ha : findIn K (.ref D) "__class__" = some (some (.builtin "object.__class__"))) (hn : specialIn K (.builtin "object.__class__") "__get__" = some (some (.builtin "getset_descriptor.__get__"))) (ht : takesIn K (.builtin "object.__class__") = some true) (hm : mroIn K D (.type "object") = some true) (hv : subIn K (.ref D) (.type "ValueError") = some true) : HereE K n := ⟨D, a, ⟨hg, hk, hs, hd, ha, hn, ht, hm⟩, kit_val hv⟩
theorem is8_of {K : PySem.W.Frag} {h : Heap} {mg : Str → Option Value} (X : K.In h) (N : h.Ns mainGlobals mg) (e : ∀ m ∈ ex8, HereE K m) : Is8 K mg := ⟨fun n hn => by
  obtain ⟨D, a, b, c⟩ := (e n hn).ex
  exact ⟨D, PySem.W.mg_of X N a, b, c⟩⟩
structure HereP (K : PySem.W.Frag) (T n : String) : Prop where
  ex : ∃ D G, PySem.W.nsIn K mainGlobals (Str.ofString n) = some (some (.ref D)) ∧ PySem.W.nsIn K mainGlobals (Str.ofString T) = some (some (.ref G)) ∧ PySem.W.kitOne K (.ref D) (.ref G) = some (decide (n = T))
open PySem.W in
theorem herePe_of {K : Frag} {n : String} {D : Addr} (a : nsIn K mainGlobals (Str.ofString n) = some (some (.ref D))) : HereP K n n := ⟨D, D, a, a, by
  unfold kitOne
  rw [if_pos (by simp), decide_eq_true rfl]⟩
open PySem.W in
theorem hereP_of {K : Frag} {T n : String} {D G : Addr} (a : nsIn K mainGlobals (Str.ofString n) = some (some (.ref D))) (b : nsIn K mainGlobals (Str.ofString T) = some (some (.ref G))) (c : D ≠ G) (h2 : hasDictIn K G = true) (h3 : typeIn K (.ref G) = some (.type "type")) (h4 : subIn K (.ref D) (.ref G) = some false) (hne : n ≠ T) : HereP K T n := ⟨D, G, a, b, by
  unfold kitOne
  rw [if_neg (by intro z; exact c (Value.ref.inj (beq_iff_eq.mp z))), decide_eq_false hne]
  unfold kitCls
  dsimp only
  obtain ⟨cd, hc, _⟩ := any_some h2
  rw [if_pos (by rw [hc, h3]; rfl)]
  exact h4⟩
theorem isT_of {K : PySem.W.Frag} {h : Heap} {mg : Str → Option Value} {T : String} (X : K.In h) (N : h.Ns mainGlobals mg) (e : ∀ m ∈ ex8, HereP K T m) : IsT K mg T := by
  obtain ⟨D, G, a, b, c⟩ := (e "NoSign" (by decide)).ex
  refine ⟨G, PySem.W.mg_of X N b, fun n hn D1 hD => ?_⟩
  obtain ⟨D', G', a', b', c'⟩ := (e n hn).ex
  cases (PySem.W.mg_of X N b).symm.trans (PySem.W.mg_of X N b')
  cases hD.symm.trans (PySem.W.mg_of X N a')
  exact c'
/-! ### an end with a table of code objects -/
structure LamK (K : PySem.W.Frag) (x0 : Str) (c P : Addr) : Prop where
  ex : ∃ (f : Addr) (o : Obj) (fd : FuncData) (e : Value) (dd : Option Addr) (vs : Array Value) (sl : Array (Option Value)), PySem.W.nsIn K mainGlobals x0 = some (some (.ref f)) ∧ K.lookup f = some o ∧ o.data = .func fd ∧ fd.code = .ref c ∧ K.lookup c = some ⟨e, dd, .fields vs, sl⟩ ∧ vs[11]? = some (.ref P) ∧ K.lookup P = none
structure HereL (K : PySem.W.Frag) (x0 : Str) : Prop where
  ex : ∃ c P, LamK K x0 c P
theorem hereL_of {K : PySem.W.Frag} {x0 q : Str} {as : Arguments} {bd : List Stmt} {sc : Scope} {f c P : Addr} {od an dd : Option Addr} {sl sl2 : Array (Option Value)} {oc e kV dc pm ct : Value} {vs : Array Value} (a : PySem.W.nsIn K mainGlobals x0 = some (some (.ref f)))
    (l : K.lookup f = some ⟨oc, od, .func (PySem.W.fnOf x0 q as bd sc .none kV dc pm an (.ref c) ct), sl⟩) (k : K.lookup c = some ⟨e, dd, .fields vs, sl2⟩) (v : vs[11]? = some (.ref P)) (n : K.lookup P = none) : HereL K x0 := ⟨c, P, f, _, _, e, dd, vs, sl2, a, l, rfl, rfl, k, v, n⟩
theorem LamK.code {K : PySem.W.Frag} {x0 q : Str} {st : Stmt} {f c P : Addr} {fd : FuncData} (L : LamK K x0 c P) (u : Fun K x0 q st f fd) (a : PySem.W.nsIn K mainGlobals x0 = some (some (.ref f))) : fd.code = .ref c := by
  obtain ⟨f1, o, fd1, e, dd, vs, sl, h1, h2, h3, h4, _⟩ := L.ex
  obtain ⟨oc, od, kV, doc, pm, an, cdv, ct, osl, rfl, lk, hcd⟩ := u.ex
  rw [a] at h1
  cases h1
  rw [lk] at h2
  cases h2
  cases h3
  exact h4
theorem LamK.lf {K : PySem.W.Frag} {x0 q qual : Str} {st : Stmt} {f c P : Addr} {fd : FuncData} {base : Heap} {mg : Str → Option Value} (L : LamK K x0 c P) (u : Fun K x0 q st f fd) (a : PySem.W.nsIn K mainGlobals x0 = some (some (.ref f))) (TB : LamX.TabB base mg c P) :
    LamF base mg [(P, qual ++ ".<locals>." ++ "<lambda>")] qual fd := ⟨c, P, L.code u a, TB, List.mem_singleton.mpr rfl, fun p hp _ => by rw [List.mem_singleton.mp hp]⟩
theorem walk_tab {l : PySem.W.OpenLaw} {n k : Nat} {q : Program} {loose : List Str} {XP : (Str → Option Value) → Heap → Prop} {YP : World → Heap → Prop} {d : DefRec} {K : Params → PySem.W.Frag} {CX : World → L2.CXT} {x x0 : Str}
    (hn : l.most = some n) (hn2 : n ≤ sizeLine) (hdf : d.params.defaults = []) (hr : Room k callerA) (hrec : ((PyProof.Rows.recsOf q).any fun e => e.name == x0) = true) (hY : ∀ (w : World) (h : Heap), YP w h → (K w.params).In h)
    (F : ∀ (w : World) (mg : Str → Option Value) (fa : Addr) (h : Heap), (K w.params).In h → h.Ns mainGlobals mg → mg d.name = some (.ref fa) →
      ∃ (c P : Addr) (fd : FuncData) (sp : Sp), LamK (K w.params) x0 c P ∧ (∀ (s : Shared) (u : Value), BindsTo s fd ⟨[u], []⟩ [(x, u)]) ∧ (∀ (H : Hp) (a : Addr) (ns : List Int), ns.length ≤ n → H P = some (.tbl #[]) → SqL (K w.params) H a (ns.map V.int) → sp [.ref a] H (fun v _ => v = .bl true) fun _ _ _ => False) ∧
        ∀ base : Heap, (K w.params).In base → base.Ns mainGlobals mg → LamX.TabB base mg c P → FnOk l.prog w (K w.params) mg base (CX w) k fa fd [x] sp)
    (hCX : ∀ (w : World) (H : Hp) (s : Shared) (e : Value) (s' : Shared), CX w [] H s (fun _ _ _ => False) e s' → False) :
    PySem.W.WalkO q loose XP YP l.row.toRowW d [] (fun f vs => PySem.call f vs) := by
  refine Att.attach_callB hn hdf fun w s₀ s₁ mg mb fa o pm cd doc a vs ns G Y ho hd hcd hmg hobj hints hlen hbits hg => ?_
  have KX := hY w _ Y
  obtain ⟨c, P, fd, sp, L, hb, hsp, hF⟩ := F w mg fa _ KX G.T.g hmg
  obtain ⟨f1, o1, fd1, e1, dd, vs1, sl, k0, k1, k2, k3, k4, k5, k6⟩ := L.ex
  obtain ⟨dL, hm, hn1⟩ := List.any_eq_true.mp hrec
  have hn3 : dL.name = x0 := beq_iff_eq.mp hn1
  obtain ⟨a', o', fd', c', P', h1, h2, h3, h4, h5, h6⟩ := G.T.tab dL hm
  rw [hn3, PySem.W.mg_of KX G.T.g k0] at h1
  cases h1
  have g1 := KX _ _ k1
  rw [g1] at h2
  cases h2
  rw [k2] at h3
  cases h3
  rw [k3] at h4
  cases h4
  have hcd2 := PySem.W.CodeHd.of h5 h6
  obtain ⟨⟨oc, vc, e1, _, e3, e4⟩, hP⟩ := h6
  have g2 := KX _ _ k4
  rw [g2] at e1
  cases e1
  cases e3
  rw [k5] at e4
  cases e4
  have one : ∀ p ∈ [(c, P)], p = (c, P) := fun p hp => List.mem_singleton.mp hp
  exact LamX.law_callTs (cs := [(c, P)]) KX G.T.g G.T.b G.T.builtins G.T.nolimit hg (fun p hp => by rw [one p hp]; exact hP) (fun p hp => by rw [one p hp]; exact k6) (fun p hp => by rw [one p hp]; exact hcd2) G.T.bmain hobj hints (Nat.le_trans hlen hn2) hr (fun base b1 b2 b3 => hF base b1 b2 (b3 (c, P) (List.mem_singleton.mpr rfl))) hb
    (fun H hH hS => hsp H a ns hlen (hH (c, P) (List.mem_singleton.mpr rfl)) hS) fun H e s' => hCX w H s₁ e s'
end PL
namespace PL
open PySem L2
noncomputable section
/-- laid out, not deep -/
def shp (k : Nat) (d : PyData) : Prop := d.canLay0 = true ∧ d.depth ≤ k
theorem canAll {ds : List PyData} (h : ∀ d ∈ ds, d.canLay0 = true) : PyData.canLayAll0 ds = true := by
  induction ds with
  | nil => simp [PyData.canLayAll0]
  | cons d r ih => simp [PyData.canLayAll0, h d List.mem_cons_self, ih fun x hx => h x (List.mem_cons_of_mem _ hx)]
theorem depAll {ds : List PyData} {k : Nat} (h : ∀ d ∈ ds, d.depth ≤ k) : PyData.depthAll ds ≤ k := by
  induction ds with
  | nil => simp [PyData.depthAll]
  | cons d r ih =>
    have h1 := h d List.mem_cons_self
    have h2 := ih fun x hx => h x (List.mem_cons_of_mem _ hx)
    simp only [PyData.depthAll]
    omega
theorem shp_int (k : Nat) (i : Int) : shp k (.int i) := ⟨by simp [PyData.canLay0], by simp [PyData.depth]⟩
theorem shp_bool (k : Nat) (i : Bool) : shp k (.bool i) := ⟨by simp [PyData.canLay0], by simp [PyData.depth]⟩
theorem shp_none (k : Nat) : shp k .none := ⟨by simp [PyData.canLay0], by simp [PyData.depth]⟩
theorem shp_str (k : Nat) {s : Str} (h : PyData.strOk s = true) : shp k (.str s) := ⟨by simp [PyData.canLay0, h], by simp [PyData.depth]⟩
theorem shp_list {k : Nat} {ds : List PyData} (h : ∀ d ∈ ds, shp k d) : shp (k + 1) (.list ds) :=
  ⟨by simp only [PyData.canLay0]; exact canAll fun d hd => (h d hd).1, by simp only [PyData.depth]; have := depAll (k := k) fun d hd => (h d hd).2; omega⟩
theorem shp_tup {k : Nat} {ds : List PyData} (h : ∀ d ∈ ds, shp k d) : shp (k + 1) (.tuple ds) :=
  ⟨by simp only [PyData.canLay0]; exact canAll fun d hd => (h d hd).1, by simp only [PyData.depth]; have := depAll (k := k) fun d hd => (h d hd).2; omega⟩
theorem shp_ints (k : Nat) (ns : List Int) : shp (k + 1) (.list (ns.map PyData.int)) := shp_list fun d hd => by
  obtain ⟨i, _, rfl⟩ := List.mem_map.mp hd
  exact shp_int _ _
theorem shp_tints (k : Nat) (ns : List Int) : shp (k + 1) (.tuple (ns.map PyData.int)) := shp_tup fun d hd => by
  obtain ⟨i, _, rfl⟩ := List.mem_map.mp hd
  exact shp_int _ _
theorem shaped_of {k : Nat} {d : PyData} (h : shp k d) (hk : k ≤ 64 := by decide) : SeqAt.shaped d = true := by
  unfold SeqAt.shaped
  rw [h.1, Bool.true_and]
  exact decide_eq_true (Nat.le_trans h.2 hk)
theorem oEq_refl {k : Nat} {d : PyData} (h : shp k d) (hk : k ≤ 64 := by decide) : oEq d d = .ok (.bool true) := by
  unfold oEq
  rw [shaped_of h hk, PySem.SeqAt.eqv_refl d h.1]
  rfl
theorem oNe_refl {k : Nat} {d : PyData} (h : shp k d) (hk : k ≤ 64 := by decide) : oNe d d = .ok (.bool false) := by
  unfold oNe
  rw [shaped_of h hk, PySem.SeqAt.eqv_refl d h.1]
  rfl
theorem oNe_nil {k : Nat} {ds : List PyData} (h : shp k (.list ds)) (hk : k ≤ 64 := by decide) : oNe (.list ds) (.list []) = .ok (.bool (!ds.isEmpty)) := by
  unfold oNe
  rw [shaped_of h hk, shaped_of (k := 0 + 1) (shp_list (k := 0) (ds := []) (fun _ hd => nomatch hd))]
  cases ds <;> simp [PyData.eqv, PyData.eqvAll]
theorem oEq_nil {k : Nat} {ds : List PyData} (h : shp k (.list ds)) (hk : k ≤ 64 := by decide) : oEq (.list ds) (.list []) = .ok (.bool ds.isEmpty) := by
  unfold oEq
  rw [shaped_of h hk, shaped_of (k := 0 + 1) (shp_list (k := 0) (ds := []) (fun _ hd => nomatch hd))]
  cases ds <;> simp [PyData.eqv, PyData.eqvAll]

/-- n as l bits: the codes of 0 and 1 -/
def bitsL (n : Nat) : Nat → List Nat
  | 0 => []
  | l + 1 => (48 + n / 2 ^ l % 2) :: bitsL n l
def bitsS (n l : Nat) : Str := ⟨(bitsL n l).toArray⟩
theorem bitsL_len (n : Nat) : ∀ l, (bitsL n l).length = l
  | 0 => rfl
  | l + 1 => by
    show (bitsL n l).length + 1 = l + 1
    rw [bitsL_len n l]
theorem bitsL_mod (n : Nat) : ∀ l k, l ≤ k → bitsL (n % 2 ^ k) l = bitsL n l
  | 0, _, _ => rfl
  | l + 1, k, h => by
    show (48 + n % 2 ^ k / 2 ^ l % 2) :: bitsL (n % 2 ^ k) l = (48 + n / 2 ^ l % 2) :: bitsL n l
    rw [bitsL_mod n l k (by omega)]
    congr 2
    obtain ⟨c, rfl⟩ : ∃ c, k = l + (c + 1) := ⟨k - l - 1, by omega⟩
    rw [Nat.pow_add, Nat.mod_mul_right_div_self, Nat.pow_succ, Nat.mod_mod_of_dvd _ (Nat.dvd_mul_left _ _)]
theorem bitsL_mem {n : Nat} : ∀ {l : Nat} {c : Nat}, c ∈ bitsL n l → c = 48 ∨ c = 49
  | 0, c, h => by cases h
  | l + 1, c, h => by
    rcases List.mem_cons.mp h with h | h
    · omega
    · exact bitsL_mem h
theorem bitsS_ok (n l : Nat) : PyData.strOk (bitsS n l) = true := by
  unfold PyData.strOk bitsS
  rw [List.all_toArray, List.all_eq_true]
  intro c hc
  have := bitsL_mem hc
  exact decide_eq_true (by omega)
theorem bitsS_len (n l : Nat) : (bitsS n l).length = l := by
  show (bitsL n l).toArray.size = l
  rw [List.size_toArray, bitsL_len]
theorem bits_take (n j : Nat) : ∀ l, (bitsL (n * 2 ^ j) (l + j)).take l = bitsL n l
  | 0 => by rw [List.take_zero]; rfl
  | l + 1 => by
    rw [show l + 1 + j = (l + j) + 1 by omega]
    show ((48 + n * 2 ^ j / 2 ^ (l + j) % 2) :: bitsL (n * 2 ^ j) (l + j)).take (l + 1) = (48 + n / 2 ^ l % 2) :: bitsL n l
    rw [List.take_succ_cons, bits_take n j l, Nat.pow_add, Nat.mul_div_mul_right _ _ (Nat.two_pow_pos j)]
/-- a, b go apart somewhere, a first -/
def Sep (a b : List Nat) : Prop := ∃ p s t, a = p ++ 48 :: s ∧ b = p ++ 49 :: t
theorem sep_bits : ∀ (T n l m k : Nat), l ≤ T → k ≤ T → n < 2 ^ l → m < 2 ^ k → (n + 1) * 2 ^ (T - l) ≤ m * 2 ^ (T - k) → Sep (bitsL n l) (bitsL m k)
  | 0, n, l, m, k, hl, hk, hn, hm, h => by
    have : l = 0 := by omega
    have : k = 0 := by omega
    subst l
    subst k
    simp at hn hm h
    omega
  | T + 1, n, 0, m, k, hl, hk, hn, hm, h => by
    have hn0 : n = 0 := by simp at hn; exact hn
    subst hn0
    have e : 2 ^ k * 2 ^ (T + 1 - k) = 2 ^ (T + 1) := by rw [← Nat.pow_add]; congr 1; omega
    have := Nat.mul_le_mul_right (2 ^ (T + 1 - k)) (show m + 1 ≤ 2 ^ k by omega)
    rw [Nat.add_mul, Nat.one_mul, e] at this
    rw [Nat.zero_add, Nat.one_mul, Nat.sub_zero] at h
    have := Nat.two_pow_pos (T + 1 - k)
    omega
  | T + 1, n, l + 1, m, 0, hl, hk, hn, hm, h => by
    have hm0 : m = 0 := by simp at hm; exact hm
    subst hm0
    rw [Nat.zero_mul] at h
    have := Nat.mul_pos (show 0 < n + 1 by omega) (Nat.two_pow_pos (T + 1 - (l + 1)))
    omega
  | T + 1, n, l + 1, m, k + 1, hl, hk, hn, hm, h => by
    rw [Nat.add_sub_add_right, Nat.add_sub_add_right] at h
    have ePA : 2 ^ l * 2 ^ (T - l) = 2 ^ T := by rw [← Nat.pow_add]; congr 1; omega
    have eQB : 2 ^ k * 2 ^ (T - k) = 2 ^ T := by rw [← Nat.pow_add]; congr 1; omega
    have hA := Nat.two_pow_pos (T - l)
    have hB := Nat.two_pow_pos (T - k)
    have hP := Nat.two_pow_pos l
    have hQ := Nat.two_pow_pos k
    rw [Nat.pow_succ] at hn hm
    show Sep ((48 + n / 2 ^ l % 2) :: bitsL n l) ((48 + m / 2 ^ k % 2) :: bitsL m k)
    have up : ∀ c a b, Sep a b → Sep (c :: a) (c :: b) := fun c a b ⟨p, s, t, h1, h2⟩ => ⟨c :: p, s, t, by rw [h1]; rfl, by rw [h2]; rfl⟩
    by_cases c1 : n < 2 ^ l
    · rw [Nat.div_eq_of_lt c1]
      by_cases c2 : m < 2 ^ k
      · rw [Nat.div_eq_of_lt c2]
        exact up _ _ _ (sep_bits T n l m k (by omega) (by omega) c1 c2 h)
      · have e : m / 2 ^ k = 1 := by
          rw [Nat.div_eq_iff hQ]
          omega
        rw [e]
        exact ⟨[], bitsL n l, bitsL m k, rfl, rfl⟩
    · have e1 : n / 2 ^ l = 1 := by
        rw [Nat.div_eq_iff hP]
        omega
      have hle := Nat.mul_le_mul_right (2 ^ (T - l)) (show 2 ^ l + 1 ≤ n + 1 by omega)
      rw [Nat.add_mul, ePA, Nat.one_mul] at hle
      by_cases c2 : m < 2 ^ k
      · have hle2 := Nat.mul_le_mul_right (2 ^ (T - k)) (show m + 1 ≤ 2 ^ k by omega)
        rw [Nat.add_mul, eQB, Nat.one_mul] at hle2
        omega
      · have e2 : m / 2 ^ k = 1 := by
          rw [Nat.div_eq_iff hQ]
          omega
        rw [e1, e2]
        obtain ⟨n', rfl⟩ : ∃ n', n = 2 ^ l + n' := ⟨n - 2 ^ l, by omega⟩
        obtain ⟨m', rfl⟩ : ∃ m', m = 2 ^ k + m' := ⟨m - 2 ^ k, by omega⟩
        have b1 : bitsL (2 ^ l + n') l = bitsL n' l := by
          rw [← bitsL_mod (2 ^ l + n') l l (Nat.le_refl _), Nat.add_mod_left, bitsL_mod _ _ _ (Nat.le_refl _)]
        have b2 : bitsL (2 ^ k + m') k = bitsL m' k := by
          rw [← bitsL_mod (2 ^ k + m') k k (Nat.le_refl _), Nat.add_mod_left, bitsL_mod _ _ _ (Nat.le_refl _)]
        rw [b1, b2]
        refine up _ _ _ (sep_bits T n' l m' k (by omega) (by omega) (by omega) (by omega) ?_)
        rw [Nat.add_assoc, Nat.add_mul, Nat.add_mul (2 ^ k), ePA, eQB] at h
        omega
theorem ltC_sep : ∀ (p s t : List Nat), PySem.Spec.ltCps (p ++ 49 :: t) (p ++ 48 :: s) = false
  | [], s, t => by simp [PySem.Spec.ltCps]
  | c :: p, s, t => by
    have := ltC_sep p s t
    simp [PySem.Spec.ltCps, this]
theorem Sep.le {a b : List Nat} (h : Sep a b) : leS ⟨a.toArray⟩ ⟨b.toArray⟩ = true := by
  obtain ⟨p, s, t, rfl, rfl⟩ := h
  show (!PySem.Spec.ltCps (p ++ 49 :: t) (p ++ 48 :: s)) = true
  rw [ltC_sep]
  rfl
theorem Sep.no {a b : List Nat} (h : Sep a b) : ¬ a <+: b ∧ ¬ b <+: a := by
  obtain ⟨p, s, t, rfl, rfl⟩ := h
  constructor
  · intro z
    have := (List.cons_prefix_cons.mp ((List.prefix_append_right_inj p).mp z)).1
    omega
  · intro z
    have := (List.cons_prefix_cons.mp ((List.prefix_append_right_inj p).mp z)).1
    omega
/-- a text's beginning -/
theorem cutS_to (l : List Nat) (n : Nat) : cutS ⟨l.toArray⟩ none (some (n : Int)) = ⟨(l.take n).toArray⟩ := by
  have := cutD_to l n
  unfold cutD at this
  unfold cutS
  show (⟨((l.drop (HT.sIx l.toArray.size 0 none)).take (HT.sIx l.toArray.size l.toArray.size (some (n : Int)) - HT.sIx l.toArray.size 0 none)).toArray⟩ : Str) = _
  rw [List.size_toArray, this]
theorem shp_strs (k : Nat) {ss : List Str} (h : ∀ s ∈ ss, PyData.strOk s = true) : shp (k + 1) (.list (ss.map PyData.str)) := shp_list fun d hd => by
  obtain ⟨s, hs, rfl⟩ := List.mem_map.mp hd
  exact shp_str _ (h s hs)
theorem cutS_z (z : Str) (n : Nat) : cutS z none (some (n : Int)) = ⟨(z.cps.toList.take n).toArray⟩ := by
  rcases z with ⟨⟨l⟩⟩
  exact cutS_to l n
theorem eqv_str (a b : Str) : PyData.eqv (.str a) (.str b) = decide (a = b) := by
  simp [PyData.eqv, Bool.beq_eq_decide_eq]
theorem oEq_s {a b : Str} (ha : PyData.strOk a = true) (hb : PyData.strOk b = true) : oEq (.str a) (.str b) = .ok (.bool (decide (a = b))) := by
  unfold oEq
  rw [shaped_str ha, shaped_str hb, eqv_str]
  rfl
theorem strOk_take {z : Str} (h : PyData.strOk z = true) (n : Nat) : PyData.strOk ⟨(z.cps.toList.take n).toArray⟩ = true := by
  unfold PyData.strOk at h ⊢
  rw [List.all_toArray, List.all_eq_true]
  intro c hc
  have h := Array.all_eq_true_iff_forall_mem.mp h c (Array.mem_toList_iff.mp (List.mem_of_mem_take hc))
  exact h
/-- no text begins another -/
def Apart (ss : List Str) : Prop := ∀ (i j : Nat) (hi : i < ss.length) (hj : j < ss.length), i ≠ j → ¬ ss[i].cps.toList <+: ss[j].cps.toList

/-! is_number: slots 0:thing 1:least 2:most -/
def g_is_number : SE := (sRet (eOfB (bAnd (bOf (eIsI (rVar 0) "int")) (bAnd (bNot (bOf (eIsI (rVar 0) "bool"))) (bOf (eChain oLe oLe (eVar 1) (eVar 0) (eVar 2)))))))
def F_is_number : FN := runF 3 3 g_is_number
def noDict : PyData → Bool
  | .dict _ => false
  | _ => true
theorem noDict_ne {d : PyData} (h : noDict d = true) : ∀ kvs, d ≠ .dict kvs := fun kvs e => by
  subst e
  cases h
/-- a whole number within bounds -/
def isNum (d : PyData) (lo hi : Int) : Bool := match d with
  | .int i => decide (lo ≤ i ∧ i ≤ hi)
  | _ => false
@[simp] theorem isNum_int {i lo hi : Int} : isNum (.int i) lo hi = decide (lo ≤ i ∧ i ≤ hi) := rfl
@[simp] theorem isNum_none {lo hi : Int} : isNum .none lo hi = false := rfl
@[simp] theorem isNum_bool {b : Bool} {lo hi : Int} : isNum (.bool b) lo hi = false := rfl
@[simp] theorem isNum_str {b : Str} {lo hi : Int} : isNum (.str b) lo hi = false := rfl
@[simp] theorem isNum_list {b : List PyData} {lo hi : Int} : isNum (.list b) lo hi = false := rfl
@[simp] theorem isNum_tuple {b : List PyData} {lo hi : Int} : isNum (.tuple b) lo hi = false := rfl
@[simp] theorem noDict_int {i : Int} : noDict (.int i) = true := rfl
@[simp] theorem noDict_none : noDict .none = true := rfl
@[simp] theorem noDict_bool {b : Bool} : noDict (.bool b) = true := rfl
@[simp] theorem noDict_str {b : Str} : noDict (.str b) = true := rfl
@[simp] theorem noDict_list {b : List PyData} : noDict (.list b) = true := rfl
@[simp] theorem noDict_tuple {b : List PyData} : noDict (.tuple b) = true := rfl
@[simp] theorem noDict_ints (ns : List Int) : (ns.map PyData.int).all noDict = true := by simp
def M_is_number : FN
  | [.fz d, .fz (.int lo), .fz (.int hi)] => if noDict d then .ok (.val (.bool (isNum d lo hi))) else .stuck
  | _ => .stuck
theorem ok_is_number : ∀ as : List SL, as.length = 3 → M_is_number as ≠ .stuck → F_is_number as = M_is_number as := by
  intro as hl h
  clear hl
  unfold M_is_number at h ⊢
  split at h
  · rename_i d lo hi
    try dsimp only
    by_cases hd : noDict d = true
    · rw [if_pos hd]
      have h1 : eIsI (rVar 0) "int" [some (.fz d), some (.fz (.int lo)), some (.fz (.int hi))] = .ok (.bool (isInt d)) := eIsI_ok rfl (kit_int d (noDict_ne hd))
      have h2 : eIsI (rVar 0) "bool" [some (.fz d), some (.fz (.int lo)), some (.fz (.int hi))] = .ok (.bool (isBool d)) := eIsI_ok rfl (kit_bool d (noDict_ne hd))
      cases d with
      | int i =>
        simp [F_is_number, runF, g_is_number, h1, h2, isInt, isBool, isNum, eChain]
        by_cases hl : lo ≤ i
        · simp [hl]
        · simp [hl]
      | bool b => simp [F_is_number, runF, g_is_number, h1, h2, isInt, isBool, isNum]
      | dict kvs => cases hd
      | _ => simp [F_is_number, runF, g_is_number, h1, h2, isInt, isBool, isNum]
    · simp [hd] at h
  · exact absurd rfl h

/-! need_bound: slots 0:bound -/
def g_need_bound : SE := (sIf (bNot (bOf (eX (xCall M_is_number (rV (eVar 0) (rV (eC (.int 1)) (rV (eC (.int 12)) rNil))))))) (sRaise "BadBound") sNext)
def F_need_bound : FN := runF 1 1 g_need_bound
def M_need_bound : FN
  | [.fz d] => if noDict d then (if isNum d 1 12 then .ok (.val .none) else .exc "BadBound") else .stuck
  | _ => .stuck
theorem ok_need_bound : ∀ as : List SL, as.length = 1 → M_need_bound as ≠ .stuck → F_need_bound as = M_need_bound as := by
  intro as hl h
  clear hl
  unfold M_need_bound at h ⊢
  split at h
  · rename_i d
    try dsimp only
    by_cases hd : noDict d = true
    · cases hn : isNum d 1 12 <;> simp [F_need_bound, runF, g_need_bound, eX, M_is_number, hd, hn]
    · simp [hd] at h
  · exact absurd rfl h

/-! need_lengths: slots 0:lengths 1:bound 2:one -/
def g_need_lengths : SE := (sSeq (sDropX (xCall M_need_bound (rV (eVar 1) rNil)))
  (sSeq (sIf (bOf (eOp oGt (eLenV (rVar 0)) (eC (.int 24)))) (sRaise "BadLengths") sNext)
  (sFor (sVar 0) (tgN 2) [2] (sIf (bNot (bOf (eX (xCall M_is_number (rV (eVar 2) (rV (eC (.int 1)) (rV (eVar 1) rNil))))))) (sRaise "BadLengths") sNext))))
def F_need_lengths : FN := runF 2 3 g_need_lengths
/-- what need_lengths says: none, or the class -/
def lensBad (ds : List PyData) (b : PyData) : Option String :=
  match b with
  | .int n => if 1 ≤ n ∧ n ≤ 12 then (if 24 < ds.length then some "BadLengths" else if ds.all (fun d => isNum d 1 n) then none else some "BadLengths") else some "BadBound"
  | _ => some "BadBound"
def M_need_lengths : FN
  | [.bw ds, .fz b] => if noDict b && ds.all noDict then (match lensBad ds b with
    | none => .ok (.val .none)
    | some n => .exc n) else .stuck
  | _ => .stuck
/-- a loop over a list whose items are asked one by one -/
theorem ask_loop {tg : TGT} {ws : List Nat} {body : SE} {ρ : Env} {n : String} (p : PyData → Bool) (ds : List PyData) (hs : ∀ d ∈ ds, ∃ ρ', turn tg ws body d ρ = if p d then .nx ρ else .ex n ρ') :
    (ds.all p = true ∧ forGo tg ws body ds ρ = .nx ρ) ∨ (ds.all p = false ∧ ∃ ρ', forGo tg ws body ds ρ = .ex n ρ') := by
  induction ds with
  | nil => exact .inl ⟨rfl, rfl⟩
  | cons d r ih =>
    obtain ⟨ρ', h⟩ := hs d List.mem_cons_self
    rw [forGo_cons, h, List.all_cons]
    cases p d with
    | true =>
      rw [if_pos rfl, Bool.true_and]
      exact ih fun d hd => hs d (List.mem_cons_of_mem _ hd)
    | false =>
      rw [if_neg Bool.false_ne_true, Bool.false_and]
      exact .inr ⟨rfl, ρ', rfl⟩
theorem ok_need_lengths : ∀ as : List SL, as.length = 2 → M_need_lengths as ≠ .stuck → F_need_lengths as = M_need_lengths as := by
  intro as hl h
  clear hl
  unfold M_need_lengths at h ⊢
  split at h
  · rename_i ds b
    try dsimp only
    by_cases hd : (noDict b && ds.all noDict) = true
    · rw [if_pos hd]
      rw [Bool.and_eq_true] at hd
      obtain ⟨hb, hds⟩ := hd
      unfold lensBad
      cases b with
      | int n =>
        by_cases hn : 1 ≤ n ∧ n ≤ 12
        · by_cases hlen : 24 < ds.length
          · have h24 : (24 : Int) < (ds.length : Int) := by omega
            simp [F_need_lengths, runF, g_need_lengths, M_need_bound, hn, hlen, h24]
          · have h24 : ¬ (24 : Int) < (ds.length : Int) := by omega
            have hs := ask_loop (tg := tgN 2) (ws := [2]) (n := "BadLengths") (body := sIf (bNot (bOf (eX (xCall M_is_number (rV (eVar 2) (rV (eC (.int 1)) (rV (eVar 1) rNil))))))) (sRaise "BadLengths") sNext) (ρ := [some (.bw ds), some (.fz (.int n)), none])
              (fun d => isNum d 1 n) ds (fun d hm => ⟨[some (.bw ds), some (.fz (.int n)), some (.fz d)], by
                have hnd : noDict d = true := List.all_eq_true.mp hds d hm
                cases hb : isNum d 1 n <;> simp [turn, M_is_number, eX, hnd, hb]⟩)
            rcases hs with ⟨h1, h2⟩ | ⟨h1, ρ', h2⟩
            · try dsimp only
              rw [if_pos hn, if_neg hlen, h1]
              simp [F_need_lengths, runF, g_need_lengths, M_need_bound, hn, hlen, h24, h2]
            · try dsimp only
              rw [if_pos hn, if_neg hlen, h1]
              simp [F_need_lengths, runF, g_need_lengths, M_need_bound, hn, hlen, h24, h2]
        · simp [F_need_lengths, runF, g_need_lengths, M_need_bound, hn]
      | dict kvs => cases hb
      | _ => simp [F_need_lengths, runF, g_need_lengths, M_need_bound]
    · simp [hd] at h
  · exact absurd rfl h

/-! need_weights: slots 0:weights 1:one -/
def g_need_weights : SE := (sSeq (sIf (bOf (eOp oGt (eLenV (rVar 0)) (eC (.int 24)))) (sRaise "NoWeights") sNext)
  (sFor (sVar 0) (tgN 1) [1] (sIf (bNot (bOf (eX (xCall M_is_number (rV (eVar 1) (rV (eC (.int 0)) (rV (eC (.int 1000000000000)) rNil))))))) (sRaise "BadWeight") sNext)))
def F_need_weights : FN := runF 1 2 g_need_weights
/-- what need_weights says: none, or the class -/
def wBad (ds : List PyData) : Option String := if 24 < ds.length then some "NoWeights" else if ds.all (fun d => isNum d 0 1000000000000) then none else some "BadWeight"
def M_need_weights : FN
  | [.bw ds] => if ds.all noDict then (match wBad ds with
    | none => .ok (.val .none)
    | some n => .exc n) else .stuck
  | _ => .stuck
theorem ok_need_weights : ∀ as : List SL, as.length = 1 → M_need_weights as ≠ .stuck → F_need_weights as = M_need_weights as := by
  intro as hl h
  clear hl
  unfold M_need_weights at h ⊢
  split at h
  · rename_i ds
    try dsimp only
    by_cases hds : ds.all noDict = true
    · rw [if_pos hds]
      unfold wBad
      by_cases hlen : 24 < ds.length
      · have h24 : (24 : Int) < (ds.length : Int) := by omega
        simp [F_need_weights, runF, g_need_weights, hlen, h24]
      · have h24 : ¬ (24 : Int) < (ds.length : Int) := by omega
        have hs := ask_loop (tg := tgN 1) (ws := [1]) (n := "BadWeight") (body := sIf (bNot (bOf (eX (xCall M_is_number (rV (eVar 1) (rV (eC (.int 0)) (rV (eC (.int 1000000000000)) rNil))))))) (sRaise "BadWeight") sNext) (ρ := [some (.bw ds), none])
          (fun d => isNum d 0 1000000000000) ds (fun d hm => ⟨[some (.bw ds), some (.fz d)], by
            have hnd : noDict d = true := List.all_eq_true.mp hds d hm
            cases hb : isNum d 0 1000000000000 <;> simp [turn, M_is_number, eX, hnd, hb]⟩)
        rcases hs with ⟨h1, h2⟩ | ⟨h1, ρ', h2⟩
        · rw [if_neg hlen, h1]
          simp [F_need_weights, runF, g_need_weights, hlen, h24, h2]
        · rw [if_neg hlen, h1]
          simp [F_need_weights, runF, g_need_weights, hlen, h24, h2]
    · simp [hds] at h
  · exact absurd rfl h

/-! doubled: slots 0:times 1:found 2:turn -/
def g_doubled : SE := (sSeq (sSet 1 (eC (.int 1)))
  (sSeq (sFor (wRange1 (eVar 0)) (tgN 2) [2] (sSet 1 (eOp oMul (eVar 1) (eC (.int 2)))))
  (sRet (eVar 1))))
def F_doubled : FN := runF 1 3 g_doubled
/-- the loop that doubles -/
theorem doubles (tg : TGT) (body : SE) (mk : Int → Env) (ws : List Nat) (h : ∀ (a : Int) (k : Int), -(2 ^ 64) < a ∧ a < 2 ^ 64 → turn tg ws body (.int k) (mk a) = .nx (mk (a * 2))) (n : Nat) (hn : n ≤ 60) : forGo tg ws body (rngD 0 n 1) (mk 1) = .nx (mk ((2 : Int) ^ n)) := by
  obtain ⟨ρ', h1, h2⟩ := forGo_inv (tg := tg) (ws := ws) (body := body) (ρ := mk 1) (fun pre ρ => pre.length ≤ n ∧ ρ = mk ((2 : Int) ^ pre.length)) (rngD 0 n 1) ⟨Nat.zero_le _, rfl⟩ (fun pre d post ρ e ⟨hl, hr⟩ => by
    have hlen := congrArg List.length e
    rw [List.length_append, List.length_cons] at hlen
    have hln : (rngD 0 n 1).length = n := by unfold rngD; rw [List.length_map, List.length_range]
    rw [hln] at hlen
    have hd : ∃ k : Int, d = .int k := by
      have hm : d ∈ rngD 0 n 1 := by rw [e]; exact List.mem_append_right _ List.mem_cons_self
      unfold rngD at hm
      obtain ⟨k, _, hk⟩ := List.mem_map.mp hm
      exact ⟨_, hk.symm⟩
    obtain ⟨k, rfl⟩ := hd
    subst hr
    have hb : (2 : Int) ^ pre.length ≤ 2 ^ 60 := by
      have : (2 : Nat) ^ pre.length ≤ 2 ^ 60 := Nat.pow_le_pow_right (by decide) (by omega)
      exact_mod_cast this
    have hp : (0 : Int) < 2 ^ pre.length := Int.pow_pos (by decide)
    refine ⟨mk ((2 : Int) ^ (pre.length + 1)), ?_, by rw [List.length_append]; exact ⟨by show pre.length + 1 ≤ n; omega, rfl⟩⟩
    rw [h _ k ⟨by omega, by omega⟩, Int.pow_succ])
  rw [h1]
  have hln : (rngD 0 n 1).length = n := by unfold rngD; rw [List.length_map, List.length_range]
  rw [h2.2, hln]
def M_doubled : FN
  | [.fz (.int n)] => if n ≤ 60 ∧ -1000 ≤ n then .ok (.val (.int (2 ^ n.toNat))) else .stuck
  | _ => .stuck
theorem ok_doubled : ∀ as : List SL, as.length = 1 → M_doubled as ≠ .stuck → F_doubled as = M_doubled as := by
  intro as hl h
  clear hl
  unfold M_doubled at h ⊢
  split at h
  · rename_i n
    try dsimp only
    by_cases hn : n ≤ 60 ∧ -1000 ≤ n
    · rw [if_pos hn]
      have hl := doubles (tgN 2) (sSet 1 (eOp oMul (eVar 1) (eC (.int 2)))) (fun a => [some (.fz (.int n)), some (.fz (.int a)), none]) [2] (fun a k ha => by simp [turn, oMul_l ha]) n.toNat (by omega)
      have hw : wRange1 (eVar 0) [some (.fz (.int n)), some (.fz (.int 1)), none] = .ok (rngD 0 n.toNat 1) := wRange1_ok rfl ⟨by omega, by omega⟩
      simp [F_doubled, runF, g_doubled, hw, hl]
    · simp [hn] at h
  · exact absurd rfl h

/-! barred: slots 0:weights 1:bound -/
def g_barred : SE := (sSeq (sDropX (xCall M_need_weights (rL (lVar 0) rNil)))
  (sSeq (sDropX (xCall M_need_bound (rV (eVar 1) rNil)))
  (sSeq (sIf (bOf (eOp oGt (eLenV (rVar 0)) (eX (xCall M_doubled (rV (eVar 1) rNil))))) (sRet (eTup [(eLenV (rVar 0)), (eX (xCall M_doubled (rV (eVar 1) rNil)))])) sNext)
  (sRet (eC .none)))))
def F_barred : FN := runF 2 2 g_barred
/-- what barred says of a bound -/
def boundBad (b : PyData) : Option String := match b with
  | .int n => if 1 ≤ n ∧ n ≤ 12 then none else some "BadBound"
  | _ => some "BadBound"
theorem boundBad_none {b : PyData} (h : boundBad b = none) : ∃ n : Int, b = .int n ∧ 1 ≤ n ∧ n ≤ 12 := by
  cases b with
  | int n =>
    unfold boundBad at h
    dsimp only at h
    by_cases hn : 1 ≤ n ∧ n ≤ 12
    · exact ⟨n, rfl, hn⟩
    · rw [if_neg hn] at h; cases h
  | _ => cases h
theorem M_need_bound_eq {b : PyData} (hb : noDict b = true) : M_need_bound [.fz b] = match boundBad b with
    | some c => .exc c
    | none => .ok (.val .none) := by
  unfold M_need_bound boundBad
  cases b with
  | int n =>
    dsimp only
    by_cases hn : 1 ≤ n ∧ n ≤ 12
    · simp [hn]
    · simp [hn]
  | dict kvs => cases hb
  | _ => rfl
/-- what goes first of all that is barred -/
def inBad (ds : List PyData) (b : PyData) : Option String := match wBad ds with
  | some c => some c
  | none => boundBad b
def M_barred : FN
  | [.bw ds, .fz b] => if ds.all noDict && noDict b then (match inBad ds b with
    | some c => .exc c
    | none => (match b with
      | .int n => if 2 ^ n.toNat < ds.length then .ok (.val (.tuple [.int ds.length, .int (2 ^ n.toNat)])) else .ok (.val .none)
      | _ => .stuck)) else .stuck
  | _ => .stuck
theorem ok_barred : ∀ as : List SL, as.length = 2 → M_barred as ≠ .stuck → F_barred as = M_barred as := by
  intro as hl h
  clear hl
  unfold M_barred at h ⊢
  split at h
  · rename_i ds b
    try dsimp only
    by_cases hd : (ds.all noDict && noDict b) = true
    · rw [if_pos hd]
      rw [Bool.and_eq_true] at hd
      obtain ⟨hds, hb⟩ := hd
      unfold inBad
      cases hw : wBad ds with
      | some c => simp [F_barred, runF, g_barred, M_need_weights, hds, hw]
      | none =>
        dsimp only
        cases hbb : boundBad b with
        | some c => simp [F_barred, runF, g_barred, M_need_weights, hds, hw, M_need_bound_eq hb, hbb]
        | none =>
          obtain ⟨n, rfl, h1, h2⟩ := boundBad_none hbb
          have hn : n ≤ 60 ∧ -1000 ≤ n := by omega
          by_cases hlt : 2 ^ n.toNat < ds.length
          · have hlt2 : (2 : Int) ^ n.toNat < (ds.length : Int) := by exact_mod_cast hlt
            simp [F_barred, runF, g_barred, M_need_weights, hds, hw, M_need_bound_eq hb, hbb, M_doubled, hn, hlt, hlt2]
          · have hlt2 : ¬ (2 : Int) ^ n.toNat < (ds.length : Int) := by exact_mod_cast hlt
            simp [F_barred, runF, g_barred, M_need_weights, hds, hw, M_need_bound_eq hb, hbb, M_doubled, hn, hlt, hlt2]
    · rw [if_neg hd] at h; exact absurd rfl h
  · exact absurd rfl h

/-! need_room: slots 0:weights 1:bound -/
def g_need_room : SE := (sIf (bOf (eNotN (eX (xCall M_barred (rL (lVar 0) (rV (eVar 1) rNil)))))) (sRaise "NoRoom") sNext)
def F_need_room : FN := runF 2 2 g_need_room
/-- what need_room says: none, or the class that goes first -/
def roomBad (ds : List PyData) (b : PyData) : Option String := match inBad ds b with
  | some c => some c
  | none => (match b with
    | .int n => if 2 ^ n.toNat < ds.length then some "NoRoom" else none
    | _ => none)
def M_need_room : FN
  | [.bw ds, .fz b] => if ds.all noDict && noDict b then (match roomBad ds b with
    | some c => .exc c
    | none => .ok (.val .none)) else .stuck
  | _ => .stuck
theorem ok_need_room : ∀ as : List SL, as.length = 2 → M_need_room as ≠ .stuck → F_need_room as = M_need_room as := by
  intro as hl h
  clear hl
  unfold M_need_room at h ⊢
  split at h
  · rename_i ds b
    try dsimp only
    by_cases hd : (ds.all noDict && noDict b) = true
    · rw [if_pos hd]
      rw [Bool.and_eq_true] at hd
      obtain ⟨hds, hb⟩ := hd
      unfold roomBad
      cases hw : inBad ds b with
      | some c => simp [F_need_room, runF, g_need_room, M_barred, hds, hb, hw]
      | none =>
        have hbb : boundBad b = none := by
          unfold inBad at hw
          cases hx : wBad ds with
          | some c => rw [hx] at hw; cases hw
          | none => rw [hx] at hw; exact hw
        obtain ⟨n, rfl, h1, h2⟩ := boundBad_none hbb
        by_cases hlt : 2 ^ n.toNat < ds.length
        · simp [F_need_room, runF, g_need_room, M_barred, hds, hb, hw, hlt]
        · simp [F_need_room, runF, g_need_room, M_barred, hds, hb, hw, hlt]
    · rw [if_neg hd] at h; exact absurd rfl h
  · exact absurd rfl h

/-! ### the table's values -/
def optD : Option Int → PyData
  | none => .none
  | some i => .int i
@[simp] theorem isN_optD (o : Option Int) : isN (optD o) = o.isNone := by cases o <;> rfl
def psum (V : Nat → Nat → Option Int) (f m l : Nat) : Option Int := match V f m, V m l with
  | some a, some b => some (a + b)
  | _, _ => none
def stepB (V : Nat → Nat → Option Int) (f l : Nat) (best : Option (Int × Nat)) (m : Nat) : Option (Int × Nat) := match psum V f m l with
  | none => best
  | some h => match best with
    | none => some (h, m)
    | some b => if h < b.1 then some (h, m) else some b
/-- the places between f and l -/
def mids (f l : Nat) : List Nat := List.range' (f + 1) (l - (f + 1))
theorem mem_mids {f l m : Nat} : m ∈ mids f l ↔ f < m ∧ m < l := by
  unfold mids
  rw [List.mem_range'_1]
  omega
def leastB (V : Nat → Nat → Option Int) (f l : Nat) : Option (Int × Nat) := (mids f l).foldl (stepB V f l) none
def bestD : Option (Int × Nat) → PyData
  | none => .none
  | some (a, m) => .tuple [.int a, .int (m : Nat)]
def runW (ws : List Int) (f l : Nat) : Int := ((ws.drop f).take (l - f)).sum
/-- the value of a run at a depth -/
def tval (ws : List Int) : Nat → Nat → Nat → Option Int
  | 0, f, l => if l - f = 1 then some 0 else none
  | d + 1, f, l => if l - f = 1 then some 0 else if 2 ^ (d + 1) < l - f then none else match leastB (tval ws d) f l with
    | some b => some (runW ws f l + b.1)
    | none => none
/-- what holds of the best so far: tried are the places ms, in their order -/
structure BestOf (V : Nat → Nat → Option Int) (f l : Nat) (ms : List Nat) (o : Option (Int × Nat)) : Prop where
  no : o = none → ∀ m ∈ ms, psum V f m l = none
  yes : ∀ a m, o = some (a, m) → m ∈ ms ∧ psum V f m l = some a ∧ ∀ m' ∈ ms, ∀ b, psum V f m' l = some b → a ≤ b ∧ (b = a → m ≤ m')
theorem best_fold (V : Nat → Nat → Option Int) (f l : Nat) : ∀ (rest ms : List Nat) (o : Option (Int × Nat)), (ms ++ rest).Pairwise (· < ·) → BestOf V f l ms o → BestOf V f l (ms ++ rest) (rest.foldl (stepB V f l) o) := by
  intro rest
  induction rest with
  | nil => intro ms o _ h; rw [List.append_nil]; exact h
  | cons x r ih =>
    intro ms o hs h
    have e : ms ++ x :: r = (ms ++ [x]) ++ r := by rw [List.append_assoc]; rfl
    rw [e] at hs ⊢
    refine ih (ms ++ [x]) _ hs ?_
    have hlt : ∀ m ∈ ms, m < x := fun m hm => by
      have h1 := (List.pairwise_append.mp hs).1
      exact (List.pairwise_append.mp h1).2.2 m hm x List.mem_cons_self
    unfold stepB
    cases hp : psum V f x l with
    | none =>
      refine ⟨fun ho m hm => ?_, fun a m ho => ?_⟩
      · rcases List.mem_append.mp hm with hm | hm
        · exact h.no ho m hm
        · rw [List.mem_singleton.mp hm]; exact hp
      · obtain ⟨h1, h2, h3⟩ := h.yes a m ho
        refine ⟨List.mem_append_left _ h1, h2, fun m' hm b hb => ?_⟩
        rcases List.mem_append.mp hm with hm | hm
        · exact h3 m' hm b hb
        · rw [List.mem_singleton.mp hm, hp] at hb; cases hb
    | some v =>
      cases o with
      | none =>
        refine ⟨fun ho => (nomatch ho), fun a m ho => ?_⟩
        cases ho
        refine ⟨List.mem_append_right _ List.mem_cons_self, hp, fun m' hm b hb => ?_⟩
        rcases List.mem_append.mp hm with hm | hm
        · rw [h.no rfl m' hm] at hb; cases hb
        · have := List.mem_singleton.mp hm
          subst this
          rw [hp] at hb
          cases hb
          exact ⟨Int.le_refl _, fun _ => Nat.le_refl _⟩
      | some q =>
        obtain ⟨a0, m0⟩ := q
        obtain ⟨h1, h2, h3⟩ := h.yes a0 m0 rfl
        dsimp only
        by_cases hlt2 : v < a0
        · rw [if_pos hlt2]
          refine ⟨fun ho => (nomatch ho), fun a m ho => ?_⟩
          cases ho
          refine ⟨List.mem_append_right _ List.mem_cons_self, hp, fun m' hm b hb => ?_⟩
          rcases List.mem_append.mp hm with hm | hm
          · have := (h3 m' hm b hb).1
            exact ⟨by omega, fun e => by omega⟩
          · have := List.mem_singleton.mp hm
            subst this
            rw [hp] at hb
            cases hb
            exact ⟨Int.le_refl _, fun _ => Nat.le_refl _⟩
        · rw [if_neg hlt2]
          refine ⟨fun ho => (nomatch ho), fun a m ho => ?_⟩
          cases ho
          refine ⟨List.mem_append_left _ h1, h2, fun m' hm b hb => ?_⟩
          rcases List.mem_append.mp hm with hm | hm
          · exact h3 m' hm b hb
          · have := List.mem_singleton.mp hm
            subst this
            rw [hp] at hb
            cases hb
            have := hlt m0 h1
            exact ⟨by omega, fun _ => by omega⟩
theorem leastB_best (V : Nat → Nat → Option Int) (f l : Nat) : BestOf V f l (mids f l) (leastB V f l) := by
  have := best_fold V f l (mids f l) [] none (by
    rw [List.nil_append]
    unfold mids
    exact List.pairwise_lt_range' ..) ⟨fun _ m hm => (nomatch hm), fun a m ho => (nomatch ho)⟩
  rw [List.nil_append] at this
  exact this
theorem leastB_isSome {V : Nat → Nat → Option Int} {f l m : Nat} (hm : f < m ∧ m < l) (h : psum V f m l ≠ none) : ∃ a m', leastB V f l = some (a, m') ∧ f < m' ∧ m' < l := by
  cases e : leastB V f l with
  | none => exact absurd ((leastB_best V f l).no e m (mem_mids.mpr hm)) h
  | some q =>
    obtain ⟨a, m'⟩ := q
    have := mem_mids.mp ((leastB_best V f l).yes a m' e).1
    exact ⟨a, m', rfl, this⟩
theorem tval_some (ws : List Int) : ∀ (d f l : Nat), f < l → (tval ws d f l ≠ none ↔ l - f ≤ 2 ^ d)
  | 0, f, l, h => by
    unfold tval
    by_cases e : l - f = 1
    · rw [if_pos e]
      exact ⟨fun _ => by omega, fun _ => nofun⟩
    · rw [if_neg e]
      exact ⟨fun z => absurd rfl z, fun z => by omega⟩
  | d + 1, f, l, h => by
    unfold tval
    have hp : 1 ≤ 2 ^ (d + 1) := Nat.one_le_two_pow
    have hp2 : 2 ^ (d + 1) = 2 * 2 ^ d := by rw [Nat.pow_succ, Nat.mul_comm]
    have hpd : 1 ≤ 2 ^ d := Nat.one_le_two_pow
    by_cases e : l - f = 1
    · rw [if_pos e]
      exact ⟨fun _ => by omega, fun _ => nofun⟩
    · rw [if_neg e]
      by_cases h2 : 2 ^ (d + 1) < l - f
      · rw [if_pos h2]
        exact ⟨fun z => absurd rfl z, fun z => by omega⟩
      · rw [if_neg h2]
        have hm : f < f + (l - f) / 2 ∧ f + (l - f) / 2 < l := by omega
        have s1 := (tval_some ws d f (f + (l - f) / 2) hm.1).mpr (by omega)
        have s2 := (tval_some ws d (f + (l - f) / 2) l hm.2).mpr (by omega)
        obtain ⟨a, m', e1, _⟩ := leastB_isSome (V := tval ws d) hm (by
          unfold psum
          cases q1 : tval ws d f (f + (l - f) / 2) with
          | none => exact absurd q1 s1
          | some x =>
            cases q2 : tval ws d (f + (l - f) / 2) l with
            | none => exact absurd q2 s2
            | some y => nofun)
        rw [e1]
        exact ⟨fun _ => by omega, fun _ => nofun⟩
theorem leastB_some {ws : List Int} {d f l : Nat} (h : 2 ≤ l - f) (h2 : l - f ≤ 2 ^ (d + 1)) : ∃ a m, leastB (tval ws d) f l = some (a, m) ∧ f < m ∧ m < l ∧ tval ws (d + 1) f l = some (runW ws f l + a) := by
  have hs := (tval_some ws (d + 1) f l (by omega)).mpr h2
  unfold tval at hs
  rw [if_neg (by omega), if_neg (by omega)] at hs
  cases e : leastB (tval ws d) f l with
  | none => rw [e] at hs; exact absurd rfl hs
  | some q =>
    obtain ⟨a, m⟩ := q
    have := mem_mids.mp ((leastB_best (tval ws d) f l).yes a m e).1
    refine ⟨a, m, rfl, this.1, this.2, ?_⟩
    unfold tval
    rw [if_neg (by omega), if_neg (by omega), e]
/-! ### ranges of naturals -/
theorem rng_nat (a n : Nat) : rngD (a : Int) n 1 = (List.range' a n).map fun k => PyData.int ((k : Nat) : Int) := by
  unfold rngD
  rw [List.range'_eq_map_range, List.map_map]
  congr 1
  funext k
  show PyData.int ((a : Int) + (k : Int) * 1) = PyData.int ((a + k : Nat) : Int)
  congr 1
  omega
theorem rng_mids (f l : Nat) : rngD ((f : Int) + 1) (((l : Int) - ((f : Int) + 1)).toNat) 1 = (mids f l).map fun k => PyData.int ((k : Nat) : Int) := by
  have := rng_nat (f + 1) (l - (f + 1))
  rw [show ((f + 1 : Nat) : Int) = (f : Int) + 1 by omega] at this
  rw [show ((l : Int) - ((f : Int) + 1)).toNat = l - (f + 1) by omega, this]
  rfl
theorem forGo_foldN {α : Type} {tg : TGT} {ws : List Nat} {body : SE} (mk : α → Env) (step : α → Nat → α) (ms : List Nat) (hs : ∀ a, ∀ m ∈ ms, turn tg ws body (.int ((m : Nat) : Int)) (mk a) = .nx (mk (step a m))) (a : α) : forGo tg ws body (ms.map fun k => PyData.int ((k : Nat) : Int)) (mk a) = .nx (mk (ms.foldl step a)) := by
  induction ms generalizing a with
  | nil => rfl
  | cons m r ih =>
    rw [List.map_cons, forGo_cons, hs a m List.mem_cons_self]
    exact ih (fun a k hk => hs a k (List.mem_cons_of_mem _ hk)) (step a m)
/-! ### the table as a dict -/
abbrev Trip := Nat × Nat × Nat
/-- first, last, depth -/
def tkey (t : Trip) : List Int := [(t.1 : Int), (t.2.1 : Int), (t.2.2 : Int)]
def tent (ws : List Int) (t : Trip) : List Int × PyData := (tkey t, optD (tval ws t.2.2 t.1 t.2.1))
theorem tkey_inj {t u : Trip} (h : tkey t = tkey u) : t = u := by
  obtain ⟨a, b, c⟩ := t
  obtain ⟨x, y, z⟩ := u
  unfold tkey at h
  simp only [List.cons.injEq, Int.natCast_inj, and_true] at h
  obtain ⟨h1, h2, h3⟩ := h
  subst h1 h2 h3
  rfl
theorem dGet_tent (ws : List Int) (t : Trip) : ∀ ks : List Trip, dGet (ks.map (tent ws)) (tkey t) = if t ∈ ks then some (optD (tval ws t.2.2 t.1 t.2.1)) else none
  | [] => rfl
  | u :: r => by
    have ih := dGet_tent ws t r
    unfold dGet at ih ⊢
    rw [List.map_cons, List.find?_cons]
    by_cases h : tkey u = tkey t
    · have := tkey_inj h
      subst this
      rw [show decide ((tent ws u).1 = tkey u) = true from decide_eq_true rfl]
      rw [if_pos List.mem_cons_self]
      rfl
    · rw [show decide ((tent ws u).1 = tkey t) = false from decide_eq_false h]
      rw [show (if t ∈ u :: r then some (optD (tval ws t.2.2 t.1 t.2.1)) else none) = if t ∈ r then some (optD (tval ws t.2.2 t.1 t.2.1)) else none by
        by_cases hr : t ∈ r
        · rw [if_pos hr, if_pos (List.mem_cons_of_mem _ hr)]
        · rw [if_neg hr, if_neg (fun z => by
            rcases List.mem_cons.mp z with z | z
            · exact h (by rw [z])
            · exact hr z)]]
      exact ih
theorem dPut_new {kvs : List (List Int × PyData)} {k : List Int} {d : PyData} (h : dGet kvs k = none) : dPut kvs k d = kvs ++ [(k, d)] := by
  unfold dPut
  have : (kvs.any fun p => decide (p.1 = k)) = false := by
    unfold dGet at h
    rw [Option.map_eq_none_iff, List.find?_eq_none] at h
    rw [List.any_eq_false]
    exact h
  rw [this]
  rfl

/-! parts_sum: slots 0:table 1:first 2:middle 3:last 4:depth 5:one 6:other -/
def g_parts_sum : SE := (sSeq (sSet 5 (eDGet 0 [(eVar 1), (eVar 2), (eVar 4)]))
  (sSeq (sSet 6 (eDGet 0 [(eVar 2), (eVar 3), (eVar 4)]))
  (sSeq (sIf (bOr (bOf (eIsN (rVar 5))) (bOf (eIsN (rVar 6)))) (sRet (eC .none)) sNext)
  (sRet (eOp oAdd (eVar 5) (eVar 6))))))
def F_parts_sum : FN := runF 5 7 g_parts_sum
theorem ex_parts_sum : ∃ M : FN, M = F_parts_sum := ⟨_, rfl⟩
def M_parts_sum : FN := ex_parts_sum.choose
theorem M_parts_sum_eq : M_parts_sum = F_parts_sum := ex_parts_sum.choose_spec
theorem ok_parts_sum : ∀ as : List SL, as.length = 5 → M_parts_sum as ≠ .stuck → F_parts_sum as = M_parts_sum as := fun _ _ _ => by rw [M_parts_sum_eq]
def addO : Option Int → Option Int → Option Int
  | some a, some b => some (a + b)
  | _, _ => none
theorem psum_eq {V : Nat → Nat → Option Int} {f m l : Nat} : psum V f m l = addO (V f m) (V m l) := by
  unfold psum addO
  cases V f m <;> cases V m l <;> rfl
theorem M_parts_sum_ok {kvs : List (List Int × PyData)} {f m l d : Int} {a b : Option Int} (h1 : dGet kvs [f, m, d] = some (optD a)) (h2 : dGet kvs [m, l, d] = some (optD b)) : M_parts_sum [.dbw kvs, .fz (.int f), .fz (.int m), .fz (.int l), .fz (.int d)] = .ok (.val (optD (addO a b))) := by
  cases a <;> cases b <;> simp [M_parts_sum_eq, F_parts_sum, runF, g_parts_sum, h1, h2, optD, addO]

/-! least_parts: slots 0:table 1:first 2:last 3:depth 4:best 5:middle 6:here -/
def g_least_parts : SE := (sSeq (sSet 4 (eC .none))
  (sSeq (sFor (wRange2 (eOp oAdd (eVar 1) (eC (.int 1))) (eVar 2)) (tgN 5) [5, 6] (sSeq (sSet 6 (eX (xCall M_parts_sum (rD 0 (rV (eVar 1) (rV (eVar 5) (rV (eVar 2) (rV (eVar 3) rNil))))))))
  (sIf (bAnd (bOf (eNotN (rVar 6))) (bOr (bOf (eIsN (rVar 4))) (bOf (eOp oLt (eVar 6) (eIxT (eVar 4) (eC (.int 0))))))) (sSet 4 (eTup [(eVar 6), (eVar 5)])) sNext)))
  (sRet (eVar 4))))
def F_least_parts : FN := runF 4 7 g_least_parts
theorem ex_least_parts : ∃ M : FN, M = F_least_parts := ⟨_, rfl⟩
def M_least_parts : FN := ex_least_parts.choose
theorem M_least_parts_eq : M_least_parts = F_least_parts := ex_least_parts.choose_spec
theorem ok_least_parts : ∀ as : List SL, as.length = 4 → M_least_parts as ≠ .stuck → F_least_parts as = M_least_parts as := fun _ _ _ => by rw [M_least_parts_eq]
def bodyLP : SE := (sSeq (sSet 6 (eX (xCall M_parts_sum (rD 0 (rV (eVar 1) (rV (eVar 5) (rV (eVar 2) (rV (eVar 3) rNil))))))))
  (sIf (bAnd (bOf (eNotN (rVar 6))) (bOr (bOf (eIsN (rVar 4))) (bOf (eOp oLt (eVar 6) (eIxT (eVar 4) (eC (.int 0))))))) (sSet 4 (eTup [(eVar 6), (eVar 5)])) sNext))
theorem isN_bestD (b : Option (Int × Nat)) : isN (bestD b) = b.isNone := by
  cases b <;> rfl
theorem turnLP {kvs : List (List Int × PyData)} {f l m : Nat} {d : Int} (V : Nat → Nat → Option Int) (b : Option (Int × Nat)) (h1 : dGet kvs [(f : Int), (m : Int), d] = some (optD (V f m))) (h2 : dGet kvs [(m : Int), (l : Int), d] = some (optD (V m l))) :
    turn (tgN 5) [5, 6] bodyLP (.int (m : Int)) [some (.dbw kvs), some (.fz (.int (f : Int))), some (.fz (.int (l : Int))), some (.fz (.int d)), some (.fz (bestD b)), none, none] = .nx [some (.dbw kvs), some (.fz (.int (f : Int))), some (.fz (.int (l : Int))), some (.fz (.int d)), some (.fz (bestD (stepB V f l b m))), none, none] := by
  have hp := M_parts_sum_ok h1 h2
  rw [← psum_eq] at hp
  cases e : psum V f m l with
  | none =>
    have : stepB V f l b m = b := by unfold stepB; rw [e]
    rw [this]
    rw [e] at hp
    simp [turn, bodyLP, hp, optD]
  | some h =>
    rw [e] at hp
    cases b with
    | none =>
      have : stepB V f l none m = some (h, m) := by unfold stepB; rw [e]
      rw [this]
      simp [turn, bodyLP, hp, optD, isN_bestD, bestD]
    | some q =>
      have hx : ∀ z0 z1 z2 z3 z5 z6 : Option SL, eIxT (eVar 4) (eC (.int 0)) [z0, z1, z2, z3, some (.fz (bestD (some q))), z5, z6] = .ok (.int q.1) := fun _ _ _ _ _ _ => eIxT_ok (ds := [.int q.1, .int (q.2 : Int)]) rfl rfl rfl
      by_cases hlt : h < q.1
      · have : stepB V f l (some q) m = some (h, m) := by unfold stepB; rw [e]; exact if_pos hlt
        rw [this]
        simp [turn, bodyLP, hp, optD, isN_bestD, hx, hlt]
        rfl
      · have : stepB V f l (some q) m = some q := by unfold stepB; rw [e]; exact if_neg hlt
        rw [this]
        simp [turn, bodyLP, hp, optD, isN_bestD, hx, hlt]
theorem M_least_parts_ok {kvs : List (List Int × PyData)} {f l : Nat} {d : Int} (V : Nat → Nat → Option Int) (hl : l < 1000000) (hf : f < 1000000) (h : ∀ m : Nat, f < m → m < l → dGet kvs [(f : Int), (m : Int), d] = some (optD (V f m)) ∧ dGet kvs [(m : Int), (l : Int), d] = some (optD (V m l))) :
    M_least_parts [.dbw kvs, .fz (.int (f : Int)), .fz (.int (l : Int)), .fz (.int d)] = .ok (.val (bestD (leastB V f l))) := by
  have hs := forGo_foldN (tg := tgN 5) (ws := [5, 6]) (body := bodyLP)
    (fun b => [some (.dbw kvs), some (.fz (.int (f : Int))), some (.fz (.int (l : Int))), some (.fz (.int d)), some (.fz (bestD b)), none, none]) (stepB V f l) (mids f l) (fun b m hm => turnLP V b (h m (mem_mids.mp hm).1 (mem_mids.mp hm).2).1 (h m (mem_mids.mp hm).1 (mem_mids.mp hm).2).2) none
  have hw : wRange2 (eOp oAdd (eVar 1) (eC (.int 1))) (eVar 2) [some (.dbw kvs), some (.fz (.int (f : Int))), some (.fz (.int (l : Int))), some (.fz (.int d)), some (.fz .none), none, none] = .ok ((mids f l).map fun k => PyData.int ((k : Nat) : Int)) := by
    rw [← rng_mids]
    exact wRange2_ok rfl rfl ⟨by omega, by omega⟩ ⟨by omega, by omega⟩
  have hg : g_least_parts = sSeq (sSet 4 (eC .none)) (sSeq (sFor (wRange2 (eOp oAdd (eVar 1) (eC (.int 1))) (eVar 2)) (tgN 5) [5, 6] bodyLP) (sRet (eVar 4))) := rfl
  have hs2 : forGo (tgN 5) [5, 6] bodyLP ((mids f l).map fun k => PyData.int ((k : Nat) : Int)) [some (.dbw kvs), some (.fz (.int (f : Int))), some (.fz (.int (l : Int))), some (.fz (.int d)), some (.fz .none), none, none] = .nx [some (.dbw kvs), some (.fz (.int (f : Int))), some (.fz (.int (l : Int))), some (.fz (.int d)), some (.fz (bestD (leastB V f l))), none, none] := hs
  rw [M_least_parts_eq]
  unfold F_least_parts
  refine runF_rt [some (.dbw kvs), some (.fz (.int (f : Int))), some (.fz (.int (l : Int))), some (.fz (.int d)), none, none, none] rfl rfl (ρ' := [some (.dbw kvs), some (.fz (.int (f : Int))), some (.fz (.int (l : Int))), some (.fz (.int d)), some (.fz (bestD (leastB V f l))), none, none]) ?_
  rw [hg, seq_nx (show sSet 4 (eC .none) _ = .nx [some (.dbw kvs), some (.fz (.int (f : Int))), some (.fz (.int (l : Int))), some (.fz (.int d)), some (.fz .none), none, none] from rfl), seq_nx (by rw [for_of hw]; exact hs2)]
  rfl

/-! entry: slots 0:weights 1:table 2:first 3:last 4:depth -/
def g_entry : SE := (sSeq (sIf (bOf (eOp oEq (eOp oSub (eVar 3) (eVar 2)) (eC (.int 1)))) (sRet (eC (.int 0))) sNext)
  (sSeq (sIf (bOf (eOp oGt (eOp oSub (eVar 3) (eVar 2)) (eX (xCall M_doubled (rV (eVar 4) rNil))))) (sRet (eC .none)) sNext)
  (sRet (eOp oAdd (eSum (lSl (lVar 0) (oPart (eVar 2)) (oPart (eVar 3)))) (eIxT (eX (xCall M_least_parts (rD 1 (rV (eVar 2) (rV (eVar 3) (rV (eOp oSub (eVar 4) (eC (.int 1))) rNil)))))) (eC (.int 0)))))))
def F_entry : FN := runF 5 5 g_entry
theorem ex_entry : ∃ M : FN, M = F_entry := ⟨_, rfl⟩
def M_entry : FN := ex_entry.choose
theorem M_entry_eq : M_entry = F_entry := ex_entry.choose_spec
theorem ok_entry : ∀ as : List SL, as.length = 5 → M_entry as ≠ .stuck → F_entry as = M_entry as := fun _ _ _ => by rw [M_entry_eq]
theorem eSum_run {ws : List Int} {f l : Nat} {a : LE} {p q : OE} {ρ : Env} (ha : a ρ = .ok (ws.map PyData.int)) (hp : p ρ = .ok (some (f : Int))) (hq : q ρ = .ok (some (l : Int))) (hl : l ≤ ws.length) : eSum (lSl a p q) ρ = .ok (.int (runW ws f l)) := by
  refine eSum_ok (ds := ((ws.drop f).take (l - f)).map PyData.int) ?_ (asInts_DI _)
  rw [lSl_ap, ha, Out.bind_ok, hp, Out.bind_ok, hq, Out.bind_ok, cutD_mid _ _ _ (by rw [List.length_map]; exact hl), List.map_take, List.map_drop]
theorem M_entry_ok {ws : List Int} {kvs : List (List Int × PyData)} {f l d : Nat} (h0 : f < l) (hl : l ≤ ws.length) (hw : ws.length ≤ 24) (hd : d ≤ 12)
    (h : ∀ d', d = d' + 1 → ∀ m : Nat, f < m → m < l → dGet kvs [(f : Int), (m : Int), (d' : Int)] = some (optD (tval ws d' f m)) ∧ dGet kvs [(m : Int), (l : Int), (d' : Int)] = some (optD (tval ws d' m l))) :
    M_entry [.bw (ws.map PyData.int), .dbw kvs, .fz (.int (f : Int)), .fz (.int (l : Int)), .fz (.int (d : Int))] = .ok (.val (optD (tval ws d f l))) := by
  rw [M_entry_eq]
  unfold F_entry
  refine runF_rt [some (.bw (ws.map PyData.int)), some (.dbw kvs), some (.fz (.int (f : Int))), some (.fz (.int (l : Int))), some (.fz (.int (d : Int)))] rfl rfl (ρ' := [some (.bw (ws.map PyData.int)), some (.dbw kvs), some (.fz (.int (f : Int))), some (.fz (.int (l : Int))), some (.fz (.int (d : Int)))]) ?_
  unfold g_entry
  by_cases h1 : l - f = 1
  · have h2 : (l : Int) - (f : Int) = 1 := by omega
    have h3 : tval ws d f l = some 0 := by
      cases d with
      | zero => unfold tval; rw [if_pos h1]
      | succ d => unfold tval; rw [if_pos h1]
    rw [h3]
    simp [h2, optD]
  · have h2 : ¬ (l : Int) - (f : Int) = 1 := by omega
    have hdd : (d : Int) ≤ 60 ∧ -1000 ≤ (d : Int) := by omega
    by_cases h3 : 2 ^ d < l - f
    · have h4 : (2 : Int) ^ d < (l : Int) - (f : Int) := by
        have : ((2 ^ d : Nat) : Int) < ((l - f : Nat) : Int) := by exact_mod_cast h3
        rw [Int.natCast_pow] at this
        have e : ((l - f : Nat) : Int) = (l : Int) - (f : Int) := by omega
        rw [e] at this
        exact this
      have h5 : tval ws d f l = none := by
        cases d with
        | zero => unfold tval; rw [if_neg h1]
        | succ d => unfold tval; rw [if_neg h1, if_pos h3]
      rw [h5]
      simp [h2, M_doubled, hdd, h4, optD]
    · have h4 : ¬ (2 : Int) ^ d < (l : Int) - (f : Int) := by
        intro z
        apply h3
        have : ((2 ^ d : Nat) : Int) < ((l - f : Nat) : Int) := by
          rw [Int.natCast_pow]
          have e : ((l - f : Nat) : Int) = (l : Int) - (f : Int) := by omega
          rw [e]
          exact z
        exact_mod_cast this
      cases d with
      | zero => exact absurd (show 2 ^ 0 < l - f by omega) h3
      | succ d =>
        generalize hD : ((d + 1 : Nat) : Int) = D at hdd h4 ⊢
        obtain ⟨a, m, e1, e2, e3, e4⟩ := leastB_some (ws := ws) (d := d) (f := f) (l := l) (by omega) (by omega)
        have hp := M_least_parts_ok (kvs := kvs) (f := f) (l := l) (d := (d : Int)) (tval ws d) (by omega) (by omega) (h d rfl)
        rw [e1] at hp
        have hs : eSum (lSl (lVar 0) (oPart (eVar 2)) (oPart (eVar 3))) [some (.bw (ws.map PyData.int)), some (.dbw kvs), some (.fz (.int (f : Int))), some (.fz (.int (l : Int))), some (.fz (.int D))] = .ok (.int (runW ws f l)) := eSum_run rfl rfl rfl hl
        have hx : eIxT (eX (xCall M_least_parts (rD 1 (rV (eVar 2) (rV (eVar 3) (rV (eOp oSub (eVar 4) (eC (.int 1))) rNil)))))) (eC (.int 0)) [some (.bw (ws.map PyData.int)), some (.dbw kvs), some (.fz (.int (f : Int))), some (.fz (.int (l : Int))), some (.fz (.int D))] = .ok (.int a) := by
          have hc : D - 1 = (d : Int) := by omega
          refine eIxT_ok (ds := [.int a, .int (m : Int)]) (eX_val ?_) rfl rfl
          simp only [bestD] at hp
          simp only [xCall_ap, rD_ap, rV_ap, rNil_ap, dVar_s, dVar_0b, eVar_s, eVar_0, eOp_ap, eC_ap, oSub_i, Out.bind_ok, hc, hp]
        rw [e4]
        have hdt : D.toNat = d + 1 := by omega
        have hmd : M_doubled [.fz (.int D)] = .ok (.val (.int (2 ^ (d + 1)))) := by
          unfold M_doubled
          dsimp only
          rw [if_pos hdd, hdt]
        simp only [sSeq_ap, sIf_ap, bOf_ap, eOp_ap, eVar_s, eVar_0, Out.bind_ok, oSub_i, eC_ap, oEq_i, h2, decide_false, wOut_ok, Bool.false_eq_true, if_false, sNext_ap, SO.then_nx, oGt_i, sRet_ap, hs, hx, oAdd_i, optD]
        rw [eX_val (show xCall M_doubled (rV (eVar 4) rNil) [some (.bw (ws.map PyData.int)), some (.dbw kvs), some (.fz (.int (f : Int))), some (.fz (.int (l : Int))), some (.fz (.int D))] = .ok (.val (.int (2 ^ (d + 1)))) by simp only [xCall_ap, rV_ap, rNil_ap, eVar_s, eVar_0, Out.bind_ok, hmd])]
        simp [h4, hs, hx, optD]

/-! least_table: slots 0:weights 1:bound 2:table 3:depth 4:first 5:last -/
def g_least_table : SE := (sSeq (sDropX (xCall M_need_room (rL (lVar 0) (rV (eVar 1) rNil))))
  (sSeq (sSetD 2)
  (sSeq (sFor (wRange1 (eOp oAdd (eVar 1) (eC (.int 1)))) (tgN 3) [3, 4, 5] (sFor (wRange1 (eLenV (rVar 0))) (tgN 4) [4, 5] (sFor (wRange2 (eOp oAdd (eVar 4) (eC (.int 1))) (eOp oAdd (eLenV (rVar 0)) (eC (.int 1)))) (tgN 5) [5] (sDPutE 2 [(eVar 4), (eVar 5), (eVar 3)] (eX (xCall M_entry (rL (lVar 0) (rD 2 (rV (eVar 4) (rV (eVar 5) (rV (eVar 3) rNil)))))))))))
  (sRetO 2))))
def F_least_table : FN := runF 2 6 g_least_table
theorem ex_least_table : ∃ M : FN, M = F_least_table := ⟨_, rfl⟩
def M_least_table : FN := ex_least_table.choose
theorem M_least_table_eq : M_least_table = F_least_table := ex_least_table.choose_spec
theorem ok_least_table : ∀ as : List SL, as.length = 2 → M_least_table as ≠ .stuck → F_least_table as = M_least_table as := fun _ _ _ => by rw [M_least_table_eq]
theorem forGo_steps {tg : TGT} {ws : List Nat} {body : SE} : ∀ (n a : Nat) (st : Nat → Env), (∀ j, j < n → turn tg ws body (.int ((a + j : Nat) : Int)) (st j) = .nx (st (j + 1))) → forGo tg ws body ((List.range' a n).map fun k => PyData.int ((k : Nat) : Int)) (st 0) = .nx (st n)
  | 0, _, _, _ => rfl
  | n + 1, a, st, h => by
    have h0 := h 0 (by omega)
    rw [Nat.add_zero] at h0
    rw [List.range'_succ, List.map_cons, forGo_cons, h0]
    have ih := forGo_steps n (a + 1) (fun j => st (j + 1)) (fun j hj => by
      have := h (j + 1) (by omega)
      rw [show a + (j + 1) = a + 1 + j by omega] at this
      exact this)
    exact ih
/-- the keys put in, in their order -/
def T1 (d f j : Nat) : List Trip := (List.range' (f + 1) j).map fun l => (f, l, d)
def T2 (n d j : Nat) : List Trip := (List.range j).flatMap fun f => T1 d f (n - f)
def T3 (n j : Nat) : List Trip := (List.range j).flatMap fun d => T2 n d n
theorem T1_s (d f j : Nat) : T1 d f (j + 1) = T1 d f j ++ [(f, f + 1 + j, d)] := by
  unfold T1
  rw [List.range'_concat, List.map_append, Nat.one_mul]
  rfl
theorem T2_s (n d j : Nat) : T2 n d (j + 1) = T2 n d j ++ T1 d j (n - j) := by
  unfold T2
  rw [List.range_succ, List.flatMap_append]
  simp
theorem T3_s (n j : Nat) : T3 n (j + 1) = T3 n j ++ T2 n j n := by
  unfold T3
  rw [List.range_succ, List.flatMap_append]
  simp
theorem mem_T1 {d f j : Nat} {t : Trip} : t ∈ T1 d f j ↔ t.1 = f ∧ t.2.2 = d ∧ f < t.2.1 ∧ t.2.1 < f + 1 + j := by
  unfold T1
  rw [List.mem_map]
  constructor
  · rintro ⟨l, hl, rfl⟩
    rw [List.mem_range'_1] at hl
    dsimp only
    omega
  · rintro ⟨h1, h2, h3, h4⟩
    refine ⟨t.2.1, by rw [List.mem_range'_1]; omega, ?_⟩
    obtain ⟨x, y, z⟩ := t
    dsimp only at h1 h2
    subst h1 h2
    rfl
theorem mem_T2 {n d j : Nat} {t : Trip} : t ∈ T2 n d j ↔ t.1 < j ∧ t.2.2 = d ∧ t.1 < t.2.1 ∧ t.2.1 < t.1 + 1 + (n - t.1) := by
  unfold T2
  rw [List.mem_flatMap]
  constructor
  · rintro ⟨f, hf, ht⟩
    rw [List.mem_range] at hf
    have := mem_T1.mp ht
    obtain ⟨h1, h2, h3, h4⟩ := this
    subst h1
    exact ⟨hf, h2, h3, h4⟩
  · rintro ⟨h1, h2, h3, h4⟩
    exact ⟨t.1, List.mem_range.mpr h1, mem_T1.mpr ⟨rfl, h2, h3, h4⟩⟩
theorem mem_T3 {n j : Nat} {t : Trip} : t ∈ T3 n j ↔ t.2.2 < j ∧ t.1 < t.2.1 ∧ t.2.1 ≤ n := by
  unfold T3
  rw [List.mem_flatMap]
  constructor
  · rintro ⟨d, hd, ht⟩
    rw [List.mem_range] at hd
    obtain ⟨h1, h2, h3, h4⟩ := mem_T2.mp ht
    omega
  · rintro ⟨h1, h2, h3⟩
    exact ⟨t.2.2, List.mem_range.mpr h1, mem_T2.mpr ⟨by omega, rfl, h2, by omega⟩⟩
theorem len_T1 (d f j : Nat) : (T1 d f j).length = j := by
  unfold T1
  rw [List.length_map, List.length_range']
theorem len_T2 (n d : Nat) : ∀ j, j ≤ n → 2 * (T2 n d j).length + (n - j) * (n - j + 1) = n * (n + 1)
  | 0, _ => by
    show 2 * 0 + _ = _
    rw [Nat.sub_zero]
    omega
  | j + 1, h => by
    have ih := len_T2 n d j (by omega)
    rw [T2_s, List.length_append, len_T1]
    obtain ⟨m, hm⟩ : ∃ m, n - j = m + 1 := ⟨n - j - 1, by omega⟩
    have hm2 : n - (j + 1) = m := by omega
    rw [hm] at ih ⊢
    rw [hm2]
    have e : (m + 1) * (m + 1 + 1) = m * (m + 1) + 2 * (m + 1) := by
      rw [Nat.mul_comm (m + 1) (m + 1 + 1), Nat.add_mul (m + 1) 1, Nat.add_mul m 1]
      omega
    omega
theorem len_T2n (n d : Nat) : (T2 n d n).length = n * (n + 1) / 2 := by
  have := len_T2 n d n (Nat.le_refl _)
  rw [Nat.sub_self, Nat.zero_mul] at this
  omega
theorem len_T3 (n : Nat) : ∀ j, (T3 n j).length = j * (n * (n + 1) / 2)
  | 0 => by
    rw [Nat.zero_mul]
    rfl
  | j + 1 => by rw [T3_s, List.length_append, len_T3 n j, len_T2n, Nat.succ_mul]
theorem len_T2_le {n d j : Nat} (hn : n ≤ 24) (hj : j ≤ n) : (T2 n d j).length ≤ 300 := by
  have := len_T2 n d j hj
  have : n * (n + 1) ≤ 24 * 25 := Nat.mul_le_mul hn (by omega)
  omega
theorem len_T3_le {n j : Nat} (hn : n ≤ 24) (hj : j ≤ 13) : (T3 n j).length ≤ 3900 := by
  rw [len_T3]
  have : n * (n + 1) ≤ 24 * 25 := Nat.mul_le_mul hn (by omega)
  have h2 : n * (n + 1) / 2 ≤ 300 := by omega
  calc j * (n * (n + 1) / 2) ≤ 13 * 300 := Nat.mul_le_mul hj h2
    _ = 3900 := rfl
/-- the table of a list of weights -/
def tabOf (ws : List Int) (b : Nat) : List (List Int × PyData) := (T3 ws.length (b + 1)).map (tent ws)
theorem tab_get {ws : List Int} {b f l d : Nat} (h1 : f < l) (h2 : l ≤ ws.length) (h3 : d ≤ b) : dGet (tabOf ws b) [(f : Int), (l : Int), (d : Int)] = some (optD (tval ws d f l)) := by
  have := dGet_tent ws (f, l, d) (T3 ws.length (b + 1))
  rw [if_pos (mem_T3.mpr ⟨by show d < b + 1; omega, h1, h2⟩)] at this
  exact this
abbrev bodyLT3 : SE := sDPutE 2 [(eVar 4), (eVar 5), (eVar 3)] (eX (xCall M_entry (rL (lVar 0) (rD 2 (rV (eVar 4) (rV (eVar 5) (rV (eVar 3) rNil)))))))
abbrev bodyLT2 : SE := sFor (wRange2 (eOp oAdd (eVar 4) (eC (.int 1))) (eOp oAdd (eLenV (rVar 0)) (eC (.int 1)))) (tgN 5) [5] bodyLT3
abbrev bodyLT1 : SE := sFor (wRange1 (eLenV (rVar 0))) (tgN 4) [4, 5] bodyLT2
section
variable {ws : List Int} {b : Int}
abbrev envLT (ws : List Int) (b : Int) (K : List Trip) (x y z : Option SL) : Env := [some (.bw (ws.map PyData.int)), some (.fz (.int b)), some (.dow (K.map (tent ws))), x, y, z]
theorem turnLT3 {d f j : Nat} {x : Option SL} (hn : ws.length ≤ 24) (hf : f < ws.length) (hd : d ≤ 12) (hj : j < ws.length - f) :
    turn (tgN 5) [5] bodyLT3 (.int ((f + 1 + j : Nat) : Int)) (envLT ws b (T3 ws.length d ++ T2 ws.length d f ++ T1 d f j) (some (.fz (.int (d : Int)))) (some (.fz (.int (f : Int)))) x)
      = .nx (envLT ws b (T3 ws.length d ++ T2 ws.length d f ++ T1 d f (j + 1)) (some (.fz (.int (d : Int)))) (some (.fz (.int (f : Int)))) none) := by
  have he := M_entry_ok (ws := ws) (kvs := (T3 ws.length d ++ T2 ws.length d f ++ T1 d f j).map (tent ws)) (f := f) (l := f + 1 + j) (d := d) (by omega) (by omega) hn hd (fun d' e m h1 h2 => by
    have g1 := dGet_tent ws (f, m, d') (T3 ws.length d ++ T2 ws.length d f ++ T1 d f j)
    have g2 := dGet_tent ws (m, f + 1 + j, d') (T3 ws.length d ++ T2 ws.length d f ++ T1 d f j)
    rw [if_pos (List.mem_append_left _ (List.mem_append_left _ (mem_T3.mpr ⟨by show d' < d; omega, h1, by show m ≤ ws.length; omega⟩)))] at g1
    rw [if_pos (List.mem_append_left _ (List.mem_append_left _ (mem_T3.mpr ⟨by show d' < d; omega, h2, by show f + 1 + j ≤ ws.length; omega⟩)))] at g2
    exact ⟨g1, g2⟩)
  have hnew := dGet_tent ws (f, f + 1 + j, d) (T3 ws.length d ++ T2 ws.length d f ++ T1 d f j)
  rw [if_neg (fun z => by
    rcases List.mem_append.mp z with z | z
    · rcases List.mem_append.mp z with z | z
      · have := (mem_T3.mp z).1; dsimp only at this; omega
      · have := (mem_T2.mp z).1; dsimp only at this; omega
    · have := (mem_T1.mp z).2.2.2; dsimp only at this; omega)] at hnew
  have hput := dPut_new (d := optD (tval ws d f (f + 1 + j))) hnew
  have hlen : ((T3 ws.length d ++ T2 ws.length d f ++ T1 d f j).map (tent ws)).length < 1000000 := by
    rw [List.length_map, List.length_append, List.length_append, len_T1]
    have := len_T3_le (n := ws.length) (j := d) hn (by omega)
    have := len_T2_le (n := ws.length) (d := d) (j := f) hn (by omega)
    omega
  rw [T1_s, ← List.append_assoc]
  unfold envLT
  rw [show (T3 ws.length d ++ T2 ws.length d f ++ T1 d f j ++ [(f, f + 1 + j, d)]).map (tent ws) = (T3 ws.length d ++ T2 ws.length d f ++ T1 d f j).map (tent ws) ++ [tent ws (f, f + 1 + j, d)] by rw [List.map_append]; rfl]
  generalize (T3 ws.length d ++ T2 ws.length d f ++ T1 d f j).map (tent ws) = kvs at *
  have hp2 : dPut kvs [(f : Int), ((f + 1 + j : Nat) : Int), (d : Int)] (optD (tval ws d f (f + 1 + j))) = kvs ++ [tent ws (f, f + 1 + j, d)] := hput
  generalize ((f + 1 + j : Nat) : Int) = L at he hp2 ⊢
  simp [turn, sDPutE, he, hp2, hlen]
theorem turnLT2 {d f : Nat} {x : Option SL} (hn : ws.length ≤ 24) (hf : f < ws.length) (hd : d ≤ 12) :
    turn (tgN 4) [4, 5] bodyLT2 (.int ((0 + f : Nat) : Int)) (envLT ws b (T3 ws.length d ++ T2 ws.length d f) (some (.fz (.int (d : Int)))) x none)
      = .nx (envLT ws b (T3 ws.length d ++ T2 ws.length d (f + 1)) (some (.fz (.int (d : Int)))) none none) := by
  have hs := forGo_steps (tg := tgN 5) (ws := [5]) (body := bodyLT3) (ws.length - f) (f + 1) (fun j => envLT ws b (T3 ws.length d ++ T2 ws.length d f ++ T1 d f j) (some (.fz (.int (d : Int)))) (some (.fz (.int (f : Int)))) none) (fun j hj => turnLT3 hn hf hd hj)
  rw [show T3 ws.length d ++ T2 ws.length d f ++ T1 d f 0 = T3 ws.length d ++ T2 ws.length d f by rw [show T1 d f 0 = [] from rfl, List.append_nil]] at hs
  rw [T2_s, ← List.append_assoc]
  generalize T3 ws.length d ++ T2 ws.length d f = K at hs ⊢
  have hw : wRange2 (eOp oAdd (eVar 4) (eC (.int 1))) (eOp oAdd (eLenV (rVar 0)) (eC (.int 1))) (envLT ws b K (some (.fz (.int (d : Int)))) (some (.fz (.int (f : Int)))) none) = .ok ((List.range' (f + 1) (ws.length - f)).map fun k => PyData.int ((k : Nat) : Int)) := by
    have := rng_nat (f + 1) (ws.length - f)
    rw [← this]
    rw [wRange2_ok (n := (f : Int) + 1) (m := (ws.length : Int) + 1) (by simp) (by simp) ⟨by omega, by omega⟩ ⟨by omega, by omega⟩]
    rw [show ((ws.length : Int) + 1 - ((f : Int) + 1)).toNat = ws.length - f by omega]
    rfl
  rw [Nat.zero_add]
  exact (turn_nx (ρ1 := envLT ws b K (some (.fz (.int (d : Int)))) (some (.fz (.int (f : Int)))) none) (ρ2 := envLT ws b (K ++ T1 d f (ws.length - f)) (some (.fz (.int (d : Int)))) (some (.fz (.int (f : Int)))) none) rfl ((for_of hw).trans hs)).trans rfl
theorem turnLT1 {d : Nat} {x : Option SL} (hn : ws.length ≤ 24) (hd : d ≤ 12) :
    turn (tgN 3) [3, 4, 5] bodyLT1 (.int ((0 + d : Nat) : Int)) (envLT ws b (T3 ws.length d) x none none)
      = .nx (envLT ws b (T3 ws.length (d + 1)) none none none) := by
  have hs := forGo_steps (tg := tgN 4) (ws := [4, 5]) (body := bodyLT2) ws.length 0 (fun j => envLT ws b (T3 ws.length d ++ T2 ws.length d j) (some (.fz (.int (d : Int)))) none none) (fun j hj => turnLT2 hn hj hd)
  rw [show T3 ws.length d ++ T2 ws.length d 0 = T3 ws.length d by rw [show T2 ws.length d 0 = [] from rfl, List.append_nil], ← T3_s] at hs
  have hw : wRange1 (eLenV (rVar 0)) (envLT ws b (T3 ws.length d) (some (.fz (.int (d : Int)))) none none) = .ok ((List.range' 0 ws.length).map fun k => PyData.int ((k : Nat) : Int)) := by
    rw [← rng_nat 0 ws.length]
    rw [wRange1_ok (n := (ws.length : Int)) (by simp) ⟨by omega, by omega⟩]
    rfl
  rw [Nat.zero_add]
  exact (turn_nx (ρ1 := envLT ws b (T3 ws.length d) (some (.fz (.int (d : Int)))) none none) (ρ2 := envLT ws b (T3 ws.length (d + 1)) (some (.fz (.int (d : Int)))) none none) rfl ((for_of hw).trans hs)).trans rfl
end
theorem g_least_table_eq : g_least_table = sSeq (sDropX (xCall M_need_room (rL (lVar 0) (rV (eVar 1) rNil)))) (sSeq (sSetD 2) (sSeq (sFor (wRange1 (eOp oAdd (eVar 1) (eC (.int 1)))) (tgN 3) [3, 4, 5] bodyLT1) (sRetO 2))) := rfl
theorem noDict_DI (ns : List Int) : (ns.map PyData.int).all noDict = true := by
  rw [List.all_eq_true]
  intro d hd
  obtain ⟨k, _, rfl⟩ := List.mem_map.mp hd
  rfl
theorem M_least_table_ok {ws : List Int} {b : Nat} (hn : ws.length ≤ 24) (hb : b ≤ 12) (hr : roomBad (ws.map PyData.int) (.int (b : Int)) = none) : M_least_table [.bw (ws.map PyData.int), .fz (.int (b : Int))] = .ok (.dfresh (tabOf ws b)) := by
  rw [M_least_table_eq]
  unfold F_least_table
  refine runF_rt [some (.bw (ws.map PyData.int)), some (.fz (.int (b : Int))), none, none, none, none] rfl rfl (ρ' := envLT ws (b : Int) (T3 ws.length (b + 1)) none none none) ?_
  have hm : M_need_room [.bw (ws.map PyData.int), .fz (.int (b : Int))] = .ok (.val .none) := by
    unfold M_need_room
    dsimp only
    rw [if_pos (by rw [noDict_DI]; rfl), hr]
  have hs := forGo_steps (tg := tgN 3) (ws := [3, 4, 5]) (body := bodyLT1) (b + 1) 0 (fun j => envLT ws (b : Int) (T3 ws.length j) none none none) (fun j hj => turnLT1 hn (by omega))
  have hw : wRange1 (eOp oAdd (eVar 1) (eC (.int 1))) (envLT ws (b : Int) [] none none none) = .ok ((List.range' 0 (b + 1)).map fun k => PyData.int ((k : Nat) : Int)) := by
    rw [← rng_nat 0 (b + 1)]
    rw [wRange1_ok (n := (b : Int) + 1) (by simp) ⟨by omega, by omega⟩]
    rfl
  rw [g_least_table_eq]
  rw [seq_nx (ρ' := [some (.bw (ws.map PyData.int)), some (.fz (.int (b : Int))), none, none, none, none]) (by simp [hm])]
  rw [seq_nx (show sSetD 2 [some (.bw (ws.map PyData.int)), some (.fz (.int (b : Int))), none, none, none, none] = .nx (envLT ws (b : Int) [] none none none) from rfl)]
  rw [seq_nx (ρ' := envLT ws (b : Int) (T3 ws.length (b + 1)) none none none) (by rw [for_of hw]; exact hs)]
  rfl

theorem roomBad_ok {ws : List Int} {b : Nat} (hw : ∀ w ∈ ws, 0 ≤ w ∧ w ≤ 1000000000000) (hn : ws.length ≤ 24) (h1 : 1 ≤ b) (h2 : b ≤ 12) (h3 : ws.length ≤ 2 ^ b) : roomBad (ws.map PyData.int) (.int (b : Int)) = none := by
  have e1 : wBad (ws.map PyData.int) = none := by
    unfold wBad
    rw [if_neg (by rw [List.length_map]; omega), if_pos]
    rw [List.all_eq_true]
    intro d hd
    obtain ⟨k, hk, rfl⟩ := List.mem_map.mp hd
    exact decide_eq_true (hw k hk)
  have e2 : boundBad (.int (b : Int)) = none := by
    unfold boundBad
    dsimp only
    rw [if_pos (by omega)]
  unfold roomBad inBad
  rw [e1]
  dsimp only
  rw [e2]
  dsimp only
  rw [if_neg (by rw [List.length_map, show ((b : Int)).toNat = b by omega]; omega)]
/-- a loop over naturals that changes nothing -/
theorem pass_nat {tg : TGT} {ws : List Nat} {body : SE} {ρ : Env} {w : LE} {a n : Nat} (hw : w ρ = .ok (rngD (a : Int) n 1)) (h : ∀ k, a ≤ k → k < a + n → turn tg ws body (.int ((k : Nat) : Int)) ρ = .nx ρ) : sFor w tg ws body ρ = .nx ρ := by
  rw [for_of hw, rng_nat]
  refine forGo_pass _ fun d hd => ?_
  obtain ⟨k, hk, rfl⟩ := List.mem_map.mp hd
  rw [List.mem_range'_1] at hk
  exact h k hk.1 hk.2

def okWd (s : Str) : Prop := (1 ≤ s.length ∧ s.length ≤ 12) ∧ ∀ c ∈ s.cps.toList, c = 48 ∨ c = 49
def isBitN (c : Nat) : Bool := c == 48 || c == 49
theorem isBitN_t {c : Nat} : isBitN c = true ↔ (c = 48 ∨ c = 49) := by
  unfold isBitN
  rw [Bool.or_eq_true, beq_iff_eq, beq_iff_eq]
def isW : PyData → Bool
  | .str s => decide (1 ≤ s.length ∧ s.length ≤ 12) && s.cps.toList.all isBitN
  | _ => false
theorem isW_str {s : Str} : isW (.str s) = true ↔ okWd s := by
  unfold isW okWd
  rw [Bool.and_eq_true, decide_eq_true_iff, List.all_eq_true]
  exact ⟨fun ⟨a, b⟩ => ⟨a, fun c hc => isBitN_t.mp (b c hc)⟩, fun ⟨a, b⟩ => ⟨a, fun c hc => isBitN_t.mpr (b c hc)⟩⟩
theorem okWd_ok {s : Str} (h : okWd s) : PyData.strOk s = true := by
  unfold PyData.strOk
  rw [← Array.all_toList, List.all_eq_true]
  intro c hc
  have := h.2 c hc
  exact decide_eq_true (by omega)
theorem starts_pre (z y : Str) : Txt.startswith z y = true ↔ y.cps.toList <+: z.cps.toList := by
  have e : (z.cps.extract 0 (0 + y.length)).toList = z.cps.toList.take y.length := by
    rw [Array.toList_extract, Nat.zero_add, List.extract_eq_drop_take, Nat.sub_zero, List.drop_zero]
  have hl : y.length = y.cps.toList.length := by simp; rfl
  have hz : z.length = z.cps.toList.length := by simp; rfl
  show (decide (0 + y.length ≤ z.length) && (z.cps.extract 0 (0 + y.length) == y.cps)) = true ↔ _
  rw [Bool.and_eq_true, decide_eq_true_iff, beq_iff_eq]
  constructor
  · rintro ⟨_, h⟩
    have := congrArg Array.toList h
    rw [e] at this
    rw [← this]
    exact List.take_prefix _ _
  · intro h
    refine ⟨by have := h.length_le; omega, Array.toList_inj.mp ?_⟩
    rw [e, hl]
    exact (List.prefix_iff_eq_take.mp h).symm
theorem allStr_map : ∀ ws : List Str, allStr (ws.map PyData.str) = some ws
  | [] => rfl
  | w :: r => by
    have ih := allStr_map r
    unfold allStr at ih ⊢
    rw [List.map_cons, List.mapM_cons, ih]
    rfl
theorem allW : ∀ {ds : List PyData}, ds.all isW = true → ∃ ws : List Str, ds = ws.map PyData.str ∧ ∀ w ∈ ws, okWd w
  | [], _ => ⟨[], rfl, fun _ h => nomatch h⟩
  | d :: r, h => by
    rw [List.all_cons, Bool.and_eq_true] at h
    obtain ⟨ws, e, hw⟩ := allW h.2
    cases d with
    | str s => exact ⟨s :: ws, by rw [e]; rfl, fun w hm => by
        rcases List.mem_cons.mp hm with rfl | hm
        · exact isW_str.mp h.1
        · exact hw w hm⟩
    | _ => exact absurd h.1 (by simp [isW])
structure GoodW (ws : List Str) : Prop where
  len : ws.length ≤ 24
  wd : ∀ w ∈ ws, okWd w
  ap : Apart ws
def GoodD (ds : List PyData) : Prop := ∃ ws : List Str, ds = ws.map PyData.str ∧ GoodW ws
/-- what a list of words may hold -/
def okX (d : PyData) : Prop := noDict d = true ∧ ∀ s, d = .str s → s.length ≤ 1000
section
variable {tg : TGT} {ws : List Nat} {body : SE} {ρ : Env}
theorem forGo_ex_some {n : String} : ∀ {ds : List PyData}, (∀ d ∈ ds, turn tg ws body d ρ = .nx ρ ∨ ∃ ρ', turn tg ws body d ρ = .ex n ρ') → (∃ d ∈ ds, ∃ ρ', turn tg ws body d ρ = .ex n ρ') → ∃ ρ', forGo tg ws body ds ρ = .ex n ρ'
  | [], _, ⟨d, hd, _⟩ => nomatch hd
  | d :: r, hs, ⟨e, he, ρe, h⟩ => by
    rcases hs d List.mem_cons_self with h1 | ⟨ρ', h1⟩
    · have he : e ∈ r := by
        rcases List.mem_cons.mp he with rfl | he
        · rw [h1] at h; cases h
        · exact he
      obtain ⟨ρ', h2⟩ := forGo_ex_some (ds := r) (fun d hd => hs d (List.mem_cons_of_mem _ hd)) ⟨e, he, ρe, h⟩
      exact ⟨ρ', by rw [forGo_cons, h1]; exact h2⟩
    · exact ⟨ρ', by rw [forGo_cons, h1]⟩
theorem forGo_rt_some {n : RV} : ∀ {ds : List PyData}, (∀ d ∈ ds, turn tg ws body d ρ = .nx ρ ∨ ∃ ρ', turn tg ws body d ρ = .rt n ρ') → (∃ d ∈ ds, ∃ ρ', turn tg ws body d ρ = .rt n ρ') → ∃ ρ', forGo tg ws body ds ρ = .rt n ρ'
  | [], _, ⟨d, hd, _⟩ => nomatch hd
  | d :: r, hs, ⟨e, he, ρe, h⟩ => by
    rcases hs d List.mem_cons_self with h1 | ⟨ρ', h1⟩
    · have he : e ∈ r := by
        rcases List.mem_cons.mp he with rfl | he
        · rw [h1] at h; cases h
        · exact he
      obtain ⟨ρ', h2⟩ := forGo_rt_some (ds := r) (fun d hd => hs d (List.mem_cons_of_mem _ hd)) ⟨e, he, ρe, h⟩
      exact ⟨ρ', by rw [forGo_cons, h1]; exact h2⟩
    · exact ⟨ρ', by rw [forGo_cons, h1]⟩
end
theorem notApart {ss : List Str} (h : ¬ Apart ss) : ∃ (i j : Nat) (hi : i < ss.length) (hj : j < ss.length), i ≠ j ∧ ss[i].cps.toList <+: ss[j].cps.toList := by
  apply Classical.byContradiction
  intro z
  refine h fun i j hi hj hij hp => z ⟨i, j, hi, hj, hij, hp⟩
theorem turn_rt' {tg : TGT} {ws : List Nat} {body : SE} {d : PyData} {ρ ρ1 : Env} {r : RV} (h1 : tg d ρ = some ρ1) (h2 : ∃ ρ2, body ρ1 = .rt r ρ2) : ∃ ρ2, turn tg ws body d ρ = .rt r ρ2 := by
  obtain ⟨ρ2, h2⟩ := h2
  exact ⟨ρ2, turn_rt h1 h2⟩
theorem turn_ex' {tg : TGT} {ws : List Nat} {body : SE} {d : PyData} {ρ ρ1 : Env} {r : String} (h1 : tg d ρ = some ρ1) (h2 : ∃ ρ2, body ρ1 = .ex r ρ2) : ∃ ρ2, turn tg ws body d ρ = .ex r ρ2 := by
  obtain ⟨ρ2, h2⟩ := h2
  exact ⟨ρ2, turn_ex h1 h2⟩
def isStrD : PyData → Bool
  | .str _ => true
  | _ => false
theorem kit_str : ∀ d : PyData, noDict d = true → kitB (tyName d) "str" = some (isStrD d)
  | .str zz, _ => by show kitB "str" "str" = some true; decide +kernel
  | .none, _ => by show kitB "NoneType" "str" = some false; decide +kernel
  | .bool _, _ => by show kitB "bool" "str" = some false; decide +kernel
  | .int _, _ => by show kitB "int" "str" = some false; decide +kernel
  | .list _, _ => by show kitB "list" "str" = some false; decide +kernel
  | .tuple _, _ => by show kitB "tuple" "str" = some false; decide +kernel
  | .dict _, h => nomatch h

/-! is_word: slots 0:thing 1:bit -/
def g_is_word : SE := (sSeq (sIf (bOr (bNot (bOf (eIsI (rVar 0) "str"))) (bOr (bOf (eOp oLt (eLenV (rVar 0)) (eC (.int 1)))) (bOf (eOp oGt (eLenV (rVar 0)) (eC (.int 12)))))) (sRet (eC (.bool false))) sNext)
  (sRet (eAll (lComp (wStr (eVar 0)) (tgN 1) [1] bYes (eOp oInS (eVar 1) (eC (.str (Str.ofString "01"))))))))
def F_is_word : FN := runF 1 2 g_is_word
theorem ex_is_word : ∃ M : FN, M = F_is_word := ⟨_, rfl⟩
def M_is_word : FN := ex_is_word.choose
theorem M_is_word_eq : M_is_word = F_is_word := ex_is_word.choose_spec
theorem ok_is_word : ∀ as : List SL, as.length = 1 → M_is_word as ≠ .stuck → F_is_word as = M_is_word as := fun _ _ _ => by rw [M_is_word_eq]
theorem M_is_word_ok {d : PyData} (h : okX d) : M_is_word [.fz d] = .ok (.val (.bool (isW d))) := by
  rw [M_is_word_eq]
  unfold F_is_word
  have hk := kit_str d h.1
  have hg : g_is_word = sSeq (sIf (bOr (bNot (bOf (eIsI (rVar 0) "str"))) (bOr (bOf (eOp oLt (eLenV (rVar 0)) (eC (.int 1)))) (bOf (eOp oGt (eLenV (rVar 0)) (eC (.int 12)))))) (sRet (eC (.bool false))) sNext) (sRet (eAll (lComp (wStr (eVar 0)) (tgN 1) [1] bYes (eOp oInS (eVar 1) (eC (.str (Str.ofString "01"))))))) := rfl
  have hi : eIsI (rVar 0) "str" [some (.fz d), none] = .ok (.bool (isStrD d)) := eIsI_ok rfl hk
  refine runF_rt [some (.fz d), none] rfl rfl (ρ' := [some (.fz d), none]) ?_
  rw [hg]
  cases d with
  | str s =>
    have hl := h.2 s rfl
    have hlen : lenOf (.str s) = .ok (.int s.length) := lenOf_s (by omega)
    by_cases c1 : (s.length : Int) < 1
    · have e : isW (.str s) = false := Bool.eq_false_iff.mpr fun z => by have := (isW_str.mp z).1; omega
      rw [e]
      simp [hi, hlen, c1, isStrD]
    · by_cases c2 : 12 < (s.length : Int)
      · have e : isW (.str s) = false := Bool.eq_false_iff.mpr fun z => by have := (isW_str.mp z).1; omega
        rw [e]
        simp [hi, hlen, c1, c2, isStrD]
      · have hc : lComp (wStr (eVar 0)) (tgN 1) [1] bYes (eOp oInS (eVar 1) (eC (.str (Str.ofString "01")))) [some (.fz (.str s)), none] = .ok ((s.cps.toList.map isBitN).map PyData.bool) := by
          rw [lComp_map (fun d => match d with
            | .str c => .bool (match c.cps.toList with
              | [k] => isBitN k
              | _ => false)
            | d => d) (ds := s.cps.toList.map fun c => .str ⟨#[c]⟩) rfl (by rw [List.length_map, Array.length_toList]; show s.length < 1000000; omega) (fun d hd => by
              obtain ⟨c, _, rfl⟩ := List.mem_map.mp hd
              refine ⟨_, rfl, rfl, ?_⟩
              rw [eOp_ap]
              show Out.ok (PyData.bool (decide (c ∈ (Str.ofString "01").cps.toList))) = Out.ok (PyData.bool (isBitN c))
              rw [show (Str.ofString "01").cps.toList = [48, 49] from rfl]
              congr 2
              rw [Bool.eq_iff_iff, decide_eq_true_iff, isBitN_t]
              simp)]
          rw [List.map_map, List.map_map]
          rfl
        have ha : asBools ((s.cps.toList.map isBitN).map PyData.bool) = some (s.cps.toList.map isBitN) := by
          generalize s.cps.toList.map isBitN = bs
          induction bs with
          | nil => rfl
          | cons b r ih =>
            unfold asBools at ih ⊢
            rw [List.map_cons, List.mapM_cons, ih]
            rfl
        have hall : eAll (lComp (wStr (eVar 0)) (tgN 1) [1] bYes (eOp oInS (eVar 1) (eC (.str (Str.ofString "01"))))) [some (.fz (.str s)), none] = .ok (.bool ((s.cps.toList.map isBitN).all id)) := by
          unfold eAll
          rw [hc, Out.bind_ok, ha]
        have e : isW (.str s) = (s.cps.toList.map isBitN).all id := by
          show (decide (1 ≤ s.length ∧ s.length ≤ 12) && s.cps.toList.all isBitN) = _
          rw [decide_eq_true (by omega), Bool.true_and, List.all_map]
          rfl
        rw [e]
        generalize (s.cps.toList.map isBitN).all id = B at hall
        simp [hi, hlen, c1, c2, hall, isStrD]
  | _ => first | (simp [hi, isStrD, isW]) | exact absurd h.1 (by simp [noDict])

/-! need_words: slots 0:words 1:one 2:at 3:here -/
def g_need_words : SE := (sSeq (sIf (bOf (eOp oGt (eLenV (rVar 0)) (eC (.int 24)))) (sRaise "BadWords") sNext)
  (sSeq (sFor (sVar 0) (tgN 1) [1] (sIf (bNot (bOf (eX (xCall M_is_word (rV (eVar 1) rNil))))) (sRaise "BadWords") sNext))
  (sFor (wRange1 (eLenV (rVar 0))) (tgN 2) [2, 3] (sFor (wRange1 (eLenV (rVar 0))) (tgN 3) [3] (sIf (bAnd (bOf (eOp oNe (rVar 2) (rVar 3))) (bOf (eStarts (eIx (lVar 0) (eVar 3)) (eIx (lVar 0) (eVar 2))))) (sRaise "BadWords") sNext)))))
def F_need_words : FN := runF 1 4 g_need_words
theorem ex_need_words : ∃ M : FN, M = F_need_words := ⟨_, rfl⟩
def M_need_words : FN := ex_need_words.choose
theorem M_need_words_eq : M_need_words = F_need_words := ex_need_words.choose_spec
theorem ok_need_words : ∀ as : List SL, as.length = 1 → M_need_words as ≠ .stuck → F_need_words as = M_need_words as := fun _ _ _ => by rw [M_need_words_eq]
abbrev bodyN2 : SE := sIf (bAnd (bOf (eOp oNe (rVar 2) (rVar 3))) (bOf (eStarts (eIx (lVar 0) (eVar 3)) (eIx (lVar 0) (eVar 2))))) (sRaise "BadWords") sNext
abbrev bodyN1 : SE := sFor (wRange1 (eLenV (rVar 0))) (tgN 3) [3] bodyN2
theorem g_need_words_eq : g_need_words = sSeq (sIf (bOf (eOp oGt (eLenV (rVar 0)) (eC (.int 24)))) (sRaise "BadWords") sNext) (sSeq (sFor (sVar 0) (tgN 1) [1] (sIf (bNot (bOf (eX (xCall M_is_word (rV (eVar 1) rNil))))) (sRaise "BadWords") sNext)) (sFor (wRange1 (eLenV (rVar 0))) (tgN 2) [2, 3] bodyN1)) := rfl
theorem is_wordE {ds : List PyData} {d : PyData} {a b : Option SL} (h : okX d) : eX (xCall M_is_word (rV (eVar 1) rNil)) [some (.bw ds), some (.fz d), a, b] = .ok (.bool (isW d)) := eX_val (by rw [xCall_ap]; exact M_is_word_ok h)
theorem nw_range {ds : List PyData} {a b c : Option SL} (hl : ds.length ≤ 1000) : wRange1 (eLenV (rVar 0)) [some (.bw ds), a, b, c] = .ok (rngD ((0 : Nat) : Int) ds.length 1) := (wRange1_ok (n := (ds.length : Int)) (by rw [eLenV_ap]; show lenOf (.list ds) = _; rw [lenOf_l]) ⟨by omega, by omega⟩).trans (by rw [show ((ds.length : Int)).toNat = ds.length by omega]; rfl)
theorem nw_cond {ss : List Str} {i j : Nat} (hi : i < ss.length) (hj : j < ss.length) : bAnd (bOf (eOp oNe (rVar 2) (rVar 3))) (bOf (eStarts (eIx (lVar 0) (eVar 3)) (eIx (lVar 0) (eVar 2)))) [some (.bw (ss.map PyData.str)), none, some (.fz (.int (i : Int))), some (.fz (.int (j : Int)))] = .ok (decide (i ≠ j) && Txt.startswith ss[j] ss[i]) := by
  have hat : ∀ {k : Nat} (h : k < ss.length), atI (ss.map PyData.str) (k : Int) = some (.str ss[k]) := fun {k} h => atI_nat (by rw [List.getElem?_map, List.getElem?_eq_getElem h]; rfl)
  have xi : eIx (lVar 0) (eVar 2) [some (.bw (ss.map PyData.str)), none, some (.fz (.int (i : Int))), some (.fz (.int (j : Int)))] = .ok (.str ss[i]) := eIx_ok rfl rfl (hat hi)
  have xj : eIx (lVar 0) (eVar 3) [some (.bw (ss.map PyData.str)), none, some (.fz (.int (i : Int))), some (.fz (.int (j : Int)))] = .ok (.str ss[j]) := eIx_ok rfl rfl (hat hj)
  have hs : eStarts (eIx (lVar 0) (eVar 3)) (eIx (lVar 0) (eVar 2)) [some (.bw (ss.map PyData.str)), none, some (.fz (.int (i : Int))), some (.fz (.int (j : Int)))] = .ok (.bool (Txt.startswith ss[j] ss[i])) := by
    unfold eStarts
    rw [xj, Out.bind_ok]
    dsimp only
    rw [xi, Out.bind_ok]
    rfl
  by_cases hij : i = j
  · subst hij
    simp
  · have hne : ¬ (i : Int) = (j : Int) := by omega
    rw [bAnd_ap, show (bOf (eOp oNe (rVar 2) (rVar 3))) [some (.bw (ss.map PyData.str)), none, some (.fz (.int (i : Int))), some (.fz (.int (j : Int)))] = .ok true by simp [hne], Out.bind_ok, if_pos rfl, bOf_ap, hs, Out.bind_ok, decide_eq_true hij, Bool.true_and]
theorem nw_turn {ss : List Str} {i j : Nat} (hi : i < ss.length) (hj : j < ss.length) : turn (tgN 3) [3] bodyN2 (.int (j : Int)) [some (.bw (ss.map PyData.str)), none, some (.fz (.int (i : Int))), none] = if (decide (i ≠ j) && Txt.startswith ss[j] ss[i]) = true then .ex "BadWords" [some (.bw (ss.map PyData.str)), none, some (.fz (.int (i : Int))), some (.fz (.int (j : Int)))] else .nx [some (.bw (ss.map PyData.str)), none, some (.fz (.int (i : Int))), none] := by
  have hc := nw_cond (ss := ss) hi hj
  by_cases c : (decide (i ≠ j) && Txt.startswith ss[j] ss[i]) = true
  · rw [if_pos c]
    refine turn_ex (ρ1 := [some (.bw (ss.map PyData.str)), none, some (.fz (.int (i : Int))), some (.fz (.int (j : Int)))]) rfl ?_
    unfold bodyN2
    rw [sIf_ap, hc, wOut_ok, if_pos c]
    rfl
  · rw [if_neg c]
    refine (turn_nx (ρ1 := [some (.bw (ss.map PyData.str)), none, some (.fz (.int (i : Int))), some (.fz (.int (j : Int)))]) (ρ2 := [some (.bw (ss.map PyData.str)), none, some (.fz (.int (i : Int))), some (.fz (.int (j : Int)))]) rfl ?_).trans rfl
    unfold bodyN2
    rw [sIf_ap, hc, wOut_ok, if_neg c]
    rfl
theorem nw_words {ds : List PyData} (hx : ∀ d ∈ ds, okX d) (h : ds.all isW = true) : forGo (tgN 1) [1] (sIf (bNot (bOf (eX (xCall M_is_word (rV (eVar 1) rNil))))) (sRaise "BadWords") sNext) ds [some (.bw ds), none, none, none] = .nx [some (.bw ds), none, none, none] := forGo_pass _ fun d hd => by
  refine (turn_nx (ρ1 := [some (.bw ds), some (.fz d), none, none]) (ρ2 := [some (.bw ds), some (.fz d), none, none]) rfl ?_).trans rfl
  rw [sIf_ap, bNot_ap, bOf_ap, is_wordE (hx d hd), List.all_eq_true.mp h d hd]
  rfl
theorem nw_pairs {ss : List Str} (hl : ss.length ≤ 1000) (ha : Apart ss) : sFor (wRange1 (eLenV (rVar 0))) (tgN 2) [2, 3] bodyN1 [some (.bw (ss.map PyData.str)), none, none, none] = .nx [some (.bw (ss.map PyData.str)), none, none, none] := by
  refine pass_nat (nw_range (by rw [List.length_map]; exact hl)) fun i _ hi => ?_
  rw [Nat.zero_add, List.length_map] at hi
  refine (turn_nx (ρ1 := [some (.bw (ss.map PyData.str)), none, some (.fz (.int (i : Int))), none]) (ρ2 := [some (.bw (ss.map PyData.str)), none, some (.fz (.int (i : Int))), none]) rfl ?_).trans rfl
  refine pass_nat (nw_range (by rw [List.length_map]; exact hl)) fun j _ hj => ?_
  rw [Nat.zero_add, List.length_map] at hj
  rw [nw_turn hi hj, if_neg]
  rw [Bool.and_eq_true, decide_eq_true_iff, starts_pre]
  exact fun z => ha i j hi hj z.1 z.2
theorem M_need_words_good {ds : List PyData} (h : GoodD ds) : M_need_words [.bw ds] = .ok (.val .none) := by
  obtain ⟨ss, rfl, g1, g2, g3⟩ := h
  rw [M_need_words_eq]
  unfold F_need_words
  refine runF_nx [some (.bw (ss.map PyData.str)), none, none, none] rfl rfl (ρ' := [some (.bw (ss.map PyData.str)), none, none, none]) ?_
  have hx : ∀ d ∈ ss.map PyData.str, okX d := fun d hd => by
    obtain ⟨s, hs, rfl⟩ := List.mem_map.mp hd
    exact ⟨rfl, fun t e => by cases e; have := (g2 s hs).1; omega⟩
  have hall : (ss.map PyData.str).all isW = true := by
    rw [List.all_eq_true]
    intro d hd
    obtain ⟨s, hs, rfl⟩ := List.mem_map.mp hd
    exact isW_str.mpr (g2 s hs)
  have hlen : ¬ (24 : Int) < ((ss.map PyData.str).length : Int) := by rw [List.length_map]; omega
  rw [g_need_words_eq, seq_nx (ρ' := [some (.bw (ss.map PyData.str)), none, none, none]) (by
    rw [sIf_ap, bOf_ap, eOp_ap, show eLenV (rVar 0) [some (.bw (ss.map PyData.str)), none, none, none] = .ok (.int ((ss.map PyData.str).length : Int)) from rfl, Out.bind_ok, eC_ap, Out.bind_ok, oGt_i, Out.bind_ok, decide_eq_false hlen]
    rfl), seq_nx ((for_of rfl).trans (nw_words hx hall))]
  exact nw_pairs (by omega) g3
theorem M_need_words_bad {ds : List PyData} (hx : ∀ d ∈ ds, okX d) (hl : ds.length ≤ 1000) (h : ¬ GoodD ds) : M_need_words [.bw ds] = .exc "BadWords" := by
  rw [M_need_words_eq]
  unfold F_need_words
  rw [g_need_words_eq]
  have he : eLenV (rVar 0) [some (.bw ds), none, none, none] = .ok (.int (ds.length : Int)) := rfl
  by_cases c1 : (24 : Int) < (ds.length : Int)
  · refine runF_ex [some (.bw ds), none, none, none] rfl rfl (ρ' := [some (.bw ds), none, none, none]) (seq_ex ?_)
    rw [sIf_ap, bOf_ap, eOp_ap, he, Out.bind_ok, eC_ap, Out.bind_ok, oGt_i, Out.bind_ok, decide_eq_true c1]
    rfl
  · have h0 : sIf (bOf (eOp oGt (eLenV (rVar 0)) (eC (.int 24)))) (sRaise "BadWords") sNext [some (.bw ds), none, none, none] = .nx [some (.bw ds), none, none, none] := by
      rw [sIf_ap, bOf_ap, eOp_ap, he, Out.bind_ok, eC_ap, Out.bind_ok, oGt_i, Out.bind_ok, decide_eq_false c1]
      rfl
    by_cases hall : ds.all isW = true
    · obtain ⟨ss, rfl, hw⟩ := allW hall
      have hna : ¬ Apart ss := fun z => h ⟨ss, rfl, by rw [List.length_map] at c1; omega, hw, z⟩
      obtain ⟨i, j, hi, hj, hij, hp⟩ := notApart hna
      have hls : ss.length ≤ 1000 := by rw [List.length_map] at hl; exact hl
      have inner : ∀ i, i < ss.length → (bodyN1 [some (.bw (ss.map PyData.str)), none, some (.fz (.int (i : Int))), none] = .nx [some (.bw (ss.map PyData.str)), none, some (.fz (.int (i : Int))), none] ∨ ∃ ρ', bodyN1 [some (.bw (ss.map PyData.str)), none, some (.fz (.int (i : Int))), none] = .ex "BadWords" ρ') ∧ ((∃ (j : Nat) (hj : j < ss.length) (hi : i < ss.length), i ≠ j ∧ ss[i].cps.toList <+: ss[j].cps.toList) → ∃ ρ', bodyN1 [some (.bw (ss.map PyData.str)), none, some (.fz (.int (i : Int))), none] = .ex "BadWords" ρ') := fun i hi => by
        have hw := nw_range (ds := ss.map PyData.str) (a := none) (b := some (.fz (.int (i : Int)))) (c := none) hl
        rw [rng_nat, List.length_map] at hw
        have hs : ∀ d ∈ (List.range' 0 ss.length).map fun k => PyData.int ((k : Nat) : Int), turn (tgN 3) [3] bodyN2 d [some (.bw (ss.map PyData.str)), none, some (.fz (.int (i : Int))), none] = .nx [some (.bw (ss.map PyData.str)), none, some (.fz (.int (i : Int))), none] ∨ ∃ ρ', turn (tgN 3) [3] bodyN2 d [some (.bw (ss.map PyData.str)), none, some (.fz (.int (i : Int))), none] = .ex "BadWords" ρ' := fun d hd => by
          obtain ⟨j, hj, rfl⟩ := List.mem_map.mp hd
          rw [List.mem_range'_1] at hj
          rw [nw_turn hi (by omega)]
          split
          · exact .inr ⟨_, rfl⟩
          · exact .inl rfl
        have yes : (∃ (j : Nat) (hj : j < ss.length) (hi : i < ss.length), i ≠ j ∧ ss[i].cps.toList <+: ss[j].cps.toList) → ∃ ρ', bodyN1 [some (.bw (ss.map PyData.str)), none, some (.fz (.int (i : Int))), none] = .ex "BadWords" ρ' := fun ⟨j, hj, hi', hij, hp⟩ => by
          have ht : turn (tgN 3) [3] bodyN2 (.int (j : Int)) [some (.bw (ss.map PyData.str)), none, some (.fz (.int (i : Int))), none] = .ex "BadWords" [some (.bw (ss.map PyData.str)), none, some (.fz (.int (i : Int))), some (.fz (.int (j : Int)))] := by
            rw [nw_turn hi hj, if_pos (by rw [Bool.and_eq_true, decide_eq_true_iff, starts_pre]; exact ⟨hij, hp⟩)]
          obtain ⟨ρ', e⟩ := forGo_ex_some hs ⟨.int (j : Int), List.mem_map.mpr ⟨j, by rw [List.mem_range'_1]; omega, rfl⟩, _, ht⟩
          exact ⟨ρ', (for_of hw).trans e⟩
        refine ⟨?_, yes⟩
        by_cases hq : ∃ (j : Nat) (hj : j < ss.length) (hi : i < ss.length), i ≠ j ∧ ss[i].cps.toList <+: ss[j].cps.toList
        · exact .inr (yes hq)
        · refine .inl (pass_nat (nw_range (by rw [List.length_map]; exact hls)) fun j _ hj => ?_)
          rw [Nat.zero_add, List.length_map] at hj
          rw [nw_turn hi hj, if_neg]
          rw [Bool.and_eq_true, decide_eq_true_iff, starts_pre]
          exact fun z => hq ⟨j, hj, hi, z.1, z.2⟩
      have hw2 := nw_range (ds := ss.map PyData.str) (a := none) (b := none) (c := none) hl
      rw [rng_nat, List.length_map] at hw2
      obtain ⟨ρ', e⟩ := forGo_ex_some (tg := tgN 2) (ws := [2, 3]) (body := bodyN1) (ρ := [some (.bw (ss.map PyData.str)), none, none, none]) (n := "BadWords") (ds := (List.range' 0 ss.length).map fun k => PyData.int ((k : Nat) : Int)) (fun d hd => by
        obtain ⟨i, hi, rfl⟩ := List.mem_map.mp hd
        rw [List.mem_range'_1] at hi
        rcases (inner i (by omega)).1 with q | q
        · exact .inl ((turn_nx (ρ1 := [some (.bw (ss.map PyData.str)), none, some (.fz (.int (i : Int))), none]) rfl q).trans rfl)
        · exact .inr (turn_ex' (ρ1 := [some (.bw (ss.map PyData.str)), none, some (.fz (.int (i : Int))), none]) rfl q)) ⟨.int (i : Int), List.mem_map.mpr ⟨i, by rw [List.mem_range'_1]; omega, rfl⟩, turn_ex' (ρ1 := [some (.bw (ss.map PyData.str)), none, some (.fz (.int (i : Int))), none]) rfl ((inner i hi).2 ⟨j, hj, hi, hij, hp⟩)⟩
      refine runF_ex [some (.bw (ss.map PyData.str)), none, none, none] rfl rfl (ρ' := ρ') ?_
      rw [seq_nx h0, seq_nx ((for_of rfl).trans (nw_words hx hall))]
      exact (for_of hw2).trans e
    · have hex : ∃ d ∈ ds, isW d = false := by
        apply Classical.byContradiction
        intro z
        refine hall (List.all_eq_true.mpr fun d hd => ?_)
        cases e : isW d with
        | true => rfl
        | false => exact absurd ⟨d, hd, e⟩ z
      obtain ⟨d, hd, e⟩ := hex
      have ht : ∀ d, okX d → isW d = false → ∃ ρ', turn (tgN 1) [1] (sIf (bNot (bOf (eX (xCall M_is_word (rV (eVar 1) rNil))))) (sRaise "BadWords") sNext) d [some (.bw ds), none, none, none] = .ex "BadWords" ρ' := fun d ho e => turn_ex' (ρ1 := [some (.bw ds), some (.fz d), none, none]) rfl ⟨_, by
        rw [sIf_ap, bNot_ap, bOf_ap, is_wordE ho, e]
        rfl⟩
      obtain ⟨ρ', e2⟩ := forGo_ex_some (tg := tgN 1) (ws := [1]) (body := (sIf (bNot (bOf (eX (xCall M_is_word (rV (eVar 1) rNil))))) (sRaise "BadWords") sNext)) (ρ := [some (.bw ds), none, none, none]) (n := "BadWords") (ds := ds) (fun d hd => by
        cases e : isW d with
        | false => exact .inr (ht d (hx d hd) e)
        | true =>
          refine .inl ((turn_nx (ρ1 := [some (.bw ds), some (.fz d), none, none]) (ρ2 := [some (.bw ds), some (.fz d), none, none]) rfl ?_).trans rfl)
          rw [sIf_ap, bNot_ap, bOf_ap, is_wordE (hx d hd), e]
          rfl) ⟨d, hd, ht d (hx d hd) e⟩
      refine runF_ex [some (.bw ds), none, none, none] rfl rfl (ρ' := ρ') ?_
      rw [seq_nx h0]
      exact seq_ex ((for_of rfl).trans e2)

abbrev M_heldR : FN := heldF M_need_words

/-! law_cell: slots 0:_law_script 1:_law_k 2:_law_number -/
def g_law_cell : SE := (sSeq (sIf (bOf (eOp oLt (eVar 1) (eLenV (rVar 0)))) (sRet (eIx (lVar 0) (eVar 1))) sNext)
  (sSeq (sSet 2 (eOp oAdd (eOp oMul (eVar 1) (eC (.int 7919))) (eC (.int 5))))
  (sSeq (sIf (bOf (eOp oGt (eLenV (rVar 0)) (eC (.int 0)))) (sSet 2 (eOp oMod (eOp oAdd (eOp oMul (eIx (lVar 0) (eOp oMod (eOp oMul (eVar 1) (eC (.int 7))) (eLenV (rVar 0)))) (eC (.int 48271))) (eOp oMul (eVar 1) (eC (.int 7919)))) (eC (.int 2147483647)))) sNext)
  (sRet (eOp oMod (eOp oMul (eVar 2) (eVar 2)) (eC (.int 2147483629)))))))
def F_law_cell : FN := runF 2 3 g_law_cell
/-- the k-th cell of a script -/
def cellV (ns : List Int) (k : Int) : Int :=
  if k < ns.length then ns.getD k.toNat 0
  else
    let n := if 0 < ns.length then (ns.getD (k * 7 % ns.length).toNat 0 * 48271 + k * 7919) % 2147483647 else k * 7919 + 5
    n * n % 2147483629
def M_law_cell : FN
  | [.bw ds, .fz (.int k)] => match asInts ds with
    | some ns => if 0 ≤ k ∧ k < 1000000 then .ok (.val (.int (cellV ns k))) else .stuck
    | none => .stuck
  | _ => .stuck
theorem ok_law_cell : ∀ as : List SL, as.length = 2 → M_law_cell as ≠ .stuck → F_law_cell as = M_law_cell as := by
  intro as hl h
  clear hl
  unfold M_law_cell at h ⊢
  split at h
  · rename_i ds k
    try dsimp only
    cases ha : asInts ds with
    | none => simp [ha] at h
    | some ns =>
      try dsimp only
      by_cases hc : 0 ≤ k ∧ k < 1000000
      · rw [if_pos hc]
        obtain ⟨h0, h1⟩ := hc
        have hds := asInts_some ha
        subst hds
        by_cases hk : k < ns.length
        · have hx : eIx (lVar 0) (eVar 1) [some (.bw (ns.map PyData.int)), some (.fz (.int k)), none] = .ok (.int (ns.getD k.toNat 0)) := eIx_ok rfl rfl (atI_intsZ h0 hk)
          simp [F_law_cell, runF, g_law_cell, hk, hx, cellV]
        · have m1 : oMul (.int k) (.int 7919) = .ok (.int (k * 7919)) := oMul_r (by omega)
          by_cases hn : 0 < ns.length
          · have m2 : oMul (.int k) (.int 7) = .ok (.int (k * 7)) := oMul_r (by omega)
            have hl0 : (0 : Int) < (ns.length : Int) := by omega
            have m3 : oMod (.int (k * 7)) (.int (ns.length : Int)) = .ok (.int (k * 7 % ns.length)) := oMod_i hl0
            have m4 : atI (ns.map PyData.int) (k * 7 % ns.length) = some (.int (ns.getD (k * 7 % ns.length).toNat 0)) := atI_intsZ (Int.emod_nonneg _ (by omega)) (Int.emod_lt_of_pos _ hl0)
            have m5 : ∀ z : Int, oMul (.int z) (.int 48271) = .ok (.int (z * 48271)) := fun z => oMul_r (by omega)
            have m6 : ∀ z : Int, oMod (.int z) (.int 2147483647) = .ok (.int (z % 2147483647)) := fun z => oMod_i (by omega)
            have m7 : ∀ z : Int, oMod (.int z) (.int 2147483629) = .ok (.int (z % 2147483629)) := fun z => oMod_i (by omega)
            have m8 : ∀ z : Int, oMul (.int (z % 2147483647)) (.int (z % 2147483647)) = .ok (.int (z % 2147483647 * (z % 2147483647))) := fun z => oMul_l (by
              have := Int.emod_nonneg z (b := 2147483647) (by omega)
              have := Int.emod_lt_of_pos z (b := 2147483647) (by omega)
              omega)
            have hx : ∀ x : Option SL, eIx (lVar 0) (eOp oMod (eOp oMul (eVar 1) (eC (.int 7))) (eLenV (rVar 0))) [some (.bw (ns.map PyData.int)), some (.fz (.int k)), x] = .ok (.int (ns.getD (k * 7 % ns.length).toNat 0)) := fun x => eIx_ok rfl (by simp [m2, m3]) m4
            simp [F_law_cell, runF, g_law_cell, hk, hn, hl0, m1, hx, m5, m6, m7, m8, cellV]
          · have hn0 : ¬ (0 : Int) < (ns.length : Int) := by omega
            have m7 : ∀ z : Int, oMod (.int z) (.int 2147483629) = .ok (.int (z % 2147483629)) := fun z => oMod_i (by omega)
            have m8 : oMul (.int (k * 7919 + 5)) (.int (k * 7919 + 5)) = .ok (.int ((k * 7919 + 5) * (k * 7919 + 5))) := oMul_l (by omega)
            simp [F_law_cell, runF, g_law_cell, hk, hn, hn0, m1, m7, m8, cellV]
      · rw [ha] at h
        exact absurd (if_neg hc) h
  · exact absurd rfl h
@[simp] theorem M_law_cell_ok (ns : List Int) {k : Int} (h0 : 0 ≤ k) (h1 : k < 1000000) : M_law_cell [.bw (ns.map PyData.int), .fz (.int k)] = .ok (.val (.int (cellV ns k))) := by
  unfold M_law_cell
  dsimp only
  rw [asInts_DI]
  exact if_pos ⟨h0, h1⟩
theorem cell_pm {m x : Int} (h : 0 < m) : 1 ≤ 1 + x % m ∧ 1 + x % m ≤ m := by
  have := Int.emod_nonneg x (b := m) (by omega)
  have := Int.emod_lt_of_pos x h
  omega

/-! law_word_of: slots 0:_law_error 1:_law_found -/
def g_law_word_of : SE := (sSeq (sSetL 1 (lLst []))
  (sSeq (sIf (bOf (eExIs 0 "NoWeights")) (sApp 1 (eC (.str (Str.ofString "NoWeights")))) sNext)
  (sSeq (sIf (bOf (eExIs 0 "BadWeight")) (sApp 1 (eC (.str (Str.ofString "BadWeight")))) sNext)
  (sSeq (sIf (bOf (eExIs 0 "BadBound")) (sApp 1 (eC (.str (Str.ofString "BadBound")))) sNext)
  (sSeq (sIf (bOf (eExIs 0 "NoRoom")) (sApp 1 (eC (.str (Str.ofString "NoRoom")))) sNext)
  (sSeq (sIf (bOf (eExIs 0 "BadLengths")) (sApp 1 (eC (.str (Str.ofString "BadLengths")))) sNext)
  (sSeq (sIf (bOf (eExIs 0 "BadWords")) (sApp 1 (eC (.str (Str.ofString "BadWords")))) sNext)
  (sSeq (sIf (bOf (eExIs 0 "BadBits")) (sApp 1 (eC (.str (Str.ofString "BadBits")))) sNext)
  (sSeq (sIf (bOf (eExIs 0 "NoSign")) (sApp 1 (eC (.str (Str.ofString "NoSign")))) sNext)
  (sSeq (sIf (bOr (bOf (eOp oNe (eLenV (rVar 1)) (eC (.int 1)))) (bNot (bOf (eExIs 0 "ValueError")))) (sFrz 1 (sRet (eTup [(eC (.str (Str.ofString "more"))), (eVar 1)]))) sNext)
  (sRet (eTup [(eC (.str (Str.ofString "refused"))), (eIx (lVar 1) (eC (.int 0)))]))))))))))))
def F_law_word_of : FN := runF 1 2 g_law_word_of
/-- the word of a caught error -/
def M_law_word_of : FN
  | [.er n] => if n ∈ ex8 then .ok (.val (.tuple [.str (Str.ofString "refused"), .str (Str.ofString n)])) else .stuck
  | _ => .stuck
theorem ok_law_word_of : ∀ n r, M_law_word_of [.er n] = .ok r → F_law_word_of [.er n] = .ok r := by
  intro n r h
  unfold M_law_word_of at h
  dsimp only at h
  by_cases hn : n ∈ ex8
  · rw [if_pos hn] at h
    cases h
    simp only [ex8, List.mem_cons, List.not_mem_nil, or_false] at hn
    rcases hn with rfl | rfl | rfl | rfl | rfl | rfl | rfl | rfl <;> rfl
  · rw [if_neg hn] at h
    cases h

/-- how often each sign of a run is parted -/
def partV (ws : List Int) : Nat → Nat → Nat → List Int
  | 0, _, _ => [0]
  | d + 1, f, l => if l - f = 1 then [0] else match leastB (tval ws d) f l with
    | some b => (partV ws d f b.2 ++ partV ws d b.2 l).map (1 + ·)
    | none => []
/-- the parts of a run -/
theorem part_mid {ws : List Int} {d f l : Nat} (h : 2 ≤ l - f) (h2 : l - f ≤ 2 ^ (d + 1)) : ∃ a m, leastB (tval ws d) f l = some (a, m) ∧ f < m ∧ m < l ∧ m - f ≤ 2 ^ d ∧ l - m ≤ 2 ^ d ∧ tval ws (d + 1) f l = some (runW ws f l + a) ∧ psum (tval ws d) f m l = some a
    ∧ partV ws (d + 1) f l = (partV ws d f m ++ partV ws d m l).map (1 + ·) := by
  obtain ⟨a, m, e, h3, h4, h5⟩ := leastB_some (ws := ws) h h2
  obtain ⟨_, h6, _⟩ := (leastB_best (tval ws d) f l).yes a m e
  have q1 : tval ws d f m ≠ none := fun z => by unfold psum at h6; rw [z] at h6; cases h6
  have q2 : tval ws d m l ≠ none := fun z => by
    have : psum (tval ws d) f m l = none := by
      unfold psum
      rw [z]
      cases tval ws d f m <;> rfl
    rw [this] at h6
    cases h6
  refine ⟨a, m, e, h3, h4, (tval_some ws d f m h3).mp q1, (tval_some ws d m l h4).mp q2, h5, h6, ?_⟩
  conv => lhs; unfold partV
  rw [if_neg (by omega), e]
theorem partV_one (ws : List Int) {d f l : Nat} (h : l - f = 1) : partV ws d f l = [0] := by
  cases d with
  | zero => rfl
  | succ d => unfold partV; rw [if_pos h]
theorem partV_len (ws : List Int) : ∀ (d f l : Nat), f < l → l - f ≤ 2 ^ d → (partV ws d f l).length = l - f
  | 0, f, l, h, h2 => by
    have : l - f = 1 := by omega
    rw [partV_one ws this, this]
    rfl
  | d + 1, f, l, h, h2 => by
    by_cases h1 : l - f = 1
    · rw [partV_one ws h1, h1]
      rfl
    · obtain ⟨a, m, e, h3, h4, h5, h6, h7, h8, h9⟩ := part_mid (ws := ws) (d := d) (f := f) (l := l) (by omega) h2
      rw [h9, List.length_map, List.length_append, partV_len ws d f m h3 h5, partV_len ws d m l h4 h6]
      omega
theorem partV_le (ws : List Int) : ∀ (d f l : Nat), f < l → l - f ≤ 2 ^ d → ∀ x ∈ partV ws d f l, 0 ≤ x ∧ x ≤ d ∧ (2 ≤ l - f → 1 ≤ x)
  | 0, f, l, h, h2 => by
    have : l - f = 1 := by omega
    rw [partV_one ws this]
    intro x hx
    rw [List.mem_singleton.mp hx]
    omega
  | d + 1, f, l, h, h2 => by
    by_cases h1 : l - f = 1
    · rw [partV_one ws h1]
      intro x hx
      rw [List.mem_singleton.mp hx]
      omega
    · obtain ⟨a, m, e, h3, h4, h5, h6, h7, h8, h9⟩ := part_mid (ws := ws) (d := d) (f := f) (l := l) (by omega) h2
      rw [h9]
      intro x hx
      obtain ⟨y, hy, rfl⟩ := List.mem_map.mp hx
      rcases List.mem_append.mp hy with hy | hy
      · have := partV_le ws d f m h3 h5 y hy
        omega
      · have := partV_le ws d m l h4 h6 y hy
        omega
/-- the weighted sum of a run -/
def wsum (ws : List Int) : Nat → List Int → Int
  | _, [] => 0
  | f, x :: r => ws.getD f 0 * x + wsum ws (f + 1) r
theorem wsum_append (ws : List Int) : ∀ (xs ys : List Int) (f : Nat), wsum ws f (xs ++ ys) = wsum ws f xs + wsum ws (f + xs.length) ys
  | [], ys, f => by
    rw [List.nil_append, List.length_nil, Nat.add_zero]
    show _ = 0 + _
    omega
  | x :: r, ys, f => by
    rw [List.cons_append]
    show ws.getD f 0 * x + wsum ws (f + 1) (r ++ ys) = ws.getD f 0 * x + wsum ws (f + 1) r + _
    rw [wsum_append ws r ys (f + 1), List.length_cons, show f + 1 + r.length = f + (r.length + 1) by omega]
    omega
theorem runW_s (ws : List Int) (f l : Nat) (h : f < l) (hl : l ≤ ws.length) : runW ws f l = ws.getD f 0 + runW ws (f + 1) l := by
  unfold runW
  obtain ⟨k, hk⟩ : ∃ k, l - f = k + 1 := ⟨l - f - 1, by omega⟩
  have hk2 : l - (f + 1) = k := by omega
  rw [hk, hk2, List.drop_eq_getElem_cons (by omega : f < ws.length), List.take_succ_cons, List.sum_cons, List.getD_eq_getElem?_getD, List.getElem?_eq_getElem (by omega : f < ws.length)]
  rfl
theorem wsum_one (ws : List Int) : ∀ (xs : List Int) (f : Nat), f + xs.length ≤ ws.length → wsum ws f (xs.map (1 + ·)) = runW ws f (f + xs.length) + wsum ws f xs
  | [], f, _ => by
    show (0 : Int) = runW ws f (f + 0) + 0
    unfold runW
    rw [Nat.add_zero, Nat.sub_self, List.take_zero]
    rfl
  | x :: r, f, h => by
    rw [List.length_cons] at h
    rw [List.map_cons, List.length_cons]
    show ws.getD f 0 * (1 + x) + wsum ws (f + 1) (r.map (1 + ·)) = _ + (ws.getD f 0 * x + wsum ws (f + 1) r)
    rw [wsum_one ws r (f + 1) (by omega), runW_s ws f _ (by omega) (by omega), Int.mul_add, Int.mul_one, show f + 1 + r.length = f + (r.length + 1) by omega]
    omega
theorem tval_wsum (ws : List Int) : ∀ (d f l : Nat), f < l → l ≤ ws.length → l - f ≤ 2 ^ d → tval ws d f l = some (wsum ws f (partV ws d f l))
  | 0, f, l, h, hl, h2 => by
    have : l - f = 1 := by omega
    rw [partV_one ws this]
    unfold tval
    rw [if_pos this]
    show some 0 = some (ws.getD f 0 * 0 + 0)
    rw [Int.mul_zero]
    rfl
  | d + 1, f, l, h, hl, h2 => by
    by_cases h1 : l - f = 1
    · rw [partV_one ws h1]
      unfold tval
      rw [if_pos h1]
      show some 0 = some (ws.getD f 0 * 0 + 0)
      rw [Int.mul_zero]
      rfl
    · obtain ⟨a, m, e, h3, h4, h5, h6, h7, h8, h9⟩ := part_mid (ws := ws) (d := d) (f := f) (l := l) (by omega) h2
      have i1 := tval_wsum ws d f m h3 (by omega) h5
      have i2 := tval_wsum ws d m l h4 hl h6
      have l1 := partV_len ws d f m h3 h5
      have l2 := partV_len ws d m l h4 h6
      unfold psum at h8
      rw [i1, i2] at h8
      cases h8
      have hlen : (partV ws d f m ++ partV ws d m l).length = l - f := by rw [List.length_append, l1, l2]; omega
      rw [h7, h9, wsum_one ws _ f (by rw [hlen]; omega), hlen, show f + (l - f) = l by omega, wsum_append, l1, show f + (m - f) = m by omega]
theorem wsum_range (ws : List Int) : ∀ (xs : List Int) (f : Nat), ((List.range xs.length).map fun k => ws.getD (f + k) 0 * xs.getD k 0).sum = wsum ws f xs
  | [], f => rfl
  | x :: r, f => by
    rw [List.length_cons, List.range_succ_eq_map, List.map_cons, List.sum_cons, List.map_map]
    show ws.getD (f + 0) 0 * x + _ = ws.getD f 0 * x + wsum ws (f + 1) r
    rw [← wsum_range ws r (f + 1)]
    congr 1
    congr 1
    refine List.map_congr_left fun k _ => ?_
    show ws.getD (f + (k + 1)) 0 * (x :: r).getD (k + 1) 0 = ws.getD (f + 1 + k) 0 * r.getD k 0
    rw [show f + (k + 1) = f + 1 + k by omega]
    rfl

/-- the depths of the leaves of a tree of at most this depth -/
inductive Lv : Nat → List Int → Prop
  | leaf (d : Nat) : Lv d [0]
  | node {d : Nat} {xs ys : List Int} (h1 : Lv d xs) (h2 : Lv d ys) : Lv (d + 1) ((xs ++ ys).map (1 + ·))
theorem Lv.pos {d : Nat} {xs : List Int} (h : Lv d xs) : 1 ≤ xs.length := by
  induction h with
  | leaf d => exact Nat.le_refl _
  | node h1 h2 i1 i2 => rw [List.length_map, List.length_append]; omega
theorem Lv.le {d : Nat} {xs : List Int} (h : Lv d xs) : ∀ x ∈ xs, 0 ≤ x ∧ x ≤ d := by
  induction h with
  | leaf d => intro x hx; rw [List.mem_singleton.mp hx]; omega
  | node h1 h2 i1 i2 =>
    intro x hx
    obtain ⟨y, hy, rfl⟩ := List.mem_map.mp hx
    rcases List.mem_append.mp hy with hy | hy
    · have := i1 y hy; omega
    · have := i2 y hy; omega
theorem Lv.ge1 {d : Nat} {xs : List Int} (h : Lv d xs) (hl : 2 ≤ xs.length) : ∀ x ∈ xs, 1 ≤ x := by
  cases h with
  | leaf d => exact absurd hl (by decide)
  | node h1 h2 =>
    intro x hx
    obtain ⟨y, hy, rfl⟩ := List.mem_map.mp hx
    rcases List.mem_append.mp hy with hy | hy
    · have := h1.le y hy; omega
    · have := h2.le y hy; omega
/-- where none is shallow there are all -/
theorem Lv.full {d : Nat} {xs : List Int} (h : Lv d xs) (ha : ∀ x ∈ xs, (d : Int) ≤ x) : xs.length = 2 ^ d := by
  induction h with
  | leaf d =>
    have := ha 0 List.mem_cons_self
    have : d = 0 := by omega
    subst this
    rfl
  | @node d xs ys h1 h2 i1 i2 =>
    have a1 := i1 fun x hx => by
      have := ha (1 + x) (List.mem_map.mpr ⟨x, List.mem_append_left _ hx, rfl⟩)
      omega
    have a2 := i2 fun x hx => by
      have := ha (1 + x) (List.mem_map.mpr ⟨x, List.mem_append_right _ hx, rfl⟩)
      omega
    rw [List.length_map, List.length_append, a1, a2, Nat.pow_succ]
    omega
/-- a leaf becomes two -/
def splitAt (xs : List Int) (i : Nat) : List Int := xs.take i ++ [xs.getD i 0 + 1, xs.getD i 0 + 1] ++ xs.drop (i + 1)
theorem splitAt_len {xs : List Int} {i : Nat} (h : i < xs.length) : (splitAt xs i).length = xs.length + 1 := by
  unfold splitAt
  rw [List.length_append, List.length_append, List.length_take, List.length_drop]
  simp only [List.length_cons, List.length_nil]
  omega
theorem splitAt_left {xs ys : List Int} {i : Nat} (h : i < xs.length) : splitAt (xs ++ ys) i = splitAt xs i ++ ys := by
  unfold splitAt
  rw [List.take_append_of_le_length (by omega), List.drop_append_of_le_length (by omega), List.getD_eq_getElem?_getD, List.getElem?_append_left h, ← List.getD_eq_getElem?_getD]
  simp only [List.append_assoc]
theorem splitAt_right {xs ys : List Int} {i : Nat} (h : xs.length ≤ i) : splitAt (xs ++ ys) i = xs ++ splitAt ys (i - xs.length) := by
  unfold splitAt
  rw [List.take_append, List.drop_append, List.take_of_length_le h, List.drop_of_length_le (by omega : xs.length ≤ i + 1), List.getD_eq_getElem?_getD, List.getElem?_append_right h, ← List.getD_eq_getElem?_getD]
  rw [show i + 1 - xs.length = i - xs.length + 1 by omega]
  simp only [List.append_assoc, List.nil_append]
theorem splitAt_map {xs : List Int} {i : Nat} (h : i < xs.length) : splitAt (xs.map (1 + ·)) i = (splitAt xs i).map (1 + ·) := by
  unfold splitAt
  rw [List.getD_eq_getElem?_getD, List.getD_eq_getElem?_getD, List.getElem?_map, List.getElem?_eq_getElem h]
  simp only [Option.map_some, Option.getD_some, List.map_append, List.map_take, List.map_drop, List.map_cons, List.map_nil]
  rw [show 1 + xs[i] + 1 = 1 + (xs[i] + 1) by omega]
theorem Lv.split {d : Nat} {xs : List Int} (h : Lv d xs) : ∀ i, i < xs.length → xs.getD i 0 < d → Lv d (splitAt xs i) := by
  induction h with
  | leaf d =>
    intro i hi hd
    have : i = 0 := by simpa using hi
    subst this
    have hd : (0 : Int) < d := hd
    obtain ⟨k, rfl⟩ : ∃ k, d = k + 1 := ⟨d - 1, by omega⟩
    exact Lv.node (Lv.leaf k) (Lv.leaf k)
  | @node d xs ys h1 h2 i1 i2 =>
    intro i hi hd
    rw [List.length_map] at hi
    rw [splitAt_map hi]
    rw [List.getD_eq_getElem?_getD, List.getElem?_map, List.getElem?_eq_getElem hi] at hd
    have hd : 1 + (xs ++ ys)[i] < ((d + 1 : Nat) : Int) := hd
    by_cases hx : i < xs.length
    · rw [splitAt_left hx]
      refine Lv.node (i1 i hx ?_) h2
      rw [List.getElem_append_left hx] at hd
      rw [List.getD_eq_getElem?_getD, List.getElem?_eq_getElem hx]
      show xs[i] < (d : Int)
      omega
    · rw [splitAt_right (by omega)]
      rw [List.length_append] at hi
      refine Lv.node h1 (i2 _ (by omega) ?_)
      rw [List.getElem_append_right (by omega)] at hd
      rw [List.getD_eq_getElem?_getD, List.getElem?_eq_getElem (by omega)]
      show ys[i - xs.length] < (d : Int)
      omega
/-- the table's value is least -/
theorem Lv.least {ws : List Int} {d : Nat} {xs : List Int} (h : Lv d xs) : ∀ f, f + xs.length ≤ ws.length → ∃ v, tval ws d f (f + xs.length) = some v ∧ v ≤ wsum ws f xs := by
  induction h with
  | leaf d =>
    intro f hf
    refine ⟨0, ?_, ?_⟩
    · have e : f + ([0] : List Int).length - f = 1 := by rw [List.length_singleton]; omega
      cases d with
      | zero => unfold tval; rw [if_pos e]
      | succ d => unfold tval; rw [if_pos e]
    · show 0 ≤ ws.getD f 0 * 0 + 0
      omega
  | @node d xs ys h1 h2 i1 i2 =>
    intro f hf
    rw [List.length_map, List.length_append] at hf ⊢
    have p1 := h1.pos
    have p2 := h2.pos
    obtain ⟨v1, e1, l1⟩ := i1 f (by omega)
    obtain ⟨v2, e2, l2⟩ := i2 (f + xs.length) (by omega)
    have hb : f + (xs.length + ys.length) - f ≤ 2 ^ (d + 1) := by
      have a1 := (tval_some ws d f (f + xs.length) (by omega)).mp (by rw [e1]; nofun)
      have a2 := (tval_some ws d (f + xs.length) (f + xs.length + ys.length) (by omega)).mp (by rw [e2]; nofun)
      rw [Nat.pow_succ]
      omega
    obtain ⟨a, m, e, h3, h4, h5⟩ := leastB_some (ws := ws) (d := d) (f := f) (l := f + (xs.length + ys.length)) (by omega) hb
    refine ⟨_, h5, ?_⟩
    have hp : psum (tval ws d) f (f + xs.length) (f + (xs.length + ys.length)) = some (v1 + v2) := by
      unfold psum
      rw [← Nat.add_assoc, e1, e2]
    have := ((leastB_best (tval ws d) f _).yes a m e).2.2 (f + xs.length) (mem_mids.mpr (by omega)) (v1 + v2) hp
    have hw := wsum_one ws (xs ++ ys) f (by rw [List.length_append]; omega)
    rw [List.length_append, wsum_append] at hw
    rw [hw]
    omega

/-! law_leaves: slots 0:_law_script 1:_law_first 2:_law_many_here 3:_law_bound_here 4:_law_depths 5:_law_k 6:_law_shallow 7:_law_at -/
def g_law_leaves : SE := (sSeq (sSetL 4 (lLst [(eC (.int 0))]))
  (sSeq (sFor (wRange1 (eOp oSub (eVar 2) (eC (.int 1)))) (tgN 5) [5, 6, 7] (sSeq (sSetL 6 (lComp (wRange1 (eLenV (rVar 4))) (tgN 7) [7] (bOf (eOp oLt (eIx (lVar 4) (eVar 7)) (eVar 3))) (eVar 7)))
  (sSeq (sIf (bOf (eOp oEq (rVar 6) (eOfL (lLst [])))) (sRetO 4) sNext)
  (sSeq (sSet 7 (eIx (lVar 6) (eOp oMod (eX (xCall M_law_cell (rL (lVar 0) (rV (eOp oAdd (eVar 1) (eVar 5)) rNil)))) (eLenV (rVar 6)))))
  (sSetL 4 (lCat (lCat (lSl (lVar 4) oNo (oPart (eVar 7))) (lLst [(eOp oAdd (eIx (lVar 4) (eVar 7)) (eC (.int 1))), (eOp oAdd (eIx (lVar 4) (eVar 7)) (eC (.int 1)))])) (lSl (lVar 4) (oPart (eOp oAdd (eVar 7) (eC (.int 1)))) oNo)))))))
  (sSeq (sIf (bOf (eOp oEq (eLenV (rVar 4)) (eC (.int 1)))) (sRetL (lLst [(eC (.int 1))])) sNext)
  (sRetO 4))))
def F_law_leaves : FN := runF 4 8 g_law_leaves
theorem ex_law_leaves : ∃ M : FN, M = F_law_leaves := ⟨_, rfl⟩
def M_law_leaves : FN := ex_law_leaves.choose
theorem M_law_leaves_eq : M_law_leaves = F_law_leaves := ex_law_leaves.choose_spec
theorem ok_law_leaves : ∀ as : List SL, as.length = 4 → M_law_leaves as ≠ .stuck → F_law_leaves as = M_law_leaves as := fun _ _ _ => by rw [M_law_leaves_eq]
theorem forGo_invN {tg : TGT} {ws : List Nat} {body : SE} (P : Nat → Env → Prop) : ∀ (n a : Nat) {ρ : Env}, P 0 ρ → (∀ j ρ, j < n → P j ρ → ∃ ρ', turn tg ws body (.int ((a + j : Nat) : Int)) ρ = .nx ρ' ∧ P (j + 1) ρ') → ∃ ρ', forGo tg ws body ((List.range' a n).map fun k => PyData.int ((k : Nat) : Int)) ρ = .nx ρ' ∧ P n ρ'
  | 0, _, ρ, h0, _ => ⟨ρ, rfl, h0⟩
  | n + 1, a, ρ, h0, hs => by
    obtain ⟨ρ1, e1, p1⟩ := hs 0 ρ (by omega) h0
    rw [Nat.add_zero] at e1
    obtain ⟨ρ', e2, p2⟩ := forGo_invN (tg := tg) (ws := ws) (body := body) (fun j => P (j + 1)) n (a + 1) p1 (fun j ρ hj hp => by
      have := hs (j + 1) ρ (by omega) hp
      rw [show a + (j + 1) = a + 1 + j by omega] at this
      exact this)
    refine ⟨ρ', ?_, p2⟩
    rw [List.range'_succ, List.map_cons, forGo_cons, e1]
    exact e2
/-- the places of the shallow ones -/
def shallow (xs : List Int) (b : Int) : List Nat := (List.range xs.length).filter fun k => decide (xs.getD k 0 < b)
theorem mem_shallow {xs : List Int} {b : Int} {k : Nat} : k ∈ shallow xs b ↔ k < xs.length ∧ xs.getD k 0 < b := by
  unfold shallow
  rw [List.mem_filter, List.mem_range, decide_eq_true_iff]
abbrev shL (xs : List Int) (b : Int) : List Int := (shallow xs b).map fun k : Nat => (k : Int)
theorem shallow_comp {ρ : Env} {xs : List Int} {b : Int} (hl : xs.length < 1000) (h4 : rVar 4 ρ = .ok (.list (xs.map PyData.int))) (hv : ∀ d, eVar 7 ((wp [7] ρ).set 7 (some (.fz d))) = .ok d) (h4' : ∀ d, lVar 4 ((wp [7] ρ).set 7 (some (.fz d))) = .ok (xs.map PyData.int)) (h3 : ∀ d, eVar 3 ((wp [7] ρ).set 7 (some (.fz d))) = .ok (.int b)) :
    lComp (wRange1 (eLenV (rVar 4))) (tgN 7) [7] (bOf (eOp oLt (eIx (lVar 4) (eVar 7)) (eVar 3))) (eVar 7) ρ = .ok ((shL xs b).map PyData.int) := by
  have hw : wRange1 (eLenV (rVar 4)) ρ = .ok (rngD 0 xs.length 1) := (wRange1_ok (n := (xs.length : Int)) (by rw [eLenV_ap, h4, Out.bind_ok, lenOf_l, List.length_map]) ⟨by omega, by omega⟩).trans (by rw [show ((xs.length : Int)).toNat = xs.length by omega])
  rw [lComp_filter (fun d => match d with
    | .int k => decide (xs.getD k.toNat 0 < b)
    | _ => false) (fun d => d) hw (by unfold rngD; rw [List.length_map, List.length_range]; omega) (fun d hd => by
      rw [rng_map] at hd
      obtain ⟨k, hk, rfl⟩ := List.mem_map.mp hd
      have hk := List.mem_range.mp hk
      have a1 := atI_intsZ (ns := xs) (k := (k : Int)) (by omega) (by omega)
      refine ⟨_, rfl, ?_, fun _ => hv _⟩
      rw [bOf_ap, eOp_ap, eIx_ok (h4' _) (hv _) a1, Out.bind_ok, h3, Out.bind_ok, oLt_i, Out.bind_ok])]
  rw [List.map_id', rng_map, List.filter_map]
  unfold shL shallow
  rw [List.map_map]
  refine congrArg Out.ok ?_
  have : ((fun d => match d with
    | PyData.int k => decide (xs.getD k.toNat 0 < b)
    | _ => false) ∘ fun (k : Nat) => PyData.int ((k : Nat) : Int)) = fun k => decide (xs.getD k 0 < b) := by
    funext k
    show decide (xs.getD ((k : Nat) : Int).toNat 0 < b) = _
    rw [show ((k : Nat) : Int).toNat = k by omega]
  rw [this]
  rfl
abbrev bodyLe : SE := (sSeq (sSetL 6 (lComp (wRange1 (eLenV (rVar 4))) (tgN 7) [7] (bOf (eOp oLt (eIx (lVar 4) (eVar 7)) (eVar 3))) (eVar 7)))
  (sSeq (sIf (bOf (eOp oEq (rVar 6) (eOfL (lLst [])))) (sRetO 4) sNext)
  (sSeq (sSet 7 (eIx (lVar 6) (eOp oMod (eX (xCall M_law_cell (rL (lVar 0) (rV (eOp oAdd (eVar 1) (eVar 5)) rNil)))) (eLenV (rVar 6)))))
  (sSetL 4 (lCat (lCat (lSl (lVar 4) oNo (oPart (eVar 7))) (lLst [(eOp oAdd (eIx (lVar 4) (eVar 7)) (eC (.int 1))), (eOp oAdd (eIx (lVar 4) (eVar 7)) (eC (.int 1)))])) (lSl (lVar 4) (oPart (eOp oAdd (eVar 7) (eC (.int 1)))) oNo))))))
abbrev envLe (ns : List Int) (first n b : Int) (xs : List Int) (x y z : Option SL) : Env := [some (.bw (ns.map PyData.int)), some (.fz (.int first)), some (.fz (.int n)), some (.fz (.int b)), some (.ow (xs.map PyData.int)), x, y, z]
theorem turnLe {ns : List Int} {first n : Int} {b j : Nat} {xs : List Int} (hf : 0 ≤ first ∧ first ≤ 1000) (hx : Lv b xs) (hlen : xs.length = j + 1) (hj : j < 100) (hb : xs.length < 2 ^ b) :
    ∃ xs', Lv b xs' ∧ xs'.length = j + 1 + 1 ∧ turn (tgN 5) [5, 6, 7] bodyLe (.int ((0 + j : Nat) : Int)) (envLe ns first n (b : Int) xs none none none) = .nx (envLe ns first n (b : Int) xs' none none none) := by
  have hne : shallow xs (b : Int) ≠ [] := fun z => by
    have := hx.full fun x hxm => by
      obtain ⟨k, hk, rfl⟩ := List.getElem_of_mem hxm
      have hk2 : k ∉ shallow xs (b : Int) := by rw [z]; exact List.not_mem_nil
      rw [mem_shallow] at hk2
      have : ¬ xs.getD k 0 < (b : Int) := fun w => hk2 ⟨hk, w⟩
      rw [List.getD_eq_getElem?_getD, List.getElem?_eq_getElem hk] at this
      have : ¬ xs[k] < (b : Int) := this
      omega
    omega
  have hpos : 0 < (shallow xs (b : Int)).length := List.length_pos_iff.mpr hne
  have hsl : (shL xs (b : Int)).length = (shallow xs (b : Int)).length := by unfold shL; rw [List.length_map]
  rw [Nat.zero_add]
  have c1 := M_law_cell_ok ns (k := first + (j : Int)) (by omega) (by omega)
  generalize cellV ns (first + (j : Int)) = c at c1
  have e0 := Int.emod_nonneg c (b := ((shL xs (b : Int)).length : Int)) (by omega)
  have e1 := Int.emod_lt_of_pos c (b := ((shL xs (b : Int)).length : Int)) (by omega)
  have hmod : oMod (.int c) (.int ((shL xs (b : Int)).length : Int)) = .ok (.int (c % ((shL xs (b : Int)).length : Int))) := oMod_i (by omega)
  have hat := atI_intsZ (ns := shL xs (b : Int)) e0 e1
  obtain ⟨i, hi, hie⟩ : ∃ i : Nat, i ∈ shallow xs (b : Int) ∧ (shL xs (b : Int)).getD (c % ((shL xs (b : Int)).length : Int)).toNat 0 = (i : Int) := by
    generalize (c % ((shL xs (b : Int)).length : Int)) = q at e0 e1
    have hq : q.toNat < (shallow xs (b : Int)).length := by omega
    refine ⟨(shallow xs (b : Int))[q.toNat], List.getElem_mem hq, ?_⟩
    unfold shL
    rw [List.getD_eq_getElem?_getD, List.getElem?_map, List.getElem?_eq_getElem hq]
    rfl
  rw [hie] at hat
  rw [mem_shallow] at hi
  refine ⟨splitAt xs i, hx.split i hi.1 hi.2, by rw [splitAt_len hi.1, hlen], ?_⟩
  have hcomp := shallow_comp (ρ := envLe ns first n (b : Int) xs (some (.fz (.int (j : Int)))) none none) (xs := xs) (b := (b : Int)) (by omega) rfl (fun _ => rfl) (fun _ => rfl) (fun _ => rfl)
  have hnn : oEq (.list ((shL xs (b : Int)).map PyData.int)) (.list []) = .ok (.bool false) := by
    rw [oEq_nil (shp_ints 0 _)]
    cases hc : shL xs (b : Int) with
    | nil => rw [hc] at hsl; simp at hsl; omega
    | cons x r => rfl
  have hx4 := atI_intsZ (ns := xs) (k := (i : Int)) (by omega) (by omega)
  rw [show ((i : Nat) : Int).toNat = i by omega] at hx4
  have h6 : eIx (lVar 6) (eOp oMod (eX (xCall M_law_cell (rL (lVar 0) (rV (eOp oAdd (eVar 1) (eVar 5)) rNil)))) (eLenV (rVar 6))) (envLe ns first n (b : Int) xs (some (.fz (.int (j : Int)))) (some (.ow ((shL xs (b : Int)).map PyData.int))) none) = .ok (.int (i : Int)) := by
    refine eIx_ok rfl (k := c % ((shL xs (b : Int)).length : Int)) ?_ hat
    generalize shL xs (b : Int) = SL at hmod
    simp [c1, hmod]
  have hcat : lCat (lCat (lSl (lVar 4) oNo (oPart (eVar 7))) (lLst [(eOp oAdd (eIx (lVar 4) (eVar 7)) (eC (.int 1))), (eOp oAdd (eIx (lVar 4) (eVar 7)) (eC (.int 1)))])) (lSl (lVar 4) (oPart (eOp oAdd (eVar 7) (eC (.int 1)))) oNo) (envLe ns first n (b : Int) xs (some (.fz (.int (j : Int)))) (some (.ow ((shL xs (b : Int)).map PyData.int))) (some (.fz (.int (i : Int))))) = .ok ((splitAt xs i).map PyData.int) := by
    have s1 : lSl (lVar 4) oNo (oPart (eVar 7)) (envLe ns first n (b : Int) xs (some (.fz (.int (j : Int)))) (some (.ow ((shL xs (b : Int)).map PyData.int))) (some (.fz (.int (i : Int))))) = .ok ((xs.take i).map PyData.int) := by
      show Out.ok (cutD (xs.map PyData.int) none (some (i : Int))) = _
      rw [cutD_to, List.map_take]
    have s2 : lSl (lVar 4) (oPart (eOp oAdd (eVar 7) (eC (.int 1)))) oNo (envLe ns first n (b : Int) xs (some (.fz (.int (j : Int)))) (some (.ow ((shL xs (b : Int)).map PyData.int))) (some (.fz (.int (i : Int))))) = .ok ((xs.drop (i + 1)).map PyData.int) := by
      show Out.ok (cutD (xs.map PyData.int) (some ((i : Int) + 1)) none) = _
      rw [show (i : Int) + 1 = ((i + 1 : Nat) : Int) by omega, cutD_from, List.map_drop]
    have s3 : lLst [(eOp oAdd (eIx (lVar 4) (eVar 7)) (eC (.int 1))), (eOp oAdd (eIx (lVar 4) (eVar 7)) (eC (.int 1)))] (envLe ns first n (b : Int) xs (some (.fz (.int (j : Int)))) (some (.ow ((shL xs (b : Int)).map PyData.int))) (some (.fz (.int (i : Int))))) = .ok ([xs.getD i 0 + 1, xs.getD i 0 + 1].map PyData.int) := by
      have hix : eIx (lVar 4) (eVar 7) (envLe ns first n (b : Int) xs (some (.fz (.int (j : Int)))) (some (.ow ((shL xs (b : Int)).map PyData.int))) (some (.fz (.int (i : Int))))) = .ok (.int (xs.getD i 0)) := eIx_ok rfl rfl hx4
      rw [lLst_ap, aAll_cons, eOp_ap, hix, Out.bind_ok, eC_ap, Out.bind_ok, oAdd_i, Out.bind_ok, aAll_cons, eOp_ap, hix, Out.bind_ok, eC_ap, Out.bind_ok, oAdd_i, Out.bind_ok, aAll_nil, Out.bind_ok, Out.bind_ok]
      rfl
    have t1 : (xs.take i).length ≤ 1000 := by rw [List.length_take]; omega
    have t2 : (xs.drop (i + 1)).length ≤ 1000 := by rw [List.length_drop]; omega
    unfold lCat
    rw [s1, s2, s3, Out.bind_ok, Out.bind_ok, if_pos (by rw [List.length_map, List.length_map]; simp only [List.length_cons, List.length_nil]; omega), Out.bind_ok, Out.bind_ok, if_pos (by rw [List.length_append, List.length_map, List.length_map, List.length_map]; simp only [List.length_cons, List.length_nil]; omega)]
    unfold splitAt
    rw [List.map_append, List.map_append]
  refine (turn_nx (ρ1 := envLe ns first n (b : Int) xs (some (.fz (.int (j : Int)))) none none) (ρ2 := envLe ns first n (b : Int) (splitAt xs i) (some (.fz (.int (j : Int)))) (some (.ow ((shL xs (b : Int)).map PyData.int))) (some (.fz (.int (i : Int))))) rfl ?_).trans rfl
  unfold bodyLe
  rw [seq_nx (ρ' := envLe ns first n (b : Int) xs (some (.fz (.int (j : Int)))) (some (.ow ((shL xs (b : Int)).map PyData.int))) none) (by rw [sSetL_ap, hcomp]; rfl)]
  rw [seq_nx (ρ' := envLe ns first n (b : Int) xs (some (.fz (.int (j : Int)))) (some (.ow ((shL xs (b : Int)).map PyData.int))) none) (by
    unfold envLe
    generalize shL xs (b : Int) = SL at hnn ⊢
    simp [hnn])]
  rw [seq_nx (ρ' := envLe ns first n (b : Int) xs (some (.fz (.int (j : Int)))) (some (.ow ((shL xs (b : Int)).map PyData.int))) (some (.fz (.int (i : Int))))) (by rw [sSet_ap, h6]; rfl)]
  rw [sSetL_ap, hcat]
  rfl
theorem M_law_leaves_okB (ns : List Int) {first : Int} {n b : Nat} (hf : 0 ≤ first ∧ first ≤ 1000) (h1 : 1 ≤ n) (hn : n ≤ 40) (hb : n ≤ 2 ^ b) : ∃ xs : List Int, xs.length = n ∧ (xs = [1] ∨ (Lv b xs ∧ 2 ≤ n)) ∧ M_law_leaves [.bw (ns.map PyData.int), .fz (.int first), .fz (.int (n : Int)), .fz (.int (b : Int))] = .ok (.fresh (xs.map PyData.int)) := by
  obtain ⟨ρ', e, xs, hx, hlen, rfl⟩ := forGo_invN (tg := tgN 5) (ws := [5, 6, 7]) (body := bodyLe) (fun j ρ => ∃ xs, Lv b xs ∧ xs.length = j + 1 ∧ ρ = envLe ns first (n : Int) (b : Int) xs none none none) (n - 1) 0 (ρ := envLe ns first (n : Int) (b : Int) [0] none none none) ⟨[0], Lv.leaf b, rfl, rfl⟩ (fun j ρ hj ⟨xs, hx, hl, e⟩ => by
    subst e
    obtain ⟨xs', g1, g2, g3⟩ := turnLe (ns := ns) (first := first) (n := (n : Int)) hf hx hl (by omega) (by omega)
    exact ⟨_, g3, xs', g1, g2, rfl⟩)
  have hw : wRange1 (eOp oSub (eVar 2) (eC (.int 1))) (envLe ns first (n : Int) (b : Int) [0] none none none) = .ok ((List.range' 0 (n - 1)).map fun k => PyData.int ((k : Nat) : Int)) := by
    rw [← rng_nat 0 (n - 1)]
    rw [wRange1_ok (n := (n : Int) - 1) rfl ⟨by omega, by omega⟩, show ((n : Int) - 1).toNat = n - 1 by omega]
    rfl
  have hg : g_law_leaves = sSeq (sSetL 4 (lLst [(eC (.int 0))])) (sSeq (sFor (wRange1 (eOp oSub (eVar 2) (eC (.int 1)))) (tgN 5) [5, 6, 7] bodyLe) (sSeq (sIf (bOf (eOp oEq (eLenV (rVar 4)) (eC (.int 1)))) (sRetL (lLst [(eC (.int 1))])) sNext) (sRetO 4))) := rfl
  have h0 : sSetL 4 (lLst [(eC (.int 0))]) [some (.bw (ns.map PyData.int)), some (.fz (.int first)), some (.fz (.int (n : Int))), some (.fz (.int (b : Int))), none, none, none, none] = .nx (envLe ns first (n : Int) (b : Int) [0] none none none) := rfl
  by_cases hone : n = 1
  · subst hone
    refine ⟨[1], rfl, .inl rfl, ?_⟩
    rw [M_law_leaves_eq]
    unfold F_law_leaves
    refine runF_rt [some (.bw (ns.map PyData.int)), some (.fz (.int first)), some (.fz (.int ((1 : Nat) : Int))), some (.fz (.int (b : Int))), none, none, none, none] rfl rfl (ρ' := envLe ns first ((1 : Nat) : Int) (b : Int) xs none none none) ?_
    rw [hg, seq_nx h0, seq_nx ((for_of hw).trans e)]
    have hl2 : (xs.length : Int) = 1 := by omega
    simp [hl2]
  · refine ⟨xs, by omega, .inr ⟨hx, by omega⟩, ?_⟩
    rw [M_law_leaves_eq]
    unfold F_law_leaves
    refine runF_rt [some (.bw (ns.map PyData.int)), some (.fz (.int first)), some (.fz (.int (n : Int))), some (.fz (.int (b : Int))), none, none, none, none] rfl rfl (ρ' := envLe ns first (n : Int) (b : Int) xs none none none) ?_
    rw [hg, seq_nx h0, seq_nx ((for_of hw).trans e)]
    have hl2 : ¬ (xs.length : Int) = 1 := by omega
    simp [hl2]
    rfl
theorem M_law_leaves_ok (ns : List Int) {first : Int} {n b : Nat} (hf : 0 ≤ first ∧ first ≤ 1000) (h1 : 1 ≤ n) (hn : n ≤ 24) (hb : n ≤ 2 ^ b) : ∃ xs : List Int, xs.length = n ∧ (xs = [1] ∨ (Lv b xs ∧ 2 ≤ n)) ∧ M_law_leaves [.bw (ns.map PyData.int), .fz (.int first), .fz (.int (n : Int)), .fz (.int (b : Int))] = .ok (.fresh (xs.map PyData.int)) := M_law_leaves_okB ns hf h1 (by omega) hb

/-! ### sorting by a whole number: just one list -/
section
variable {α : Type} (key : α → Int)
def leBy (a b : α) : Bool := decide (key a ≤ key b)
/-- what is sorted, and has each key's items in the same order, is the same -/
theorem sort_uniq : ∀ (l m : List α), l.Pairwise (fun a b => key a ≤ key b) → m.Pairwise (fun a b => key a ≤ key b) → (∀ v, l.filter (fun x => decide (key x = v)) = m.filter fun x => decide (key x = v)) → l = m
  | [], [], _, _, _ => rfl
  | [], y :: m, _, _, h => by
    have := h (key y)
    rw [List.filter_nil, List.filter_cons, if_pos (decide_eq_true rfl)] at this
    cases this
  | x :: l, [], _, _, h => by
    have := h (key x)
    rw [List.filter_nil, List.filter_cons, if_pos (decide_eq_true rfl)] at this
    cases this
  | x :: l, y :: m, hl, hm, h => by
    have hx : x ∈ (y :: m) := by
      have h1 : x ∈ (x :: l).filter (fun z => decide (key z = key x)) := List.mem_filter.mpr ⟨List.mem_cons_self, decide_eq_true rfl⟩
      rw [h] at h1
      exact (List.mem_filter.mp h1).1
    have hy : y ∈ (x :: l) := by
      have h1 : y ∈ (y :: m).filter (fun z => decide (key z = key y)) := List.mem_filter.mpr ⟨List.mem_cons_self, decide_eq_true rfl⟩
      rw [← h] at h1
      exact (List.mem_filter.mp h1).1
    have e1 : key x ≤ key y := by
      rcases List.mem_cons.mp hy with e | e
      · rw [e]; exact Int.le_refl _
      · exact (List.pairwise_cons.mp hl).1 y e
    have e2 : key y ≤ key x := by
      rcases List.mem_cons.mp hx with e | e
      · rw [e]; exact Int.le_refl _
      · exact (List.pairwise_cons.mp hm).1 x e
    have ek : key y = key x := by omega
    have hv := h (key x)
    rw [List.filter_cons, List.filter_cons, if_pos (decide_eq_true rfl), if_pos (decide_eq_true ek)] at hv
    have exy : x = y := (List.cons.inj hv).1
    subst exy
    rw [sort_uniq l m (List.pairwise_cons.mp hl).2 (List.pairwise_cons.mp hm).2 fun v => by
      have := h v
      rw [List.filter_cons, List.filter_cons] at this
      by_cases e : key x = v
      · rw [if_pos (decide_eq_true e), if_pos (decide_eq_true e)] at this
        exact (List.cons.inj this).2
      · have ne : ¬ decide (key x = v) = true := by rw [decide_eq_true_iff]; exact e
        rw [if_neg ne, if_neg ne] at this
        exact this]
theorem leBy_trans (a b c : α) (h1 : leBy key a b = true) (h2 : leBy key b c = true) : leBy key a c = true := by
  unfold leBy at *
  rw [decide_eq_true_iff] at *
  omega
theorem leBy_total (a b : α) : (leBy key a b || leBy key b a) = true := by
  unfold leBy
  rw [Bool.or_eq_true, decide_eq_true_iff, decide_eq_true_iff]
  omega
theorem sort_sorted (l : List α) : (l.mergeSort (leBy key)).Pairwise (fun a b => key a ≤ key b) :=
  (List.pairwise_mergeSort (leBy_trans key) (leBy_total key) l).imp fun h => of_decide_eq_true h
theorem sort_filter (l : List α) (v : Int) : (l.mergeSort (leBy key)).filter (fun x => decide (key x = v)) = l.filter fun x => decide (key x = v) := by
  have hp : (l.filter fun x => decide (key x = v)).Pairwise (fun a b => leBy key a b = true) := by
    refine List.pairwise_of_forall_mem_list fun a ha b hb => ?_
    have h1 := of_decide_eq_true (List.mem_filter.mp ha).2
    have h2 := of_decide_eq_true (List.mem_filter.mp hb).2
    exact decide_eq_true (by omega)
  have hs : (l.filter fun x => decide (key x = v)).Sublist (l.mergeSort (leBy key)) := List.sublist_mergeSort (leBy_trans key) (leBy_total key) hp List.filter_sublist
  have hs2 := hs.filter fun x => decide (key x = v)
  rw [List.filter_filter] at hs2
  have e : (fun a => decide (key a = v) && decide (key a = v)) = fun a => decide (key a = v) := by
    funext a
    rw [Bool.and_self]
  rw [e] at hs2
  exact (hs2.eq_of_length (((List.mergeSort_perm l (leBy key)).filter _).length_eq.symm)).symm
/-- THE sorted list -/
theorem sort_is {l m : List α} (hs : m.Pairwise (fun a b => key a ≤ key b)) (hf : ∀ v, m.filter (fun x => decide (key x = v)) = l.filter fun x => decide (key x = v)) : l.mergeSort (leBy key) = m :=
  sort_uniq key _ _ (sort_sorted key l) hs fun v => (sort_filter key l v).trans (hf v).symm
/-- two sorted lists put together: the first one's first -/
def mrg : List α → List α → List α
  | [], bs => bs
  | as, [] => as
  | a :: as, b :: bs => if key a ≤ key b then a :: mrg as (b :: bs) else b :: mrg (a :: as) bs
  termination_by as bs => as.length + bs.length
theorem mrg_nil (as : List α) : mrg key as [] = as := by
  cases as <;> simp [mrg]
theorem nil_mrg (bs : List α) : mrg key [] bs = bs := by
  simp [mrg]
theorem mrg_cons (a b : α) (as bs : List α) : mrg key (a :: as) (b :: bs) = if key a ≤ key b then a :: mrg key as (b :: bs) else b :: mrg key (a :: as) bs := by
  conv => lhs; unfold mrg
theorem mrg_perm : ∀ (as bs : List α), (mrg key as bs).Perm (as ++ bs)
  | [], bs => by rw [nil_mrg]; exact List.Perm.refl _
  | a :: as, [] => by rw [mrg_nil, List.append_nil]
  | a :: as, b :: bs => by
    rw [mrg_cons]
    by_cases h : key a ≤ key b
    · rw [if_pos h]
      exact (mrg_perm as (b :: bs)).cons a
    · rw [if_neg h]
      refine ((mrg_perm (a :: as) bs).cons b).trans ?_
      exact (List.perm_middle (a := b) (l₁ := a :: as) (l₂ := bs)).symm
  termination_by as bs => as.length + bs.length
theorem mrg_sorted : ∀ (as bs : List α), as.Pairwise (fun a b => key a ≤ key b) → bs.Pairwise (fun a b => key a ≤ key b) → (mrg key as bs).Pairwise (fun a b => key a ≤ key b)
  | [], bs, _, h => by rw [nil_mrg]; exact h
  | a :: as, [], h, _ => by rw [mrg_nil]; exact h
  | a :: as, b :: bs, h1, h2 => by
    rw [mrg_cons]
    have p1 := List.pairwise_cons.mp h1
    have p2 := List.pairwise_cons.mp h2
    by_cases h : key a ≤ key b
    · rw [if_pos h]
      refine List.pairwise_cons.mpr ⟨fun x hx => ?_, mrg_sorted as (b :: bs) p1.2 h2⟩
      rcases List.mem_append.mp ((mrg_perm key as (b :: bs)).mem_iff.mp hx) with hx | hx
      · exact p1.1 x hx
      · rcases List.mem_cons.mp hx with rfl | hx
        · exact h
        · have := p2.1 x hx; omega
    · rw [if_neg h]
      refine List.pairwise_cons.mpr ⟨fun x hx => ?_, mrg_sorted (a :: as) bs h1 p2.2⟩
      rcases List.mem_append.mp ((mrg_perm key (a :: as) bs).mem_iff.mp hx) with hx | hx
      · rcases List.mem_cons.mp hx with rfl | hx
        · omega
        · have := p1.1 x hx; omega
      · exact p2.1 x hx
  termination_by as bs => as.length + bs.length
theorem mrg_filter (v : Int) : ∀ (as bs : List α), as.Pairwise (fun a b => key a ≤ key b) → (mrg key as bs).filter (fun x => decide (key x = v)) = (as ++ bs).filter fun x => decide (key x = v)
  | [], bs, _ => by rw [nil_mrg]; rfl
  | a :: as, [], _ => by rw [mrg_nil, List.append_nil]
  | a :: as, b :: bs, h1 => by
    rw [mrg_cons]
    have p1 := List.pairwise_cons.mp h1
    by_cases h : key a ≤ key b
    · rw [if_pos h, List.filter_cons, mrg_filter v as (b :: bs) p1.2, List.cons_append, List.filter_cons]
    · rw [if_neg h, List.filter_cons, mrg_filter v (a :: as) bs h1]
      by_cases e : key b = v
      · rw [if_pos (decide_eq_true e), List.filter_append, List.filter_append]
        have hn : (a :: as).filter (fun x => decide (key x = v)) = [] := List.filter_eq_nil_iff.mpr fun x hx => by
          rw [decide_eq_true_iff]
          rcases List.mem_cons.mp hx with rfl | hx
          · omega
          · have := p1.1 x hx; omega
        rw [hn, List.nil_append, List.nil_append, List.filter_cons, if_pos (decide_eq_true e)]
      · have ne : ¬ decide (key b = v) = true := by rw [decide_eq_true_iff]; exact e
        rw [if_neg ne, List.filter_append, List.filter_append, List.filter_cons (x := b), if_neg ne]
  termination_by as bs => as.length + bs.length
theorem sort_mrg {as bs : List α} (h1 : as.Pairwise (fun a b => key a ≤ key b)) (h2 : bs.Pairwise (fun a b => key a ≤ key b)) : (as ++ bs).mergeSort (leBy key) = mrg key as bs :=
  sort_is key (mrg_sorted key as bs h1 h2) fun v => mrg_filter key v as bs h1
end

/-! ### packets -/
abbrev Pk := Int × List Int
def pkW : Pk → Int := fun p => p.1
/-- the pairs of a row -/
def pairsV : List Pk → List Pk
  | a :: b :: r => (a.1 + b.1, (a.2 ++ b.2).mergeSort leI) :: pairsV r
  | _ => []
/-- the packets of single signs, the first sign numbered from k -/
def signsV : Nat → List Int → List Pk
  | _, [] => []
  | k, w :: r => (w, [(k : Int)]) :: signsV (k + 1) r
def singlesV (ws : List Int) : List Pk := (signsV 0 ws).mergeSort (leBy pkW)
/-- the rows -/
def rowV (ws : List Int) : Nat → List Pk
  | 0 => singlesV ws
  | j + 1 => (singlesV ws ++ pairsV (rowV ws j)).mergeSort (leBy pkW)
theorem pairsV_len : ∀ r : List Pk, (pairsV r).length = r.length / 2
  | [] => by simp [pairsV]
  | [_] => by simp [pairsV]
  | a :: b :: r => by
    show (pairsV r).length + 1 = (r.length + 1 + 1) / 2
    rw [pairsV_len r]
    omega
theorem signsV_len : ∀ (k : Nat) (ws : List Int), (signsV k ws).length = ws.length
  | _, [] => rfl
  | k, w :: r => by
    show (signsV (k + 1) r).length + 1 = r.length + 1
    rw [signsV_len]
theorem singlesV_len (ws : List Int) : (singlesV ws).length = ws.length := by
  unfold singlesV
  rw [List.length_mergeSort, signsV_len]
theorem singlesV_sorted (ws : List Int) : (singlesV ws).Pairwise (fun a b => pkW a ≤ pkW b) := sort_sorted pkW _
theorem rowV_sorted (ws : List Int) : ∀ j, (rowV ws j).Pairwise (fun a b => pkW a ≤ pkW b)
  | 0 => singlesV_sorted ws
  | j + 1 => sort_sorted pkW _
theorem pairsV_sorted : ∀ r : List Pk, r.Pairwise (fun a b => pkW a ≤ pkW b) → (pairsV r).Pairwise (fun a b => pkW a ≤ pkW b) ∧ ∀ a b, r = a :: b :: r.drop 2 → ∀ p ∈ pairsV (r.drop 2), a.1 + b.1 ≤ p.1
  | [], _ => ⟨List.Pairwise.nil, fun a b e => by cases e⟩
  | [x], _ => ⟨List.Pairwise.nil, fun a b e => by cases e⟩
  | x :: y :: r, h => by
    have hx := List.pairwise_cons.mp h
    have hy := List.pairwise_cons.mp hx.2
    have ih := pairsV_sorted r hy.2
    have hge : ∀ p ∈ pairsV r, x.1 + y.1 ≤ p.1 := by
      have key : ∀ (s : List Pk), (∀ z ∈ s, x.1 ≤ z.1 ∧ y.1 ≤ z.1) → ∀ p ∈ pairsV s, x.1 + y.1 ≤ p.1 := by
        intro s
        induction s using pairsV.induct with
        | case1 a b r ih =>
          intro hz p hp
          rcases List.mem_cons.mp hp with rfl | hp
          · have h1 := hz a List.mem_cons_self
            have h2 := hz b (List.mem_cons_of_mem _ List.mem_cons_self)
            show x.1 + y.1 ≤ a.1 + b.1
            omega
          · exact ih (fun z hz2 => hz z (List.mem_cons_of_mem _ (List.mem_cons_of_mem _ hz2))) p hp
        | case2 s hs =>
          intro _ p hp
          unfold pairsV at hp
          split at hp
          · exact absurd rfl (hs _ _ _)
          · cases hp
      refine key r fun z hz => ⟨hx.1 z (List.mem_cons_of_mem _ hz), hy.1 z hz⟩
    refine ⟨List.pairwise_cons.mpr ⟨fun p hp => hge p hp, ih.1⟩, fun a b e p hp => ?_⟩
    cases e
    exact hge p hp
theorem rowV_mrg (ws : List Int) (j : Nat) : rowV ws (j + 1) = mrg pkW (singlesV ws) (pairsV (rowV ws j)) := sort_mrg pkW (singlesV_sorted ws) (pairsV_sorted _ (rowV_sorted ws j)).1
/-- the first ones of two sorted lists put together -/
theorem mrg_take {α : Type} (key : α → Int) : ∀ (as bs : List α), as.Pairwise (fun a b => key a ≤ key b) → bs.Pairwise (fun a b => key a ≤ key b) → ∀ m, m ≤ as.length + bs.length →
    ∃ s q, s + q = m ∧ s ≤ as.length ∧ q ≤ bs.length ∧ ((mrg key as bs).take m).Perm (as.take s ++ bs.take q) ∧ (∀ i j x y, j < q → as[i]? = some x → bs[j]? = some y → key x ≤ key y → i < s) ∧ (∀ i j x y, i < s → as[i]? = some x → bs[j]? = some y → key y < key x → j < q)
  | [], bs, _, _, m, hm => by
    refine ⟨0, m, by omega, Nat.zero_le _, by simpa using hm, ?_, fun i j x y _ h => ?_, fun i j x y h => by omega⟩
    · rw [nil_mrg]; simp
    · simp at h
  | a :: as, [], _, _, m, hm => by
    refine ⟨m, 0, by omega, by simpa using hm, Nat.zero_le _, ?_, fun i j x y h => by omega, fun i j x y _ _ h => ?_⟩
    · rw [mrg_nil]; simp
    · simp at h
  | a :: as, b :: bs, h1, h2, m, hm => by
    have p1 := List.pairwise_cons.mp h1
    have p2 := List.pairwise_cons.mp h2
    cases m with
    | zero => exact ⟨0, 0, rfl, Nat.zero_le _, Nat.zero_le _, by simp, fun i j x y h => by omega, fun i j x y h => by omega⟩
    | succ m =>
      rw [mrg_cons]
      by_cases hab : key a ≤ key b
      · rw [if_pos hab]
        obtain ⟨s, q, e1, e2, e3, e4, e5, e6⟩ := mrg_take key as (b :: bs) p1.2 h2 m (by simp at hm ⊢; omega)
        refine ⟨s + 1, q, by omega, by simp; omega, e3, ?_, fun i j x y hj hx hy hk => ?_, fun i j x y hi hx hy hk => ?_⟩
        · rw [List.take_succ_cons, List.take_succ_cons, List.cons_append]
          exact e4.cons a
        · cases i with
          | zero => omega
          | succ i => have := e5 i j x y hj (by simpa using hx) hy hk; omega
        · cases i with
          | zero =>
            have hx : a = x := by simpa using hx
            subst hx
            have : key b ≤ key y := by
              cases j with
              | zero => have : b = y := by simpa using hy
                        subst this; exact Int.le_refl _
              | succ j => exact p2.1 y (List.mem_of_getElem? (i := j) (by simpa using hy))
            omega
          | succ i => exact e6 i j x y (by omega) (by simpa using hx) hy hk
      · rw [if_neg hab]
        obtain ⟨s, q, e1, e2, e3, e4, e5, e6⟩ := mrg_take key (a :: as) bs h1 p2.2 m (by simp at hm ⊢; omega)
        refine ⟨s, q + 1, by omega, e2, by simp; omega, ?_, fun i j x y hj hx hy hk => ?_, fun i j x y hi hx hy hk => ?_⟩
        · rw [List.take_succ_cons, List.take_succ_cons]
          exact (e4.cons b).trans (List.perm_middle).symm
        · cases j with
          | zero =>
            have hy : b = y := by simpa using hy
            subst hy
            have : key a ≤ key x := by
              cases i with
              | zero => have : a = x := by simpa using hx
                        subst this; exact Int.le_refl _
              | succ i => exact p1.1 x (List.mem_of_getElem? (i := i) (by simpa using hx))
            omega
          | succ j => exact e5 i j x y (by omega) hx (by simpa using hy) hk
        · cases j with
          | zero => omega
          | succ j => have := e6 i j x y hi hx (by simpa using hy) hk; omega
  termination_by as bs => as.length + bs.length

def sigs (ps : List Pk) : List Int := ps.flatMap (·.2)
def wts (ps : List Pk) : Int := (ps.map pkW).sum
theorem sigs_app (a b : List Pk) : sigs (a ++ b) = sigs a ++ sigs b := by unfold sigs; rw [List.flatMap_append]
theorem wts_app (a b : List Pk) : wts (a ++ b) = wts a + wts b := by unfold wts; rw [List.map_append, List.sum_append]
theorem sigs_perm {a b : List Pk} (h : a.Perm b) : (sigs a).Perm (sigs b) := h.flatMap_right _
theorem sum_perm {a b : List Int} (h : a.Perm b) : a.sum = b.sum := by
  induction h with
  | nil => rfl
  | cons x _ ih => rw [List.sum_cons, List.sum_cons, ih]
  | swap x y l => rw [List.sum_cons, List.sum_cons, List.sum_cons, List.sum_cons]; omega
  | trans _ _ i1 i2 => rw [i1, i2]
theorem wts_perm {a b : List Pk} (h : a.Perm b) : wts a = wts b := sum_perm (h.map _)
theorem pairs_sig : ∀ (r : List Pk) (q : Nat), 2 * q ≤ r.length → (sigs ((pairsV r).take q)).Perm (sigs (r.take (2 * q))) ∧ wts ((pairsV r).take q) = wts (r.take (2 * q))
  | _, 0, _ => ⟨by simp [sigs], by simp [wts]⟩
  | [], q + 1, h => by simp at h
  | [x], q + 1, h => by simp at h; omega
  | a :: b :: r, q + 1, h => by
    obtain ⟨i1, i2⟩ := pairs_sig r q (by simp at h; omega)
    have e : 2 * (q + 1) = 2 * q + 1 + 1 := by omega
    rw [e, List.take_succ_cons, List.take_succ_cons]
    show (sigs (((a.1 + b.1, (a.2 ++ b.2).mergeSort leI) : Pk) :: (pairsV r).take q)).Perm _ ∧ wts (((a.1 + b.1, (a.2 ++ b.2).mergeSort leI) : Pk) :: (pairsV r).take q) = _
    constructor
    · show ((a.2 ++ b.2).mergeSort leI ++ sigs ((pairsV r).take q)).Perm (a.2 ++ (b.2 ++ sigs (r.take (2 * q))))
      rw [← List.append_assoc]
      exact (List.mergeSort_perm _ _).append i1
    · show (a.1 + b.1) + wts ((pairsV r).take q) = a.1 + (b.1 + wts (r.take (2 * q)))
      rw [i2]
      omega
theorem pairs_get : ∀ (r : List Pk) (q : Nat) (y : Pk), (pairsV r)[q]? = some y → ∃ a b, r[2 * q]? = some a ∧ r[2 * q + 1]? = some b ∧ y.1 = a.1 + b.1
  | [], q, y, h => by simp [pairsV] at h
  | [x], q, y, h => by simp [pairsV] at h
  | a :: b :: r, 0, y, h => by
    have : y = (a.1 + b.1, (a.2 ++ b.2).mergeSort leI) := by simpa [pairsV] using h.symm
    subst this
    exact ⟨a, b, rfl, rfl, rfl⟩
  | a :: b :: r, q + 1, y, h => by
    obtain ⟨x, z, h1, h2, h3⟩ := pairs_get r q y (by simpa [pairsV] using h)
    exact ⟨x, z, by rw [show 2 * (q + 1) = 2 * q + 1 + 1 by omega]; simpa using h1, by rw [show 2 * (q + 1) + 1 = 2 * q + 1 + 1 + 1 by omega]; simpa using h2, h3⟩
/-- all weights are no less than nought -/
def Nn (ps : List Pk) : Prop := ∀ p ∈ ps, 0 ≤ p.1
theorem pairs_nn {r : List Pk} (h : Nn r) : Nn (pairsV r) := fun p hp => by
  obtain ⟨q, hq⟩ := List.getElem?_of_mem hp
  obtain ⟨a, b, h1, h2, h3⟩ := pairs_get r q p hq
  have := h a (List.mem_of_getElem? h1)
  have := h b (List.mem_of_getElem? h2)
  omega
theorem signs_nn : ∀ (k : Nat) (ws : List Int), (∀ w ∈ ws, 0 ≤ w) → Nn (signsV k ws)
  | _, [], _ => fun p hp => nomatch hp
  | k, w :: r, h => fun p hp => by
    rcases List.mem_cons.mp hp with rfl | hp
    · exact h w List.mem_cons_self
    · exact signs_nn (k + 1) r (fun x hx => h x (List.mem_cons_of_mem _ hx)) p hp
theorem singles_nn {ws : List Int} (h : ∀ w ∈ ws, 0 ≤ w) : Nn (singlesV ws) := fun p hp => signs_nn 0 ws h p ((List.mergeSort_perm _ _).mem_iff.mp hp)
theorem row_nn {ws : List Int} (h : ∀ w ∈ ws, 0 ≤ w) : ∀ j, Nn (rowV ws j)
  | 0 => singles_nn h
  | j + 1 => fun p hp => by
    rcases List.mem_append.mp ((List.mergeSort_perm _ _).mem_iff.mp hp) with hp | hp
    · exact singles_nn h p hp
    · exact pairs_nn (row_nn h j) p hp
/-- an item of the first 2q stands in one of the first q pairs, which is no lighter -/
theorem pairs_mem {r : List Pk} (hr : Nn r) {q : Nat} (hq : 2 * q ≤ r.length) {x : Pk} (hx : x ∈ r.take (2 * q)) : ∃ (j : Nat) (y : Pk), j < q ∧ (pairsV r)[j]? = some y ∧ x.1 ≤ y.1 := by
  obtain ⟨i, hi⟩ := List.getElem?_of_mem hx
  have hlt : i < 2 * q := by
    have := (List.getElem?_eq_some_iff.mp hi).1
    rw [List.length_take] at this
    omega
  rw [List.getElem?_take_of_lt hlt] at hi
  have hj : i / 2 < (pairsV r).length := by rw [pairsV_len]; omega
  obtain ⟨a, b, h1, h2, h3⟩ := pairs_get r (i / 2) _ (List.getElem?_eq_getElem hj)
  have ha := hr a (List.mem_of_getElem? h1)
  have hb := hr b (List.mem_of_getElem? h2)
  refine ⟨i / 2, _, by omega, List.getElem?_eq_getElem hj, ?_⟩
  rw [h3]
  by_cases e : i = 2 * (i / 2)
  · rw [← e, hi] at h1
    cases h1
    omega
  · have e2 : i = 2 * (i / 2) + 1 := by omega
    rw [← e2, hi] at h2
    cases h2
    omega
/-- the worth of the singles taken, top row first -/
def valS : List Nat → Nat
  | [] => 0
  | s :: r => s * 2 ^ r.length + valS r
theorem row_split {ws : List Int} (hw : ∀ w ∈ ws, 0 ≤ w) : ∀ (j m : Nat), m ≤ (rowV ws j).length → ∃ ss : List Nat, ss.length = j + 1 ∧ valS ss = m * 2 ^ j ∧ ss.Pairwise (· ≥ ·) ∧ (∀ s ∈ ss, s ≤ ws.length)
    ∧ (sigs ((rowV ws j).take m)).Perm (ss.flatMap fun s => sigs ((singlesV ws).take s)) ∧ wts ((rowV ws j).take m) = (ss.map fun s => wts ((singlesV ws).take s)).sum
    ∧ (∀ s ∈ ss.head?, ∀ x ∈ (singlesV ws).take s, x ∈ (rowV ws j).take m)
    ∧ (∀ s ∈ ss.head?, ∀ j', j = j' + 1 → ∃ q, s + q = m ∧ 2 * q ≤ (rowV ws j').length ∧ (∀ i k x y, k < q → (singlesV ws)[i]? = some x → (pairsV (rowV ws j'))[k]? = some y → x.1 ≤ y.1 → i < s))
  | 0, m, h => by
    have hl := singlesV_len ws
    refine ⟨[m], rfl, by simp [valS], by simp, fun s hs => ?_, by simp [rowV], by simp [rowV], fun s hs x hx => ?_, fun s hs j' e => by omega⟩
    · rw [List.mem_singleton.mp hs]
      have : m ≤ (singlesV ws).length := h
      omega
    · have : m = s := by simpa using hs
      subst this
      exact hx
  | j + 1, m, h => by
    have hl := singlesV_len ws
    have hpl := pairsV_len (rowV ws j)
    have hps := (pairsV_sorted _ (rowV_sorted ws j)).1
    rw [rowV_mrg] at h ⊢
    rw [(mrg_perm pkW _ _).length_eq, List.length_append] at h
    obtain ⟨s, q, e1, e2, e3, e4, e5, e6⟩ := mrg_take pkW (singlesV ws) (pairsV (rowV ws j)) (singlesV_sorted ws) hps m h
    have hq : 2 * q ≤ (rowV ws j).length := by omega
    obtain ⟨ss, f1, f2, f3, f4, f5, f6, f7, f8⟩ := row_split hw j (2 * q) hq
    obtain ⟨s', r, rfl⟩ : ∃ s' r, ss = s' :: r := by
      cases ss with
      | nil => simp at f1
      | cons a r => exact ⟨a, r, rfl⟩
    have hss : s' ≤ s := by
      cases hs' : s' with
      | zero => exact Nat.zero_le _
      | succ t =>
        have ht : t < (singlesV ws).length := by
          have := f4 s' List.mem_cons_self
          omega
        have hx : (singlesV ws)[t] ∈ (singlesV ws).take s' := by
          refine List.mem_of_getElem? (i := t) ?_
          rw [List.getElem?_take_of_lt (by omega), List.getElem?_eq_getElem ht]
        have hx2 := f7 s' (by simp) _ hx
        obtain ⟨k, y, k1, k2, k3⟩ := pairs_mem (row_nn hw j) hq hx2
        exact e5 t k _ y k1 (List.getElem?_eq_getElem ht) k2 k3
    obtain ⟨p1, p2⟩ := pairs_sig (rowV ws j) q hq
    refine ⟨s :: s' :: r, by simp at f1 ⊢; omega, ?_, ?_, fun x hx => ?_, ?_, ?_, fun x hx y hy => ?_, fun x hx j' e => ?_⟩
    · show s * 2 ^ (s' :: r).length + valS (s' :: r) = m * 2 ^ (j + 1)
      rw [f2, f1, ← e1, Nat.add_mul, Nat.pow_succ]
      congr 1
      rw [Nat.mul_comm 2 q, Nat.mul_assoc, Nat.mul_comm 2]
    · refine List.pairwise_cons.mpr ⟨fun x hx => ?_, f3⟩
      rcases List.mem_cons.mp hx with rfl | hx
      · exact hss
      · have := (List.pairwise_cons.mp f3).1 x hx
        omega
    · rcases List.mem_cons.mp hx with rfl | hx
      · omega
      · exact f4 x hx
    · refine (sigs_perm e4).trans ?_
      rw [sigs_app]
      show (sigs ((singlesV ws).take s) ++ sigs ((pairsV (rowV ws j)).take q)).Perm (sigs ((singlesV ws).take s) ++ (s' :: r).flatMap fun s => sigs ((singlesV ws).take s))
      exact (List.Perm.refl _).append (p1.trans f5)
    · rw [wts_perm e4, wts_app, p2, f6]
      rfl
    · have : s = x := by simpa using hx
      subst this
      exact e4.mem_iff.mpr (List.mem_append_left _ hy)
    · have : s = x := by simpa using hx
      subst this
      have : j = j' := by omega
      subst this
      exact ⟨q, e1, hq, fun i k x y h1 h2 h3 h4 => e5 i k x y h1 h2 h3 h4⟩

theorem sorted_at {r : List Pk} (h : r.Pairwise (fun a b => pkW a ≤ pkW b)) {i j : Nat} {x y : Pk} (hij : i ≤ j) (hx : r[i]? = some x) (hy : r[j]? = some y) : x.1 ≤ y.1 := by
  by_cases e : i = j
  · subst e
    rw [hx] at hy
    cases hy
    exact Int.le_refl _
  · obtain ⟨hi, rfl⟩ := List.getElem?_eq_some_iff.mp hx
    obtain ⟨hj, rfl⟩ := List.getElem?_eq_some_iff.mp hy
    exact List.pairwise_iff_getElem.mp h i j hi hj (by omega)
/-- no row has 2n - 2 packets that are lighter than the heaviest sign -/
theorem light {ws : List Int} (hw : ∀ w ∈ ws, 0 ≤ w) (hn : 2 ≤ ws.length) {mx : Pk} (hmx : (singlesV ws)[ws.length - 1]? = some mx) : ∀ (j : Nat) (p : Pk), (rowV ws j)[2 * ws.length - 3]? = some p → mx.1 ≤ p.1
  | 0, p, h => by
    have hl := singlesV_len ws
    have hlt := (List.getElem?_eq_some_iff.mp h).1
    have : (rowV ws 0).length = ws.length := hl
    have e : 2 * ws.length - 3 = ws.length - 1 := by omega
    rw [e] at h
    have h : (singlesV ws)[ws.length - 1]? = some p := h
    rw [hmx] at h
    cases h
    exact Int.le_refl _
  | j + 1, p, h => by
    have hl := singlesV_len ws
    have hsort := rowV_sorted ws (j + 1)
    have hps := (pairsV_sorted _ (rowV_sorted ws j)).1
    have hlt := (List.getElem?_eq_some_iff.mp h).1
    by_cases hc : mx.1 ≤ p.1
    · exact hc
    · exfalso
      rw [rowV_mrg] at h hsort hlt
      have hlen := (mrg_perm pkW (singlesV ws) (pairsV (rowV ws j))).length_eq
      rw [List.length_append] at hlen
      obtain ⟨s, q, e1, e2, e3, e4, _, _⟩ := mrg_take pkW (singlesV ws) (pairsV (rowV ws j)) (singlesV_sorted ws) hps (2 * ws.length - 2) (by omega)
      have hall : ∀ x ∈ (mrg pkW (singlesV ws) (pairsV (rowV ws j))).take (2 * ws.length - 2), x.1 ≤ p.1 := fun x hx => by
        obtain ⟨i, hi⟩ := List.getElem?_of_mem hx
        have hi2 := (List.getElem?_eq_some_iff.mp hi).1
        rw [List.length_take] at hi2
        rw [List.getElem?_take_of_lt (by omega)] at hi
        exact sorted_at hsort (by omega) hi h
      have hs : s ≤ ws.length - 1 := by
        by_cases z : s ≤ ws.length - 1
        · exact z
        · exfalso
          have : mx ∈ (singlesV ws).take s := List.mem_of_getElem? (i := ws.length - 1) (by rw [List.getElem?_take_of_lt (by omega)]; exact hmx)
          have := hall mx (e4.mem_iff.mpr (List.mem_append_left _ this))
          omega
      have hq1 : q - 1 < (pairsV (rowV ws j)).length := by omega
      have hy := List.getElem?_eq_getElem hq1
      have hyp := hall (pairsV (rowV ws j))[q - 1] (e4.mem_iff.mpr (List.mem_append_right _ (List.mem_of_getElem? (i := q - 1) (by rw [List.getElem?_take_of_lt (by omega)]; exact hy))))
      obtain ⟨a, b, h1, h2, h3⟩ := pairs_get _ _ _ hy
      have ha := row_nn hw j a (List.mem_of_getElem? h1)
      have hb := (List.getElem?_eq_some_iff.mp h2).1
      have hp' := List.getElem?_eq_getElem (show 2 * ws.length - 3 < (rowV ws j).length by omega)
      have c1 := light hw hn hmx j _ hp'
      have c2 := sorted_at (rowV_sorted ws j) (show 2 * ws.length - 3 ≤ 2 * (q - 1) + 1 by omega) hp' h2
      omega
/-- how many rows take the single at the sorted place i -/
def Lc (ss : List Nat) (i : Nat) : Nat := ss.countP fun s => decide (i < s)
theorem kraft_ss : ∀ (ss : List Nat) (n : Nat), ss.Pairwise (· ≥ ·) → (∀ s ∈ ss, s ≤ n) → ((List.range n).map fun i => 2 ^ (ss.length - Lc ss i)).sum + valS ss = n * 2 ^ ss.length
  | [], n, _, _ => by
    show ((List.range n).map fun _ => 2 ^ 0).sum + 0 = n * 2 ^ 0
    have key : ∀ k : Nat, ((List.range k).map fun _ => 2 ^ 0).sum = k := fun k => by
      induction k with
      | zero => rfl
      | succ k ih =>
        rw [List.range_succ, List.map_append, List.sum_append, ih]
        rfl
    rw [key]
    omega
  | s :: r, n, hp, hn => by
    have p := List.pairwise_cons.mp hp
    have hs := hn s List.mem_cons_self
    have ih := kraft_ss r s p.2 fun x hx => p.1 x hx
    have split : (List.range n) = List.range s ++ (List.range (n - s)).map (s + ·) := by
      rw [← List.range_add, show s + (n - s) = n by omega]
    have h1 : ((List.range s).map fun i => 2 ^ ((s :: r).length - Lc (s :: r) i)) = (List.range s).map fun i => 2 ^ (r.length - Lc r i) := List.map_congr_left fun i hi => by
      have hi := List.mem_range.mp hi
      have : Lc (s :: r) i = Lc r i + 1 := by
        unfold Lc
        rw [List.countP_cons, if_pos (decide_eq_true hi)]
      rw [this, List.length_cons]
      congr 1
      omega
    have h2 : ∀ k : Nat, (((List.range k).map (s + ·)).map fun i => 2 ^ ((s :: r).length - Lc (s :: r) i)).sum = k * 2 ^ (r.length + 1) := fun k => by
      induction k with
      | zero => simp
      | succ k ihk =>
        rw [List.range_succ, List.map_append, List.map_append, List.sum_append, ihk]
        have : Lc (s :: r) (s + k) = 0 := by
          unfold Lc
          rw [List.countP_eq_zero]
          intro x hx
          rw [decide_eq_true_iff]
          rcases List.mem_cons.mp hx with rfl | hx
          · omega
          · have := p.1 x hx; omega
        simp only [List.map_cons, List.map_nil, List.sum_cons, List.sum_nil, this, List.length_cons, Nat.sub_zero]
        rw [Nat.succ_mul]
        omega
    rw [split, List.map_append, List.sum_append, h1, h2]
    show _ + (s * 2 ^ r.length + valS r) = n * 2 ^ (r.length + 1)
    have e : n * 2 ^ (r.length + 1) = s * 2 ^ r.length + s * 2 ^ r.length + (n - s) * 2 ^ (r.length + 1) := by
      have : n * 2 ^ (r.length + 1) = s * 2 ^ (r.length + 1) + (n - s) * 2 ^ (r.length + 1) := by
        rw [← Nat.add_mul, show s + (n - s) = n by omega]
      rw [this, Nat.pow_succ, Nat.mul_comm (2 ^ r.length) 2, ← Nat.mul_assoc, Nat.mul_comm s 2, Nat.mul_assoc 2 s]
      omega
    omega
theorem row_len (ws : List Int) (j : Nat) : (rowV ws (j + 1)).length = ws.length + (rowV ws j).length / 2 := by
  rw [rowV_mrg, (mrg_perm pkW _ _).length_eq, List.length_append, singlesV_len, pairsV_len]
theorem row_enough {ws : List Int} (hn : 2 ≤ ws.length) : ∀ (j b : Nat), ws.length ≤ 2 ^ (b + 1) → j ≤ b → 2 * ws.length - 2 ≤ (rowV ws j).length + (2 ^ (b - j + 1) - 2)
  | 0, b, h, _ => by
    have : (rowV ws 0).length = ws.length := singlesV_len ws
    rw [this, Nat.sub_zero]
    omega
  | j + 1, b, h, hj => by
    have ih := row_enough hn j b h (by omega)
    rw [row_len]
    have e : 2 ^ (b - j + 1) = 2 * 2 ^ (b - (j + 1) + 1) := by
      rw [show b - j + 1 = (b - (j + 1) + 1) + 1 by omega, Nat.pow_succ, Nat.mul_comm]
    have hp : 2 ≤ 2 ^ (b - (j + 1) + 1) := by
      rw [Nat.pow_succ]
      have : 1 ≤ 2 ^ (b - (j + 1)) := Nat.one_le_two_pow
      omega
    rw [e] at ih
    omega
/-- the last row is long enough -/
theorem row_last {ws : List Int} (hn : 2 ≤ ws.length) {b : Nat} (h : ws.length ≤ 2 ^ (b + 1)) : 2 * ws.length - 2 ≤ (rowV ws b).length := by
  have := row_enough hn b b h (Nat.le_refl _)
  rw [Nat.sub_self] at this
  omega
/-- the rows' singles, of 2n - 2 packets of the last row -/
theorem row_top {ws : List Int} (hw : ∀ w ∈ ws, 0 ≤ w) (hn : 2 ≤ ws.length) {b : Nat} (h : ws.length ≤ 2 ^ (b + 1)) : ∃ r : List Nat, r.length = b ∧ valS (ws.length :: r) = (2 * ws.length - 2) * 2 ^ b ∧ (ws.length :: r).Pairwise (· ≥ ·) ∧ (∀ s ∈ ws.length :: r, s ≤ ws.length)
    ∧ (sigs ((rowV ws b).take (2 * ws.length - 2))).Perm ((ws.length :: r).flatMap fun s => sigs ((singlesV ws).take s)) ∧ wts ((rowV ws b).take (2 * ws.length - 2)) = ((ws.length :: r).map fun s => wts ((singlesV ws).take s)).sum := by
  have hl := singlesV_len ws
  have hlast := row_last hn h
  obtain ⟨ss, f1, f2, f3, f4, f5, f6, f7, f8⟩ := row_split hw b (2 * ws.length - 2) hlast
  obtain ⟨s, r, rfl⟩ : ∃ s r, ss = s :: r := by
    cases ss with
    | nil => simp at f1
    | cons a r => exact ⟨a, r, rfl⟩
  have hs : s = ws.length := by
    have hle := f4 s List.mem_cons_self
    cases b with
    | zero =>
      have hr : r = [] := by
        have : r.length = 0 := by simpa using f1
        exact List.length_eq_zero_iff.mp this
      subst hr
      have : (rowV ws 0).length = ws.length := hl
      simp [valS] at f2
      omega
    | succ b' =>
      by_cases hlt : s = ws.length
      · exact hlt
      · exfalso
        obtain ⟨q, q1, q2, q3⟩ := f8 s (by simp) b' rfl
        have hmx := List.getElem?_eq_getElem (show ws.length - 1 < (singlesV ws).length by omega)
        have hq1 : q - 1 < (pairsV (rowV ws b')).length := by rw [pairsV_len]; omega
        have hy := List.getElem?_eq_getElem hq1
        have hno : ¬ (singlesV ws)[ws.length - 1].1 ≤ (pairsV (rowV ws b'))[q - 1].1 := fun z => by
          have := q3 _ _ _ _ (show q - 1 < q by omega) hmx hy z
          omega
        obtain ⟨a, bb, h1, h2, h3⟩ := pairs_get _ _ _ hy
        have ha := row_nn hw b' a (List.mem_of_getElem? h1)
        have hb := (List.getElem?_eq_some_iff.mp h2).1
        have hp' := List.getElem?_eq_getElem (show 2 * ws.length - 3 < (rowV ws b').length by omega)
        have c1 := light hw hn hmx b' _ hp'
        have c2 := sorted_at (rowV_sorted ws b') (show 2 * ws.length - 3 ≤ 2 * (q - 1) + 1 by omega) hp' h2
        omega
  subst hs
  exact ⟨r, by simpa using f1, f2, f3, f4, f5, f6⟩

/-- the signs, by weight -/
def ordS (ws : List Int) : List Int := sigs (singlesV ws)
theorem signs_one : ∀ (k : Nat) (ws : List Int), ∀ p ∈ signsV k ws, p.2.length = 1
  | _, [], p, h => nomatch h
  | k, w :: r, p, h => by
    rcases List.mem_cons.mp h with rfl | h
    · rfl
    · exact signs_one (k + 1) r p h
theorem sigs_take : ∀ (l : List Pk) (s : Nat), (∀ p ∈ l, p.2.length = 1) → sigs (l.take s) = (sigs l).take s
  | [], s, _ => by simp [sigs]
  | p :: l, 0, _ => by simp [sigs]
  | p :: l, s + 1, h => by
    have h1 := h p List.mem_cons_self
    obtain ⟨x, hx⟩ : ∃ x, p.2 = [x] := by
      cases e : p.2 with
      | nil => rw [e] at h1; simp at h1
      | cons x r =>
        cases r with
        | nil => exact ⟨x, rfl⟩
        | cons y r => rw [e] at h1; simp at h1
    rw [List.take_succ_cons]
    show p.2 ++ sigs (l.take s) = (p.2 ++ sigs l).take (s + 1)
    rw [hx, sigs_take l s fun q hq => h q (List.mem_cons_of_mem _ hq)]
    rfl
theorem singles_one (ws : List Int) : ∀ p ∈ singlesV ws, p.2.length = 1 := fun p hp => signs_one 0 ws p ((List.mergeSort_perm _ _).mem_iff.mp hp)
theorem sigs_signs : ∀ (k : Nat) (ws : List Int), sigs (signsV k ws) = (List.range' k ws.length).map fun (i : Nat) => (i : Int)
  | _, [] => rfl
  | k, w :: r => by
    show [(k : Int)] ++ sigs (signsV (k + 1) r) = _
    rw [sigs_signs (k + 1) r, List.length_cons, List.range'_succ]
    rfl
def natsI (n : Nat) : List Int := (List.range n).map fun (i : Nat) => (i : Int)
theorem ordS_perm (ws : List Int) : (ordS ws).Perm (natsI ws.length) := by
  have := sigs_perm (List.mergeSort_perm (signsV 0 ws) (leBy pkW))
  rw [sigs_signs] at this
  unfold natsI
  rw [List.range_eq_range']
  exact this
theorem natsI_nodup (n : Nat) : (natsI n).Nodup := by
  unfold natsI
  refine List.pairwise_map.mpr ((List.nodup_range (n := n)).imp fun {a b} h => ?_)
  intro z
  have : (a : Int) = (b : Int) := z
  exact h (by omega)
theorem ordS_nodup (ws : List Int) : (ordS ws).Nodup := (ordS_perm ws).nodup_iff.mpr (natsI_nodup _)
theorem ordS_len (ws : List Int) : (ordS ws).length = ws.length := by
  rw [(ordS_perm ws).length_eq]
  unfold natsI
  rw [List.length_map, List.length_range]
theorem count_take {l : List Int} (h : l.Nodup) {i : Nat} (hi : i < l.length) (s : Nat) : (l.take s).count l[i] = if i < s then 1 else 0 := by
  have hs : (l.take s).Nodup := h.sublist (List.take_sublist _ _)
  by_cases e : i < s
  · rw [if_pos e, hs.count, if_pos]
    exact List.mem_of_getElem? (i := i) (by rw [List.getElem?_take_of_lt e, List.getElem?_eq_getElem hi])
  · rw [if_neg e, List.count_eq_zero]
    intro hm
    obtain ⟨j, hj⟩ := List.getElem?_of_mem hm
    have hj2 := (List.getElem?_eq_some_iff.mp hj).1
    rw [List.length_take] at hj2
    rw [List.getElem?_take_of_lt (by omega), List.getElem?_eq_getElem (by omega)] at hj
    have := (List.getElem_inj h).mp (Option.some.inj hj)
    omega
theorem count_flat {l : List Int} (h : l.Nodup) {i : Nat} (hi : i < l.length) : ∀ ss : List Nat, (ss.flatMap fun s => l.take s).count l[i] = Lc ss i
  | [] => rfl
  | s :: r => by
    rw [List.flatMap_cons, List.count_append, count_take h hi, count_flat h hi r]
    unfold Lc
    rw [List.countP_cons]
    by_cases e : i < s
    · rw [if_pos e, if_pos (decide_eq_true e)]; omega
    · rw [if_neg e, if_neg (by rw [decide_eq_true_iff]; exact e)]; omega
/-- the signs of the packets taken -/
def taken (ws : List Int) (b : Nat) : List Int := sigs ((rowV ws (b - 1)).take (2 * ws.length - 2))
def lenN (ws : List Int) (b : Nat) (k : Int) : Nat := (taken ws b).count k
def freeV (ws : List Int) (b : Nat) : List Int := if ws.length = 1 then [1] else (List.range ws.length).map fun (k : Nat) => (lenN ws b (k : Int) : Int)
theorem sumN_perm {a b : List Nat} (h : a.Perm b) : a.sum = b.sum := by
  induction h with
  | nil => rfl
  | cons x _ ih => rw [List.sum_cons, List.sum_cons, ih]
  | swap x y l => rw [List.sum_cons, List.sum_cons, List.sum_cons, List.sum_cons]; omega
  | trans _ _ i1 i2 => rw [i1, i2]
theorem lens {ws : List Int} (hw : ∀ w ∈ ws, 0 ≤ w) (hn : 2 ≤ ws.length) {b : Nat} (h1 : 1 ≤ b) (h : ws.length ≤ 2 ^ b) :
    (∀ k : Nat, k < ws.length → 1 ≤ lenN ws b (k : Int) ∧ lenN ws b (k : Int) ≤ b) ∧ ((List.range ws.length).map fun (k : Nat) => 2 ^ (b - lenN ws b (k : Int))).sum = 2 ^ b := by
  obtain ⟨c, rfl⟩ : ∃ c, b = c + 1 := ⟨b - 1, by omega⟩
  obtain ⟨r, e1, e2, e3, e4, e5, _⟩ := row_top hw hn h
  have hss : (ws.length :: r).length = c + 1 := by rw [List.length_cons, e1]
  have hfm : ((ws.length :: r).flatMap fun s => sigs ((singlesV ws).take s)) = (ws.length :: r).flatMap fun s => (ordS ws).take s := by
    refine congrArg (fun f => (ws.length :: r).flatMap f) ?_
    funext s
    exact sigs_take _ _ (singles_one ws)
  rw [hfm] at e5
  have hcnt : ∀ i (hi : i < (ordS ws).length), lenN ws (c + 1) (ordS ws)[i] = Lc (ws.length :: r) i := fun i hi => by
    unfold lenN taken
    rw [Nat.add_sub_cancel, e5.count_eq]
    exact count_flat (ordS_nodup ws) hi _
  have hol := ordS_len ws
  constructor
  · intro k hk
    have hm : (k : Int) ∈ ordS ws := (ordS_perm ws).mem_iff.mpr (List.mem_map.mpr ⟨k, List.mem_range.mpr hk, rfl⟩)
    obtain ⟨i, hi, e⟩ := List.getElem_of_mem hm
    rw [← e, hcnt i hi]
    have : Lc (ws.length :: r) i = Lc r i + 1 := by
      unfold Lc
      rw [List.countP_cons, if_pos (decide_eq_true (by omega))]
    rw [this]
    have h3 : Lc r i ≤ r.length := List.countP_le_length
    omega
  · have hk := kraft_ss (ws.length :: r) ws.length e3 e4
    rw [e2, hss] at hk
    have hp : ((natsI ws.length).map fun x => 2 ^ (c + 1 - lenN ws (c + 1) x)).sum = ((ordS ws).map fun x => 2 ^ (c + 1 - lenN ws (c + 1) x)).sum := sumN_perm ((ordS_perm ws).symm.map _)
    have hl : (List.range ws.length).map (fun (k : Nat) => 2 ^ (c + 1 - lenN ws (c + 1) (k : Int))) = (natsI ws.length).map fun x => 2 ^ (c + 1 - lenN ws (c + 1) x) := by
      unfold natsI
      rw [List.map_map]
      rfl
    have ho : (ordS ws).map (fun x => 2 ^ (c + 1 - lenN ws (c + 1) x)) = (List.range ws.length).map fun i => 2 ^ (c + 1 - Lc (ws.length :: r) i) := by
      refine List.ext_getElem? fun i => ?_
      by_cases hi : i < ws.length
      · rw [List.getElem?_map, List.getElem?_map, List.getElem?_eq_getElem (by omega : i < (ordS ws).length), List.getElem?_range hi]
        show some (2 ^ (c + 1 - lenN ws (c + 1) (ordS ws)[i])) = some (2 ^ (c + 1 - Lc (ws.length :: r) i))
        rw [hcnt i (by omega)]
      · rw [List.getElem?_eq_none (by rw [List.length_map]; omega), List.getElem?_eq_none (by rw [List.length_map, List.length_range]; omega)]
    rw [hl, hp, ho]
    have e : (2 * ws.length - 2) * 2 ^ c = (ws.length - 1) * 2 ^ (c + 1) := by
      rw [Nat.pow_succ, show 2 * ws.length - 2 = 2 * (ws.length - 1) by omega, Nat.mul_comm (2 ^ c) 2, ← Nat.mul_assoc, Nat.mul_comm 2 (ws.length - 1)]
    have e7 : ws.length * 2 ^ (c + 1) = (ws.length - 1) * 2 ^ (c + 1) + 2 ^ (c + 1) := by
      rw [← Nat.succ_mul, show (ws.length - 1).succ = ws.length by omega]
    omega
/-! ### weights -/
def wv (ws : List Int) (x : Int) : Int := ws.getD x.toNat 0
def Wof (ws : List Int) (p : Pk) : Prop := p.1 = (p.2.map (wv ws)).sum
theorem signs_wof : ∀ (pre ws : List Int), ∀ p ∈ signsV pre.length ws, Wof (pre ++ ws) p
  | _, [], p, h => nomatch h
  | pre, w :: r, p, h => by
    rcases List.mem_cons.mp h with rfl | h
    · show w = ([(pre.length : Int)].map (wv (pre ++ w :: r))).sum
      rw [List.map_singleton, List.sum_singleton]
      unfold wv
      rw [show ((pre.length : Int)).toNat = pre.length by omega, List.getD_eq_getElem?_getD, List.getElem?_append_right (Nat.le_refl _), Nat.sub_self]
      rfl
    · have e : pre ++ w :: r = (pre ++ [w]) ++ r := by rw [List.append_assoc]; rfl
      rw [e]
      exact signs_wof (pre ++ [w]) r p (by rw [List.length_append, List.length_singleton]; exact h)
theorem row_wof (ws : List Int) : ∀ j, ∀ p ∈ rowV ws j, Wof ws p := by
  have hs : ∀ p ∈ singlesV ws, Wof ws p := fun p hp => signs_wof [] ws p ((List.mergeSort_perm _ _).mem_iff.mp hp)
  intro j
  induction j with
  | zero => exact hs
  | succ j ih =>
    intro p hp
    rcases List.mem_append.mp ((List.mergeSort_perm _ _).mem_iff.mp hp) with hp | hp
    · exact hs p hp
    · have key : ∀ r : List Pk, (∀ q ∈ r, Wof ws q) → ∀ p ∈ pairsV r, Wof ws p := by
        intro r
        induction r using pairsV.induct with
        | case1 a b r ih =>
          intro hq p hp
          rcases List.mem_cons.mp hp with rfl | hp
          · have h1 := hq a List.mem_cons_self
            have h2 := hq b (List.mem_cons_of_mem _ List.mem_cons_self)
            show a.1 + b.1 = (((a.2 ++ b.2).mergeSort leI).map (wv ws)).sum
            rw [sum_perm ((List.mergeSort_perm (a.2 ++ b.2) leI).map (wv ws)), List.map_append, List.sum_append, ← h1, ← h2]
          · exact ih (fun q hq2 => hq q (List.mem_cons_of_mem _ (List.mem_cons_of_mem _ hq2))) p hp
        | case2 s hs =>
          intro _ p hp
          unfold pairsV at hp
          split at hp
          · exact absurd rfl (hs _ _ _)
          · cases hp
      exact key _ ih p hp
theorem wts_sigs {ws : List Int} : ∀ ps : List Pk, (∀ p ∈ ps, Wof ws p) → wts ps = ((sigs ps).map (wv ws)).sum
  | [], _ => rfl
  | p :: r, h => by
    show p.1 + wts r = ((p.2 ++ sigs r).map (wv ws)).sum
    rw [wts_sigs r fun q hq => h q (List.mem_cons_of_mem _ hq), List.map_append, List.sum_append, ← h p List.mem_cons_self]
theorem count_nats (n : Nat) (f : Int → Int) : ∀ l : List Int, (∀ x ∈ l, x ∈ natsI n) → (l.map f).sum = ((List.range n).map fun (k : Nat) => f (k : Int) * (l.count (k : Int) : Int)).sum
  | [], _ => by
    have : ∀ m : Nat, ((List.range m).map fun (k : Nat) => f (k : Int) * ((([] : List Int).count (k : Int) : Nat) : Int)).sum = 0 := fun m => by
      induction m with
      | zero => rfl
      | succ m ih =>
        rw [List.range_succ, List.map_append, List.sum_append, ih]
        simp
    rw [this]
    rfl
  | x :: l, h => by
    have ih := count_nats n f l fun y hy => h y (List.mem_cons_of_mem _ hy)
    obtain ⟨i, hi, e⟩ := List.mem_map.mp (h x List.mem_cons_self)
    have hi := List.mem_range.mp hi
    subst e
    have key : ∀ m : Nat, ((List.range m).map fun (k : Nat) => f (k : Int) * ((((i : Int) :: l).count (k : Int) : Nat) : Int)).sum = ((List.range m).map fun (k : Nat) => f (k : Int) * (l.count (k : Int) : Int)).sum + if i < m then f (i : Int) else 0 := fun m => by
      induction m with
      | zero => simp
      | succ m ihm =>
        rw [List.range_succ, List.map_append, List.map_append, List.sum_append, List.sum_append, ihm]
        simp only [List.map_cons, List.map_nil, List.sum_cons, List.sum_nil]
        rw [List.count_cons]
        by_cases e : i = m
        · subst e
          rw [if_neg (Nat.lt_irrefl i), if_pos (Nat.lt_succ_self i), if_pos (by simp)]
          rw [Int.natCast_add, Int.mul_add]
          omega
        · rw [if_neg (c := ((i : Int) == (m : Int)) = true) (by
            rw [beq_iff_eq]
            omega), Nat.add_zero]
          by_cases e2 : i < m
          · rw [if_pos e2, if_pos (by omega)]
            omega
          · rw [if_neg e2, if_neg (by omega)]
            omega
    rw [List.map_cons, List.sum_cons, ih, key n, if_pos hi]
    omega
theorem taken_mem {ws : List Int} (hw : ∀ w ∈ ws, 0 ≤ w) (hn : 2 ≤ ws.length) {b : Nat} (h1 : 1 ≤ b) (h : ws.length ≤ 2 ^ b) : ∀ x ∈ taken ws b, x ∈ natsI ws.length := by
  obtain ⟨c, rfl⟩ : ∃ c, b = c + 1 := ⟨b - 1, by omega⟩
  obtain ⟨r, _, _, _, _, e5, _⟩ := row_top hw hn h
  intro x hx
  unfold taken at hx
  rw [Nat.add_sub_cancel] at hx
  obtain ⟨s, _, hs⟩ := List.mem_flatMap.mp (e5.mem_iff.mp hx)
  rw [sigs_take _ _ (singles_one ws)] at hs
  exact (ordS_perm ws).mem_iff.mp (List.mem_of_mem_take hs)
/-- the packets taken weigh what the lengths weigh -/
theorem taken_wts {ws : List Int} (hw : ∀ w ∈ ws, 0 ≤ w) (hn : 2 ≤ ws.length) {b : Nat} (h1 : 1 ≤ b) (h : ws.length ≤ 2 ^ b) : wts ((rowV ws (b - 1)).take (2 * ws.length - 2)) = wsum ws 0 (freeV ws b) := by
  rw [wts_sigs _ fun p hp => row_wof ws (b - 1) p (List.mem_of_mem_take hp)]
  show ((taken ws b).map (wv ws)).sum = _
  rw [count_nats ws.length (wv ws) _ (taken_mem hw hn h1 h)]
  unfold freeV
  rw [if_neg (by omega)]
  have := wsum_range ws ((List.range ws.length).map fun (k : Nat) => (lenN ws b (k : Int) : Int)) 0
  rw [List.length_map, List.length_range] at this
  rw [← this]
  refine congrArg List.sum (List.map_congr_left fun k hk => ?_)
  have hk := List.mem_range.mp hk
  rw [List.getD_eq_getElem?_getD (l := (List.range ws.length).map _), List.getElem?_map, List.getElem?_range hk, Nat.zero_add]
  rfl
theorem freeV_len (ws : List Int) (b : Nat) : (freeV ws b).length = ws.length := by
  unfold freeV
  split
  · rename_i h
    rw [h]
    rfl
  · rw [List.length_map, List.length_range]

/-- the lightest ones of a sorted list are its first -/
theorem sub_wts : ∀ {l A : List Pk}, l.Pairwise (fun a b => pkW a ≤ pkW b) → A.Sublist l → wts (l.take A.length) ≤ wts A
  | _, _, _, .slnil => Int.le_refl _
  | x :: l, A, h, .cons _ hs => by
    have p := List.pairwise_cons.mp h
    have ih := sub_wts p.2 hs
    cases A with
    | nil => exact Int.le_refl _
    | cons a A =>
      have hle := hs.length_le
      rw [List.length_cons] at hle ih ⊢
      have key : ∀ (k : Nat) (l : List Pk) (x : Pk), (x :: l).Pairwise (fun a b => pkW a ≤ pkW b) → k + 1 ≤ l.length → wts ((x :: l).take (k + 1)) ≤ wts (l.take (k + 1)) := by
        intro k
        induction k with
        | zero =>
          intro l x h hl
          cases l with
          | nil => simp at hl
          | cons y l =>
            have := (List.pairwise_cons.mp h).1 y List.mem_cons_self
            show x.1 + 0 ≤ y.1 + 0
            have : x.1 ≤ y.1 := this
            omega
        | succ k ih =>
          intro l x h hl
          cases l with
          | nil => simp at hl
          | cons y l =>
            have h1 : x.1 ≤ y.1 := (List.pairwise_cons.mp h).1 y List.mem_cons_self
            have h2 := ih l y (List.pairwise_cons.mp h).2 (by simp at hl; omega)
            show x.1 + wts ((y :: l).take (k + 1)) ≤ y.1 + wts (l.take (k + 1))
            omega
      have := key A.length l x h hle
      omega
  | x :: l, _, h, .cons₂ _ hs => by
    have ih := sub_wts (List.pairwise_cons.mp h).2 hs
    rename_i A
    show x.1 + wts (l.take A.length) ≤ x.1 + wts A
    omega
theorem mrg_subL {α : Type} (key : α → Int) : ∀ (as bs : List α), as.Sublist (mrg key as bs)
  | [], bs => List.nil_sublist _
  | a :: as, [] => by rw [mrg_nil]; exact List.Sublist.refl _
  | a :: as, b :: bs => by
    rw [mrg_cons]
    by_cases h : key a ≤ key b
    · rw [if_pos h]
      exact (mrg_subL key as (b :: bs)).cons₂ a
    · rw [if_neg h]
      exact (mrg_subL key (a :: as) bs).cons b
  termination_by as bs => as.length + bs.length
theorem mrg_subR {α : Type} (key : α → Int) : ∀ (as bs : List α), bs.Sublist (mrg key as bs)
  | [], bs => by rw [nil_mrg]; exact List.Sublist.refl _
  | a :: as, [] => List.nil_sublist _
  | a :: as, b :: bs => by
    rw [mrg_cons]
    by_cases h : key a ≤ key b
    · rw [if_pos h]
      exact (mrg_subR key as (b :: bs)).cons a
    · rw [if_neg h]
      exact (mrg_subR key (a :: as) bs).cons₂ b
  termination_by as bs => as.length + bs.length
theorem mrg_sub {α : Type} (key : α → Int) : ∀ (as bs : List α) (i j : Nat), (mrg key (as.take i) (bs.take j)).Sublist (mrg key as bs)
  | [], bs, i, j => by
    rw [List.take_nil, nil_mrg, nil_mrg]
    exact List.take_sublist _ _
  | a :: as, [], i, j => by
    rw [List.take_nil, mrg_nil, mrg_nil]
    exact List.take_sublist _ _
  | a :: as, b :: bs, 0, j => by
    rw [List.take_zero, nil_mrg]
    exact (List.take_sublist _ _).trans (mrg_subR key _ _)
  | a :: as, b :: bs, i + 1, 0 => by
    rw [List.take_zero, mrg_nil]
    exact (List.take_sublist _ _).trans (mrg_subL key _ _)
  | a :: as, b :: bs, i + 1, j + 1 => by
    rw [List.take_succ_cons, List.take_succ_cons, mrg_cons, mrg_cons]
    by_cases h : key a ≤ key b
    · rw [if_pos h, if_pos h]
      have := mrg_sub key as (b :: bs) i (j + 1)
      rw [List.take_succ_cons] at this
      exact this.cons₂ a
    · rw [if_neg h, if_neg h]
      have := mrg_sub key (a :: as) bs (i + 1) j
      rw [List.take_succ_cons] at this
      exact this.cons₂ b
  termination_by as bs => as.length + bs.length
theorem wts_nn {l : List Pk} (h : Nn l) : 0 ≤ wts l := by
  induction l with
  | nil => exact Int.le_refl _
  | cons p r ih =>
    have h1 := h p List.mem_cons_self
    have h2 := ih fun q hq => h q (List.mem_cons_of_mem _ hq)
    show 0 ≤ p.1 + wts r
    omega
theorem wts_take_mono {l : List Pk} (h : Nn l) {m n : Nat} (hmn : m ≤ n) : wts (l.take m) ≤ wts (l.take n) := by
  have e : l.take n = l.take m ++ (l.drop m).take (n - m) := by
    rw [← List.take_add, show m + (n - m) = n by omega]
  rw [e, wts_app]
  have := wts_nn (l := (l.drop m).take (n - m)) fun p hp => h p (List.mem_of_mem_drop (List.mem_of_mem_take hp))
  omega
theorem mrg_min {S P : List Pk} (hS : S.Pairwise (fun a b => pkW a ≤ pkW b)) (hP : P.Pairwise (fun a b => pkW a ≤ pkW b)) (nS : Nn S) (nP : Nn P) {m a q : Nat} (ha : a ≤ S.length) (hq : q ≤ P.length) (hm : m ≤ a + q) :
    wts ((mrg pkW S P).take m) ≤ wts (S.take a) + wts (P.take q) := by
  have hsub := mrg_sub pkW S P a q
  have h1 := sub_wts (mrg_sorted pkW S P hS hP) hsub
  have hlen : (mrg pkW (S.take a) (P.take q)).length = a + q := by
    rw [(mrg_perm pkW _ _).length_eq, List.length_append, List.length_take, List.length_take]
    omega
  rw [hlen, wts_perm (mrg_perm pkW (S.take a) (P.take q)), wts_app] at h1
  have h2 := wts_take_mono (l := mrg pkW S P) (fun p hp => by
    rcases List.mem_append.mp ((mrg_perm pkW S P).mem_iff.mp hp) with hp | hp
    · exact nS p hp
    · exact nP p hp) hm
  omega
theorem len_big (ws : List Int) : ∀ (j : Nat) (ss : List Nat), ss.length = j + 1 → (∀ s ∈ ss, s ≤ ws.length) → valS ss < ((rowV ws j).length + 1) * 2 ^ j
  | 0, ss, hl, hs => by
    cases ss with
    | nil => simp at hl
    | cons a r =>
      have hr : r = [] := List.length_eq_zero_iff.mp (by simpa using hl)
      subst hr
      have h1 := hs a List.mem_cons_self
      have h2 : (rowV ws 0).length = ws.length := singlesV_len ws
      rw [h2]
      simp [valS]
      omega
  | j + 1, ss, hl, hs => by
    cases ss with
    | nil => simp at hl
    | cons a r =>
      have hrl : r.length = j + 1 := by simpa using hl
      have ih := len_big ws j r hrl fun s h => hs s (List.mem_cons_of_mem _ h)
      have h1 := hs a List.mem_cons_self
      show a * 2 ^ r.length + valS r < _
      rw [hrl, row_len]
      have e : ((rowV ws j).length + 1) * 2 ^ j ≤ ((rowV ws j).length / 2 + 1) * 2 ^ (j + 1) := by
        rw [Nat.pow_succ, Nat.mul_comm (2 ^ j) 2, ← Nat.mul_assoc]
        exact Nat.mul_le_mul_right _ (by omega)
      have e2 : a * 2 ^ (j + 1) ≤ ws.length * 2 ^ (j + 1) := Nat.mul_le_mul_right _ h1
      have e3 : (ws.length + (rowV ws j).length / 2 + 1) * 2 ^ (j + 1) = ws.length * 2 ^ (j + 1) + ((rowV ws j).length / 2 + 1) * 2 ^ (j + 1) := by
        rw [Nat.add_assoc, Nat.add_mul]
      omega
/-- what the first packets of a row weigh is least -/
theorem row_least {ws : List Int} (hw : ∀ w ∈ ws, 0 ≤ w) : ∀ (j m : Nat) (AS : List (List Pk)), AS.length = j + 1 → (∀ A ∈ AS, A.Sublist (singlesV ws)) → m * 2 ^ j ≤ valS (AS.map List.length) → wts ((rowV ws j).take m) ≤ (AS.map wts).sum
  | 0, m, AS, hl, hA, hv => by
    cases AS with
    | nil => simp at hl
    | cons A r =>
      have hr : r = [] := List.length_eq_zero_iff.mp (by simpa using hl)
      subst hr
      have hv : m ≤ A.length := by simpa [valS] using hv
      have h1 := sub_wts (singlesV_sorted ws) (hA A List.mem_cons_self)
      have h2 := wts_take_mono (singles_nn hw) hv
      show wts ((singlesV ws).take m) ≤ wts A + 0
      omega
  | j + 1, m, AS, hl, hA, hv => by
    cases AS with
    | nil => simp at hl
    | cons A r =>
      have hrl : r.length = j + 1 := by simpa using hl
      have hAs := hA A List.mem_cons_self
      have hv : m * 2 ^ (j + 1) ≤ A.length * 2 ^ (r.map List.length).length + valS (r.map List.length) := hv
      rw [List.length_map, hrl] at hv
      have hpos : 0 < 2 ^ (j + 1) := Nat.two_pow_pos _
      -- whole pairs below
      let q := valS (r.map List.length) / 2 ^ (j + 1)
      have hq1 : q * 2 ^ (j + 1) ≤ valS (r.map List.length) := Nat.div_mul_le_self _ _
      have hq2 : valS (r.map List.length) < (q + 1) * 2 ^ (j + 1) := by
        have := Nat.lt_div_mul_add (a := valS (r.map List.length)) hpos
        rw [Nat.add_mul, Nat.one_mul]
        exact this
      have hmq : m ≤ A.length + q := by
        have : m * 2 ^ (j + 1) < (A.length + (q + 1)) * 2 ^ (j + 1) := by
          rw [Nat.add_mul]
          omega
        have := Nat.lt_of_mul_lt_mul_right this
        omega
      have ih := row_least hw j (2 * q) r hrl (fun B hB => hA B (List.mem_cons_of_mem _ hB)) (by
        have : 2 * q * 2 ^ j = q * 2 ^ (j + 1) := by
          rw [Nat.pow_succ, Nat.mul_comm 2 q, Nat.mul_assoc, Nat.mul_comm 2]
        omega)
      have hps := (pairsV_sorted _ (rowV_sorted ws j)).1
      have hsA := sub_wts (singlesV_sorted ws) hAs
      have hAl := hAs.length_le
      show _ ≤ wts A + (r.map wts).sum
      rw [rowV_mrg]
      have hqQ : q < (rowV ws j).length / 2 + 1 := by
        have hb := len_big ws j (r.map List.length) (by rw [List.length_map, hrl]) (fun s hs => by
          obtain ⟨B, hB, rfl⟩ := List.mem_map.mp hs
          have := (hA B (List.mem_cons_of_mem _ hB)).length_le
          rw [singlesV_len] at this
          exact this)
        have e : ((rowV ws j).length + 1) * 2 ^ j ≤ ((rowV ws j).length / 2 + 1) * 2 ^ (j + 1) := by
          rw [Nat.pow_succ, Nat.mul_comm (2 ^ j) 2, ← Nat.mul_assoc]
          exact Nat.mul_le_mul_right _ (by omega)
        exact (Nat.div_lt_iff_lt_mul hpos).mpr (by omega)
      have hbig : 2 * q ≤ (rowV ws j).length := by omega
      have h1 := mrg_min (singlesV_sorted ws) hps (singles_nn hw) (pairs_nn (row_nn hw j)) (m := m) hAl (show q ≤ (pairsV (rowV ws j)).length by rw [pairsV_len]; omega) hmq
      have h2 := (pairs_sig (rowV ws j) q hbig).2
      omega

theorem Lv.kraft {d : Nat} {xs : List Int} (h : Lv d xs) : (xs.map fun x => 2 ^ (d - x.toNat)).sum = 2 ^ d := by
  induction h with
  | leaf d => simp
  | @node d xs ys h1 h2 i1 i2 =>
    have key : ∀ zs : List Int, (∀ z ∈ zs, 0 ≤ z) → ((zs.map (1 + ·)).map fun x => 2 ^ (d + 1 - x.toNat)).sum = (zs.map fun x => 2 ^ (d - x.toNat)).sum := by
      intro zs hz
      rw [List.map_map]
      refine congrArg List.sum (List.map_congr_left fun z hzz => ?_)
      have := hz z hzz
      show 2 ^ (d + 1 - (1 + z).toNat) = _
      rw [show d + 1 - (1 + z).toNat = d - z.toNat by omega]
    rw [List.map_append, List.map_append, List.sum_append, key _ fun z hz => (h1.le z hz).1, key _ fun z hz => (h2.le z hz).1, i1, i2, Nat.pow_succ]
    omega
theorem valS_one (l : Nat) : ∀ (m a : Nat), l ≤ a + m → valS ((List.range' a m).map fun t => if t < l then 1 else 0) + (if a < l then 2 ^ (a + m - l) else 0) = (if a < l then 2 ^ m else 0)
  | 0, a, h => by
    rw [if_neg (by omega), if_neg (by omega)]; rfl
  | m + 1, a, h => by
    have ih := valS_one l m (a + 1) (by omega)
    rw [List.range'_succ, List.map_cons]
    show (if a < l then 1 else 0) * 2 ^ ((List.range' (a + 1) m).map fun t => if t < l then 1 else 0).length + valS ((List.range' (a + 1) m).map fun t => if t < l then 1 else 0) + _ = _
    rw [List.length_map, List.length_range']
    by_cases h1 : a < l
    · rw [if_pos h1, if_pos h1, if_pos h1, Nat.one_mul]
      by_cases h2 : a + 1 < l
      · rw [if_pos h2, if_pos h2] at ih
        rw [show a + (m + 1) - l = a + 1 + m - l by omega, Nat.pow_succ]
        omega
      · rw [if_neg h2, if_neg h2] at ih
        have : l = a + 1 := by omega
        rw [show a + (m + 1) - l = m by omega, Nat.pow_succ]
        omega
    · rw [if_neg h1, if_neg h1, if_neg h1]
      rw [if_neg (by omega), if_neg (by omega)] at ih
      omega
theorem valS_add (f g : Nat → Nat) : ∀ ts : List Nat, valS (ts.map fun t => f t + g t) = valS (ts.map f) + valS (ts.map g)
  | [] => rfl
  | t :: ts => by
    show (f t + g t) * 2 ^ (ts.map fun t => f t + g t).length + valS (ts.map fun t => f t + g t) = f t * 2 ^ (ts.map f).length + valS (ts.map f) + (g t * 2 ^ (ts.map g).length + valS (ts.map g))
    rw [valS_add f g ts, List.length_map, List.length_map, List.length_map, Nat.add_mul]
    omega
theorem valS_zero : ∀ ts : List Nat, valS (ts.map fun _ => 0) = 0
  | [] => rfl
  | t :: ts => by
    show 0 * 2 ^ (ts.map fun _ => 0).length + valS (ts.map fun _ => 0) = 0
    rw [valS_zero ts, Nat.zero_mul]
theorem vals_S (f : Pk → Nat) (b : Nat) : ∀ S : List Pk, (∀ p ∈ S, f p ≤ b) → valS ((List.range' 0 b).map fun t => (S.filter fun p => decide (t < f p)).length) + (S.map fun p => 2 ^ (b - f p)).sum = S.length * 2 ^ b
  | [], _ => by
    have := valS_zero (List.range' 0 b)
    simp at this ⊢
    exact this
  | p :: S, h => by
    have ih := vals_S f b S fun q hq => h q (List.mem_cons_of_mem _ hq)
    have hp := h p List.mem_cons_self
    have h1 := valS_one (f p) b 0 (by omega)
    have e : (fun t => ((p :: S).filter fun p => decide (t < f p)).length) = fun t => (if t < f p then 1 else 0) + (S.filter fun p => decide (t < f p)).length := by
      funext t
      rw [List.filter_cons]
      by_cases c : t < f p
      · rw [if_pos (decide_eq_true c), if_pos c, List.length_cons]; omega
      · rw [if_neg (by rw [decide_eq_true_iff]; exact c), if_neg c, Nat.zero_add]
    rw [e, valS_add, List.map_cons, List.sum_cons, List.length_cons, Nat.add_mul, Nat.one_mul]
    by_cases c : 0 < f p
    · rw [if_pos c, if_pos c, Nat.zero_add] at h1
      omega
    · rw [if_neg c, if_neg c] at h1
      rw [show b - f p = b by omega]
      omega
theorem sum_one (w : Int) (l : Nat) : ∀ (m a : Nat), l ≤ a + m → ((List.range' a m).map fun t => if t < l then w else 0).sum = w * ((l - a : Nat) : Int)
  | 0, a, h => by
    rw [show l - a = 0 by omega]
    simp
  | m + 1, a, h => by
    have ih := sum_one w l m (a + 1) (by omega)
    rw [List.range'_succ, List.map_cons, List.sum_cons, ih]
    by_cases h1 : a < l
    · rw [if_pos h1, show l - a = (l - (a + 1)) + 1 by omega, Int.natCast_add, Int.mul_add]
      omega
    · rw [if_neg h1, show l - a = 0 by omega, show l - (a + 1) = 0 by omega]
      simp
theorem sum_addI (f g : Nat → Int) : ∀ ts : List Nat, (ts.map fun t => f t + g t).sum = (ts.map f).sum + (ts.map g).sum
  | [] => rfl
  | t :: ts => by
    rw [List.map_cons, List.sum_cons, sum_addI f g ts, List.map_cons, List.sum_cons, List.map_cons, List.sum_cons]
    omega
theorem sum_zeroI : ∀ ts : List Nat, (ts.map fun _ => (0 : Int)).sum = 0
  | [] => rfl
  | t :: ts => by rw [List.map_cons, List.sum_cons, sum_zeroI ts]; rfl
theorem wts_S (f : Pk → Nat) (b : Nat) : ∀ S : List Pk, (∀ p ∈ S, f p ≤ b) → ((List.range' 0 b).map fun t => wts (S.filter fun p => decide (t < f p))).sum = (S.map fun p => p.1 * (f p : Int)).sum
  | [], _ => sum_zeroI _
  | p :: S, h => by
    have ih := wts_S f b S fun q hq => h q (List.mem_cons_of_mem _ hq)
    have hp := h p List.mem_cons_self
    have h1 := sum_one p.1 (f p) b 0 (by omega)
    have e : (fun t => wts ((p :: S).filter fun p => decide (t < f p))) = fun t => (if t < f p then p.1 else 0) + wts (S.filter fun p => decide (t < f p)) := by
      funext t
      rw [List.filter_cons]
      by_cases c : t < f p
      · rw [if_pos (decide_eq_true c), if_pos c]; rfl
      · rw [if_neg (by rw [decide_eq_true_iff]; exact c), if_neg c, Int.zero_add]
    rw [e, sum_addI, ih, h1, List.map_cons, List.sum_cons, Nat.sub_zero]
theorem free_least {ws : List Int} (hw : ∀ w ∈ ws, 0 ≤ w) (hn : 2 ≤ ws.length) {b : Nat} (h1 : 1 ≤ b) (h : ws.length ≤ 2 ^ b) (f : Pk → Nat) (hf : ∀ p ∈ singlesV ws, f p ≤ b) (hk : ((singlesV ws).map fun p => 2 ^ (b - f p)).sum ≤ 2 ^ b) : wsum ws 0 (freeV ws b) ≤ ((singlesV ws).map fun p => p.1 * (f p : Int)).sum := by
  have hs := vals_S f b (singlesV ws) hf
  rw [singlesV_len] at hs
  have hr := row_least hw (b - 1) (2 * ws.length - 2) ((List.range' 0 b).map fun t => (singlesV ws).filter fun p => decide (t < f p)) (by rw [List.length_map, List.length_range']; omega) (fun A hA => by
    obtain ⟨t, _, rfl⟩ := List.mem_map.mp hA
    exact List.filter_sublist) (by
    rw [List.map_map]
    show _ ≤ valS ((List.range' 0 b).map fun t => ((singlesV ws).filter fun p => decide (t < f p)).length)
    have e : (2 * ws.length - 2) * 2 ^ (b - 1) + 2 ^ b = ws.length * 2 ^ b := by
      obtain ⟨c, rfl⟩ : ∃ c, b = c + 1 := ⟨b - 1, by omega⟩
      obtain ⟨n, hn2⟩ : ∃ n, ws.length = n + 1 := ⟨ws.length - 1, by omega⟩
      rw [hn2, show 2 * (n + 1) - 2 = n * 2 by omega, Nat.add_sub_cancel, Nat.mul_assoc, ← Nat.pow_succ', Nat.add_mul, Nat.one_mul]
    omega)
  rw [List.map_map, taken_wts hw hn h1 h] at hr
  have hw2 := wts_S f b (singlesV ws) hf
  have hr' : wsum ws 0 (freeV ws b) ≤ ((List.range' 0 b).map fun t => wts ((singlesV ws).filter fun p => decide (t < f p))).sum := hr
  omega
theorem signs_eq : ∀ (pre ws : List Int), signsV pre.length ws = (List.range' pre.length ws.length).map fun (i : Nat) => (wv (pre ++ ws) (i : Int), [(i : Int)])
  | pre, [] => rfl
  | pre, w :: ws => by
    have ih := signs_eq (pre ++ [w]) ws
    rw [List.length_append, List.length_singleton, List.append_assoc] at ih
    rw [List.length_cons, List.range'_succ, List.map_cons]
    show (w, [(pre.length : Int)]) :: signsV (pre.length + 1) ws = _
    rw [ih]
    congr 2
    unfold wv
    rw [show ((pre.length : Nat) : Int).toNat = pre.length by omega, List.getD_eq_getElem?_getD, List.getElem?_append_right (Nat.le_refl _), Nat.sub_self]
    rfl
theorem singles_perm {ws order : List Int} (ho : order.Perm (natsI ws.length)) : (singlesV ws).Perm (order.map fun x => (wv ws x, [x])) := by
  refine (List.mergeSort_perm _ _).trans ?_
  have e := signs_eq [] ws
  rw [List.length_nil, List.nil_append] at e
  rw [e, show (List.range' 0 ws.length).map (fun (i : Nat) => (wv ws (i : Int), [(i : Int)])) = (natsI ws.length).map fun x => (wv ws x, [x]) by
    unfold natsI
    rw [List.map_map, List.range_eq_range']
    rfl]
  exact (ho.map _).symm
theorem map_idx {order other : List Int} (hn : order.Nodup) (hl : other.length = order.length) : (order.map fun x => other.getD (order.idxOf x) 0) = other := by
  refine List.ext_getElem (by rw [List.length_map, hl]) fun k h1 h2 => ?_
  rw [List.getElem_map, hn.idxOf_getElem k (by rw [← hl]; exact h2), List.getD_eq_getElem?_getD, List.getElem?_eq_getElem h2]
  rfl
/-- no other choice is less -/
theorem free_best {ws : List Int} (hw : ∀ w ∈ ws, 0 ≤ w) (hn : 2 ≤ ws.length) {b : Nat} (h1 : 1 ≤ b) (h : ws.length ≤ 2 ^ b) {order other : List Int} (ho : order.Perm (natsI ws.length)) (hl : other.length = ws.length) (hx : ∀ x ∈ other, 0 ≤ x ∧ x ≤ (b : Int)) (hk : (other.map fun x => 2 ^ (b - x.toNat)).sum ≤ 2 ^ b) :
    wsum ws 0 (freeV ws b) ≤ ((List.range ws.length).map fun k => ws.getD (order.getD k 0).toNat 0 * other.getD k 0).sum := by
  have hnd : order.Nodup := ho.nodup_iff.mpr (natsI_nodup _)
  have hol : order.length = ws.length := by rw [ho.length_eq]; unfold natsI; rw [List.length_map, List.length_range]
  have hmi := map_idx (other := other) hnd (by omega)
  have hp := singles_perm ho
  have hle : ∀ p ∈ singlesV ws, (other.getD (order.idxOf (p.2.headD 0)) 0).toNat ≤ b := by
    intro p hp'
    obtain ⟨x, hxo, rfl⟩ := List.mem_map.mp (hp.mem_iff.mp hp')
    have hm : other.getD (order.idxOf x) 0 ∈ order.map fun x => other.getD (order.idxOf x) 0 := List.mem_map.mpr ⟨x, hxo, rfl⟩
    rw [hmi] at hm
    have := hm
    have := hx _ this
    show (other.getD (order.idxOf x) 0).toNat ≤ b
    omega
  have hks : ((singlesV ws).map fun p => 2 ^ (b - (other.getD (order.idxOf (p.2.headD 0)) 0).toNat)).sum ≤ 2 ^ b := by
    rw [sumN_perm (hp.map _), List.map_map]
    have : order.map ((fun p : Pk => 2 ^ (b - (other.getD (order.idxOf (p.2.headD 0)) 0).toNat)) ∘ fun x => (wv ws x, [x])) = (order.map fun x => other.getD (order.idxOf x) 0).map fun x => 2 ^ (b - x.toNat) := by
      rw [List.map_map]
      rfl
    rw [this, hmi]
    exact hk
  have := free_least hw hn h1 h (fun p => (other.getD (order.idxOf (p.2.headD 0)) 0).toNat) hle hks
  rw [sum_perm (hp.map _), List.map_map] at this
  refine Int.le_trans this (Int.le_of_eq (congrArg List.sum (List.ext_getElem (by rw [List.length_map, List.length_map, List.length_range, hol]) fun k k1 k2 => ?_)))
  rw [List.length_map] at k1
  rw [List.getElem_map, List.getElem_map, List.getElem_range]
  show wv ws order[k] * (((other.getD (order.idxOf order[k]) 0).toNat : Nat) : Int) = _
  have hk' : k < other.length := by omega
  rw [hnd.idxOf_getElem k k1]
  have e1 : order.getD k 0 = order[k] := by rw [List.getD_eq_getElem?_getD, List.getElem?_eq_getElem k1]; rfl
  have e2 : other.getD k 0 = other[k] := by rw [List.getD_eq_getElem?_getD, List.getElem?_eq_getElem hk']; rfl
  have := hx other[k] (List.getElem_mem hk')
  rw [e1, e2, show ((other[k].toNat : Nat) : Int) = other[k] by omega]
  rfl
theorem sum_set_le (g : Int → Nat) : ∀ (l : List Int) (i : Nat) (v : Int), g v ≤ g (l.getD i 0) → ((l.set i v).map g).sum ≤ (l.map g).sum
  | [], i, v, _ => by simp
  | x :: l, 0, v, h => by
    have h : g v ≤ g x := h
    rw [List.set_cons_zero, List.map_cons, List.sum_cons, List.map_cons, List.sum_cons]
    omega
  | x :: l, i + 1, v, h => by
    have := sum_set_le g l i v h
    rw [List.set_cons_succ, List.map_cons, List.sum_cons, List.map_cons, List.sum_cons]
    omega

/-! law_order: slots 0:_law_script 1:_law_first 2:_law_many_here 3:_law_left 4:_law_found 5:_law_k -/
def g_law_order : SE := (sSeq (sSetL 3 (lListRg (eVar 2)))
  (sSeq (sSetL 4 (lLst []))
  (sSeq (sFor (wRange1 (eVar 2)) (tgN 5) [5] (sAppPop 4 3 (eOp oMod (eX (xCall M_law_cell (rL (lVar 0) (rV (eOp oAdd (eVar 1) (eVar 5)) rNil)))) (eLenV (rVar 3)))))
  (sRetO 4))))
def F_law_order : FN := runF 3 6 g_law_order
theorem ex_law_order : ∃ M : FN, M = F_law_order := ⟨_, rfl⟩
def M_law_order : FN := ex_law_order.choose
theorem M_law_order_eq : M_law_order = F_law_order := ex_law_order.choose_spec
theorem ok_law_order : ∀ as : List SL, as.length = 3 → M_law_order as ≠ .stuck → F_law_order as = M_law_order as := fun _ _ _ => by rw [M_law_order_eq]
theorem sAppPop_ok {i j : Nat} {k : VE} {ρ : Env} {ds es : List PyData} {n : Nat} {d : PyData} (h1 : ρ[i]? = some (some (.ow ds))) (h2 : ρ[j]? = some (some (.ow es))) (h3 : k ρ = .ok (.int (n : Int))) (h4 : es[n]? = some d) (h5 : es.length < 1000000) (h6 : ds.length < 1000000) (hij : i ≠ j) : sAppPop i j k ρ = .nx ((ρ.set j (some (.ow (es.eraseIdx n)))).set i (some (.ow (ds ++ [d])))) := by
  have hn : n < es.length := by
    by_cases h : n < es.length
    · exact h
    · rw [List.getElem?_eq_none (by omega)] at h4
      cases h4
  unfold sAppPop
  rw [h1, h2]
  dsimp only
  rw [h3, wOut_ok]
  dsimp only
  rw [if_pos ⟨by omega, by omega, h5, h6, hij⟩, show ((n : Nat) : Int).toNat = n by omega, h4]
abbrev bodyOr : SE := sAppPop 4 3 (eOp oMod (eX (xCall M_law_cell (rL (lVar 0) (rV (eOp oAdd (eVar 1) (eVar 5)) rNil)))) (eLenV (rVar 3)))
abbrev envOr (ns : List Int) (first n : Int) (ls fs : List Int) (x : Option SL) : Env := [some (.bw (ns.map PyData.int)), some (.fz (.int first)), some (.fz (.int n)), some (.ow (ls.map PyData.int)), some (.ow (fs.map PyData.int)), x]
theorem turnOr {ns : List Int} {first n : Int} {j : Nat} {ls fs : List Int} (hf : 0 ≤ first ∧ first ≤ 1000) (hj : j < 100) (hl : 1 ≤ ls.length) (hl2 : ls.length ≤ 1000) (hf2 : fs.length ≤ 1000) :
    ∃ ls' fs' : List Int, (fs' ++ ls').Perm (fs ++ ls) ∧ ls'.length + 1 = ls.length ∧ fs'.length = fs.length + 1 ∧ turn (tgN 5) [5] bodyOr (.int ((0 + j : Nat) : Int)) (envOr ns first n ls fs none) = .nx (envOr ns first n ls' fs' none) := by
  have c1 := M_law_cell_ok ns (k := first + (j : Int)) (by omega) (by omega)
  have e0 := Int.emod_nonneg (cellV ns (first + (j : Int))) (b := (ls.length : Int)) (by omega)
  have e1 := Int.emod_lt_of_pos (cellV ns (first + (j : Int))) (b := (ls.length : Int)) (by omega)
  have m1 : oMod (.int (cellV ns (first + (j : Int)))) (.int (ls.length : Int)) = .ok (.int (cellV ns (first + (j : Int)) % (ls.length : Int))) := oMod_i (by omega)
  generalize hz : cellV ns (first + (j : Int)) % (ls.length : Int) = z at e0 e1 m1
  obtain ⟨i, rfl⟩ : ∃ i : Nat, z = (i : Int) := ⟨z.toNat, by omega⟩
  have hi : i < ls.length := by omega
  refine ⟨ls.eraseIdx i, fs ++ [ls[i]], ?_, by rw [List.length_eraseIdx, if_pos hi]; omega, by rw [List.length_append]; rfl, ?_⟩
  · rw [List.append_assoc]
    refine List.Perm.append_left fs ?_
    rw [List.eraseIdx_eq_take_drop_succ]
    have e : ls = ls.take i ++ ls[i] :: ls.drop (i + 1) := by rw [← List.drop_eq_getElem_cons hi, List.take_append_drop]
    conv => rhs; rw [e]
    rw [List.singleton_append]
    exact List.perm_middle.symm
  · rw [Nat.zero_add]
    have hk : (eOp oMod (eX (xCall M_law_cell (rL (lVar 0) (rV (eOp oAdd (eVar 1) (eVar 5)) rNil)))) (eLenV (rVar 3))) (envOr ns first n ls fs (some (.fz (.int (j : Int))))) = .ok (.int (i : Int)) := by
      simp [c1, m1]
    have := sAppPop_ok (i := 4) (j := 3) (ρ := envOr ns first n ls fs (some (.fz (.int (j : Int))))) (ds := fs.map PyData.int) (es := ls.map PyData.int) rfl rfl hk (d := .int ls[i]) (by rw [List.getElem?_map, List.getElem?_eq_getElem hi]; rfl) (by rw [List.length_map]; omega) (by rw [List.length_map]; omega) (by decide)
    rw [turn_nx (ρ1 := envOr ns first n ls fs (some (.fz (.int (j : Int))))) rfl this]
    have e2 : (ls.map PyData.int).eraseIdx i = (ls.eraseIdx i).map PyData.int := by rw [List.eraseIdx_eq_take_drop_succ, List.eraseIdx_eq_take_drop_succ, List.map_append, List.map_take, List.map_drop]
    have e3 : fs.map PyData.int ++ [.int ls[i]] = (fs ++ [ls[i]]).map PyData.int := by rw [List.map_append]; rfl
    rw [e2, e3]
    rfl
theorem M_law_order_okB (ns : List Int) {first : Int} {n : Nat} (hf : 0 ≤ first ∧ first ≤ 1000) (hn : n ≤ 40) : ∃ xs : List Int, xs.Perm (natsI n) ∧ M_law_order [.bw (ns.map PyData.int), .fz (.int first), .fz (.int (n : Int))] = .ok (.fresh (xs.map PyData.int)) := by
  have hnl : (natsI n).length = n := by unfold natsI; rw [List.length_map, List.length_range]
  obtain ⟨ρ', e, ls, fs, hp, hl, hfl, rfl⟩ := forGo_invN (tg := tgN 5) (ws := [5]) (body := bodyOr) (fun j ρ => ∃ ls fs : List Int, (fs ++ ls).Perm (natsI n) ∧ ls.length = n - j ∧ fs.length = j ∧ ρ = envOr ns first (n : Int) ls fs none) n 0 (ρ := envOr ns first (n : Int) (natsI n) [] none) ⟨natsI n, [], List.Perm.refl _, by omega, rfl, rfl⟩ (fun j ρ hj ⟨ls, fs, hp, hl, hfl, e⟩ => by
    subst e
    obtain ⟨ls', fs', g1, g2, g3, g4⟩ := turnOr (ns := ns) (first := first) (n := (n : Int)) (j := j) (ls := ls) (fs := fs) hf (by omega) (by omega) (by omega) (by omega)
    exact ⟨_, g4, ls', fs', g1.trans hp, by omega, by omega, rfl⟩)
  have hls : ls = [] := List.length_eq_zero_iff.mp (by omega)
  subst hls
  rw [List.append_nil] at hp
  refine ⟨fs, hp, ?_⟩
  rw [M_law_order_eq]
  unfold F_law_order
  have hg : g_law_order = sSeq (sSetL 3 (lListRg (eVar 2))) (sSeq (sSetL 4 (lLst [])) (sSeq (sFor (wRange1 (eVar 2)) (tgN 5) [5] bodyOr) (sRetO 4))) := rfl
  have hr : lListRg (eVar 2) [some (.bw (ns.map PyData.int)), some (.fz (.int first)), some (.fz (.int (n : Int))), none, none, none] = .ok ((natsI n).map PyData.int) := by
    unfold lListRg
    rw [show eVar 2 [some (.bw (ns.map PyData.int)), some (.fz (.int first)), some (.fz (.int (n : Int))), none, none, none] = .ok (.int (n : Int)) from rfl, Out.bind_ok]
    dsimp only
    rw [if_pos ⟨by omega, by omega⟩, show ((n : Int)).toNat = n by omega, rng_map]
    unfold natsI
    rw [List.map_map]
    rfl
  have hw : wRange1 (eVar 2) (envOr ns first (n : Int) (natsI n) [] none) = .ok ((List.range' 0 n).map fun k => PyData.int ((k : Nat) : Int)) := by
    rw [← rng_nat 0 n]
    rw [wRange1_ok (n := (n : Int)) rfl ⟨by omega, by omega⟩, show ((n : Int)).toNat = n by omega]
    rfl
  refine runF_rt [some (.bw (ns.map PyData.int)), some (.fz (.int first)), some (.fz (.int (n : Int))), none, none, none] rfl rfl (ρ' := envOr ns first (n : Int) [] fs none) ?_
  rw [hg, seq_nx (ρ' := [some (.bw (ns.map PyData.int)), some (.fz (.int first)), some (.fz (.int (n : Int))), some (.ow ((natsI n).map PyData.int)), none, none]) (by rw [sSetL_ap, hr, wOut_ok]; rfl), seq_nx (show sSetL 4 (lLst []) _ = .nx (envOr ns first (n : Int) (natsI n) [] none) from rfl), seq_nx ((for_of hw).trans e)]
  rfl
theorem M_law_order_ok (ns : List Int) {first : Int} {n : Nat} (hf : 0 ≤ first ∧ first ≤ 1000) (hn : n ≤ 24) : ∃ xs : List Int, xs.Perm (natsI n) ∧ M_law_order [.bw (ns.map PyData.int), .fz (.int first), .fz (.int (n : Int))] = .ok (.fresh (xs.map PyData.int)) := M_law_order_okB ns hf (by omega)

/-! law_whole: slots 0:_law_found -/
def g_law_whole : SE := (sRet (eOfB (bAnd (bOf (eIsI (rVar 0) "int")) (bNot (bOf (eIsI (rVar 0) "bool"))))))
def F_law_whole : FN := runF 1 1 g_law_whole
def isWhole : PyData → Bool
  | .int _ => true
  | _ => false
def M_law_whole : FN
  | [.fz d] => if noDict d then .ok (.val (.bool (isWhole d))) else .stuck
  | _ => .stuck
theorem ok_law_whole : ∀ as : List SL, as.length = 1 → M_law_whole as ≠ .stuck → F_law_whole as = M_law_whole as := by
  intro as hl h
  clear hl
  unfold M_law_whole at h ⊢
  split at h
  · rename_i d
    try dsimp only
    by_cases hd : noDict d = true
    · have h1 : eIsI (rVar 0) "int" [some (.fz d)] = .ok (.bool (isInt d)) := eIsI_ok rfl (kit_int d (noDict_ne hd))
      have h2 : eIsI (rVar 0) "bool" [some (.fz d)] = .ok (.bool (isBool d)) := eIsI_ok rfl (kit_bool d (noDict_ne hd))
      cases d with
      | dict kvs => cases hd
      | _ => simp [F_law_whole, runF, g_law_whole, h1, h2, isInt, isBool, isWhole]
    · simp [hd] at h
  · exact absurd rfl h

/-! counted: slots 0:lengths 1:bound 2:one -/
def g_counted : SE := (sSeq (sDropX (xCall M_need_lengths (rL (lVar 0) (rV (eVar 1) rNil))))
  (sRet (eSum (lComp (lVar 0) (tgN 2) [2] bYes (eX (xCall M_doubled (rV (eOp oSub (eVar 1) (eVar 2)) rNil)))))))
def F_counted : FN := runF 2 3 g_counted
/-- the places of one length -/
def plc (b n : Int) : Int := 2 ^ (b - n).toNat
def M_counted : FN
  | [.bw ds, .fz (.int n)] => if ds.all noDict then (match lensBad ds (.int n) with
    | some c => .exc c
    | none => (match asInts ds with
      | some ns => .ok (.val (.int (ns.map (plc n)).sum))
      | none => .stuck)) else .stuck
  | [.bw ds, .fz d] => if (ds.all noDict && noDict d) = true then .exc "BadBound" else .stuck
  | _ => .stuck
theorem all_isNum {ds : List PyData} {n : Int} (h : ds.all (fun d => isNum d 1 n) = true) : ∃ ns : List Int, ds = ns.map PyData.int ∧ ∀ k ∈ ns, 1 ≤ k ∧ k ≤ n := by
  induction ds with
  | nil => exact ⟨[], rfl, fun k hk => by cases hk⟩
  | cons d r ih =>
    rw [List.all_cons, Bool.and_eq_true] at h
    obtain ⟨ns, e, hns⟩ := ih h.2
    cases d with
    | int i =>
      refine ⟨i :: ns, by rw [e, List.map_cons], fun k hk => ?_⟩
      rcases List.mem_cons.mp hk with rfl | hk
      · exact of_decide_eq_true h.1
      · exact hns k hk
    | _ => exact absurd h.1 (by simp [isNum])
theorem lensBad_none {ds : List PyData} {n : Int} (h : lensBad ds (.int n) = none) : 1 ≤ n ∧ n ≤ 12 ∧ ds.length ≤ 24 ∧ ds.all (fun d => isNum d 1 n) = true := by
  unfold lensBad at h
  dsimp only at h
  by_cases hn : 1 ≤ n ∧ n ≤ 12
  · rw [if_pos hn] at h
    by_cases hl : 24 < ds.length
    · rw [if_pos hl] at h; cases h
    · rw [if_neg hl] at h
      by_cases ha : ds.all (fun d => isNum d 1 n) = true
      · exact ⟨hn.1, hn.2, by omega, ha⟩
      · rw [if_neg ha] at h; cases h
  · rw [if_neg hn] at h; cases h
theorem ok_counted : ∀ as : List SL, as.length = 2 → M_counted as ≠ .stuck → F_counted as = M_counted as := by
  intro as hl h
  clear hl
  unfold M_counted at h ⊢
  split at h
  · rename_i ds n
    try dsimp only
    by_cases hd : ds.all noDict = true
    · rw [if_pos hd]
      cases hb : lensBad ds (.int n) with
      | some c => simp [F_counted, runF, g_counted, M_need_lengths, hd, hb]
      | none =>
        obtain ⟨h1, h2, h3, h4⟩ := lensBad_none hb
        obtain ⟨ns, rfl, hns⟩ := all_isNum h4
        have hc := lComp_map (w := lVar 0) (tg := tgN 2) (ws := [2]) (tt := bYes) (el := eX (xCall M_doubled (rV (eOp oSub (eVar 1) (eVar 2)) rNil))) (ρ := [some (.bw (ns.map PyData.int)), some (.fz (.int n)), none])
          (fun d => match d with
            | .int k => .int (plc n k)
            | d => d) (ds := ns.map PyData.int) rfl (by omega) (fun d hm => by
              obtain ⟨k, hk, rfl⟩ := List.mem_map.mp hm
              have := hns k hk
              have hk2 : n - k ≤ 60 ∧ -1000 ≤ n - k := by omega
              exact ⟨_, rfl, rfl, by simp [eX, M_doubled, hk2, plc]⟩)
        have hm : (ns.map PyData.int).map (fun d => match d with
            | .int k => .int (plc n k)
            | d => d) = (ns.map (plc n)).map PyData.int := by
          rw [List.map_map, List.map_map]
          rfl
        rw [hm] at hc
        have hs : eSum (lComp (lVar 0) (tgN 2) [2] bYes (eX (xCall M_doubled (rV (eOp oSub (eVar 1) (eVar 2)) rNil)))) [some (.bw (ns.map PyData.int)), some (.fz (.int n)), none] = .ok (.int (ns.map (plc n)).sum) := eSum_ok hc (asInts_DI _)
        simp [F_counted, runF, g_counted, M_need_lengths, hb, hs]
    · simp [hd] at h
  · rename_i ds d hnd
    try dsimp only
    by_cases hd : (ds.all noDict && noDict d) = true
    · have hd2 := hd
      rw [Bool.and_eq_true] at hd2
      cases d with
      | int n => exact absurd rfl (hnd n)
      | dict kvs => cases hd2.2
      | _ => simp [F_counted, runF, g_counted, M_need_lengths, lensBad, hd, hd2.1]
    · simp [hd] at h
  · exact absurd rfl h

/-! law_strange: slots 0:_law_cell_here 1:_law_low 2:_law_high 3:_law_far -/
def g_law_strange : SE := (sSeq (sSet 3 (eOp oMod (eOp oMul (eOp oFdiv (eVar 0) (eC (.int 10))) (eC (.int 48271))) (eC (.int 1000000007))))
  (sRet (eIx (lLst [(eOp oSub (eVar 1) (eC (.int 1))), (eOp oAdd (eVar 2) (eC (.int 1))), (eC (.bool true)), (eC (.bool false)), (eC (.str (Str.ofString "1"))), (eC .none), (eOfL (lLst [(eC (.int 1))])), (eTup [(eC (.int 1))]), (eOp oSub (eOp oSub (eVar 1) (eC (.int 1))) (eVar 3)), (eOp oAdd (eOp oAdd (eVar 2) (eC (.int 1))) (eVar 3))]) (eOp oMod (eVar 0) (eC (.int 10))))))
def F_law_strange : FN := runF 3 4 g_law_strange
theorem ex_law_strange : ∃ M : FN, M = F_law_strange := ⟨_, rfl⟩
def M_law_strange : FN := ex_law_strange.choose
theorem M_law_strange_eq : M_law_strange = F_law_strange := ex_law_strange.choose_spec
theorem ok_law_strange : ∀ as : List SL, as.length = 3 → M_law_strange as ≠ .stuck → F_law_strange as = M_law_strange as := fun _ _ _ => by rw [M_law_strange_eq]
/-- what a strange thing is like -/
def odd1 (d : PyData) : Prop := noDict d = true ∧ shp 1 d
theorem odd_int (i : Int) : odd1 (.int i) := ⟨rfl, shp_int _ _⟩
theorem M_law_strange_ok {c lo hi : Int} : ∃ d, odd1 d ∧ M_law_strange [.fz (.int c), .fz (.int lo), .fz (.int hi)] = .ok (.val d) := by
  have f10 : oFdiv (.int c) (.int 10) = .ok (.int (c / 10)) := oFdiv_i (by omega)
  have m10 : oMod (.int c) (.int 10) = .ok (.int (c % 10)) := oMod_i (by omega)
  have mm : ∀ z : Int, oMul (.int z) (.int 48271) = .ok (.int (z * 48271)) := fun z => oMul_r (by omega)
  have mf : ∀ z : Int, oMod (.int z) (.int 1000000007) = .ok (.int (z % 1000000007)) := fun z => oMod_i (by omega)
  generalize hf : c / 10 * 48271 % 1000000007 = far
  have hl : lLst [(eOp oSub (eVar 1) (eC (.int 1))), (eOp oAdd (eVar 2) (eC (.int 1))), (eC (.bool true)), (eC (.bool false)), (eC (.str (Str.ofString "1"))), (eC .none), (eOfL (lLst [(eC (.int 1))])), (eTup [(eC (.int 1))]), (eOp oSub (eOp oSub (eVar 1) (eC (.int 1))) (eVar 3)), (eOp oAdd (eOp oAdd (eVar 2) (eC (.int 1))) (eVar 3))] [some (.fz (.int c)), some (.fz (.int lo)), some (.fz (.int hi)), some (.fz (.int far))]
      = .ok [.int (lo - 1), .int (hi + 1), .bool true, .bool false, .str (Str.ofString "1"), .none, .list [.int 1], .tuple [.int 1], .int (lo - 1 - far), .int (hi + 1 + far)] := rfl
  have hk : ∃ k : Nat, k < 10 ∧ c % 10 = (k : Int) := ⟨(c % 10).toNat, by omega, by omega⟩
  obtain ⟨k, hk, hck⟩ := hk
  have hx : ∀ d, [PyData.int (lo - 1), .int (hi + 1), .bool true, .bool false, .str (Str.ofString "1"), .none, .list [.int 1], .tuple [.int 1], .int (lo - 1 - far), .int (hi + 1 + far)][k]? = some d → M_law_strange [.fz (.int c), .fz (.int lo), .fz (.int hi)] = .ok (.val d) := fun d hd => by
    rw [M_law_strange_eq]
    unfold F_law_strange
    refine runF_rt [some (.fz (.int c)), some (.fz (.int lo)), some (.fz (.int hi)), none] rfl rfl (ρ' := [some (.fz (.int c)), some (.fz (.int lo)), some (.fz (.int hi)), some (.fz (.int far))]) ?_
    unfold g_law_strange
    rw [seq_nx (ρ' := [some (.fz (.int c)), some (.fz (.int lo)), some (.fz (.int hi)), some (.fz (.int far))]) (by simp [f10, mm, mf, hf])]
    rw [sRet_ap, eIx_ok hl (k := (k : Int)) (by rw [eOp_ap]; show (oMod (.int c) (.int 10)) = _; rw [m10, hck]) (atI_nat hd), wOut_ok]
  have h1 : shp 1 (.list [.int 1]) := shp_list (k := 0) fun d hd => by rw [List.mem_singleton.mp hd]; exact shp_int _ _
  have h2 : shp 1 (.tuple [.int 1]) := shp_tup (k := 0) fun d hd => by rw [List.mem_singleton.mp hd]; exact shp_int _ _
  have hc : k = 0 ∨ k = 1 ∨ k = 2 ∨ k = 3 ∨ k = 4 ∨ k = 5 ∨ k = 6 ∨ k = 7 ∨ k = 8 ∨ k = 9 := by omega
  rcases hc with rfl | rfl | rfl | rfl | rfl | rfl | rfl | rfl | rfl | rfl
  · exact ⟨_, odd_int _, hx _ rfl⟩
  · exact ⟨_, odd_int _, hx _ rfl⟩
  · exact ⟨_, ⟨rfl, shp_bool _ _⟩, hx _ rfl⟩
  · exact ⟨_, ⟨rfl, shp_bool _ _⟩, hx _ rfl⟩
  · exact ⟨_, ⟨rfl, shp_str _ (by decide +kernel)⟩, hx _ rfl⟩
  · exact ⟨_, ⟨rfl, shp_none _⟩, hx _ rfl⟩
  · exact ⟨_, ⟨rfl, h1⟩, hx _ rfl⟩
  · exact ⟨_, ⟨rfl, h2⟩, hx _ rfl⟩
  · exact ⟨_, odd_int _, hx _ rfl⟩
  · exact ⟨_, odd_int _, hx _ rfl⟩

/-- words in order: number and length of each, from the place p on -/
def ordPl : Nat → List Nat → Option (List (Nat × Nat))
  | _, [] => some []
  | p, l :: r => if 4096 < ((p + 2 ^ (12 - l) - 1) / 2 ^ (12 - l) + 1) * 2 ^ (12 - l) then none else (ordPl (((p + 2 ^ (12 - l) - 1) / 2 ^ (12 - l) + 1) * 2 ^ (12 - l)) r).map (((p + 2 ^ (12 - l) - 1) / 2 ^ (12 - l), l) :: ·)
def wordS (w : Nat × Nat) : Str := bitsS w.1 w.2
/-- a lies ahead of b -/
def Ahead (a b : Nat × Nat) : Prop := (a.1 + 1) * 2 ^ (12 - a.2) ≤ b.1 * 2 ^ (12 - b.2)
def InRoom (a : Nat × Nat) : Prop := a.2 ≤ 12 ∧ a.1 < 2 ^ a.2
theorem Ahead.sep {a b : Nat × Nat} (h : Ahead a b) (ha : InRoom a) (hb : InRoom b) : Sep (bitsL a.1 a.2) (bitsL b.1 b.2) := sep_bits 12 _ _ _ _ ha.1 hb.1 ha.2 hb.2 h
theorem ceil_mul {p m : Nat} (hm : 0 < m) : p ≤ (p + m - 1) / m * m ∧ (p + m - 1) / m * m = if 0 < p % m then p + m - p % m else p := by
  have e := Nat.div_add_mod p m
  have hr := Nat.mod_lt p hm
  generalize p % m = r at e hr
  generalize p / m = k at e
  by_cases h : 0 < r
  · have : (p + m - 1) / m = k + 1 := by
      rw [show p + m - 1 = (r - 1) + m * (k + 1) by rw [Nat.mul_add, Nat.mul_one]; omega, Nat.add_mul_div_left _ _ hm, Nat.div_eq_of_lt (by omega), Nat.zero_add]
    rw [this, if_pos h, Nat.add_mul, Nat.one_mul, Nat.mul_comm k m]
    omega
  · have : (p + m - 1) / m = k := by
      rw [show p + m - 1 = (m - 1) + m * k by omega, Nat.add_mul_div_left _ _ hm, Nat.div_eq_of_lt (by omega), Nat.zero_add]
    rw [this, if_neg h, Nat.mul_comm k m]
    omega
theorem ordPl_ok : ∀ (ls : List Nat) (p : Nat) (ws : List (Nat × Nat)), (∀ l ∈ ls, l ≤ 12) → ordPl p ls = some ws → ws.length = ls.length ∧ (∀ w ∈ ws, InRoom w ∧ p ≤ w.1 * 2 ^ (12 - w.2)) ∧ ws.Pairwise Ahead
  | [], p, ws, _, h => by
    cases h
    exact ⟨rfl, fun w hw => (List.not_mem_nil hw).elim, List.Pairwise.nil⟩
  | l :: r, p, ws, hl, h => by
    unfold ordPl at h
    have hm := Nat.two_pow_pos (12 - l)
    have hc := ceil_mul (p := p) hm
    by_cases c : 4096 < ((p + 2 ^ (12 - l) - 1) / 2 ^ (12 - l) + 1) * 2 ^ (12 - l)
    · rw [if_pos c] at h
      cases h
    · rw [if_neg c] at h
      cases e : ordPl (((p + 2 ^ (12 - l) - 1) / 2 ^ (12 - l) + 1) * 2 ^ (12 - l)) r with
      | none => rw [e] at h; cases h
      | some us =>
        rw [e] at h
        cases h
        obtain ⟨h1, h2, h3⟩ := ordPl_ok r _ us (fun x hx => hl x (List.mem_cons_of_mem _ hx)) e
        have hle := hl l List.mem_cons_self
        refine ⟨by rw [List.length_cons, List.length_cons, h1], fun w hw => ?_, List.pairwise_cons.mpr ⟨fun w hw => (h2 w hw).2, h3⟩⟩
        rcases List.mem_cons.mp hw with rfl | hw
        · refine ⟨⟨hle, ?_⟩, hc.1⟩
          have e2 : 2 ^ l * 2 ^ (12 - l) = 4096 := by
            rw [← Nat.pow_add, show l + (12 - l) = 12 by omega]
          have : ((p + 2 ^ (12 - l) - 1) / 2 ^ (12 - l) + 1) * 2 ^ (12 - l) ≤ 2 ^ l * 2 ^ (12 - l) := by omega
          have := Nat.le_of_mul_le_mul_right this hm
          exact this
        · refine ⟨(h2 w hw).1, Nat.le_trans ?_ (h2 w hw).2⟩
          rw [Nat.add_mul]
          omega
/-- no word of words that lie one behind the other begins another -/
theorem words_apart {ws : List (Nat × Nat)} (h1 : ∀ w ∈ ws, InRoom w) (h2 : ws.Pairwise Ahead) : Apart (ws.map wordS) := by
  intro i j hi hj hij
  rw [List.length_map] at hi hj
  rw [List.getElem_map, List.getElem_map]
  have key : ∀ (i j : Nat) (hi : i < ws.length) (hj : j < ws.length), i < j → Sep (bitsL ws[i].1 ws[i].2) (bitsL ws[j].1 ws[j].2) := fun i j hi hj hij => ((List.pairwise_iff_getElem.mp h2) i j hi hj hij).sep (h1 _ (List.getElem_mem hi)) (h1 _ (List.getElem_mem hj))
  show ¬ (bitsL ws[i].1 ws[i].2).toArray.toList <+: (bitsL ws[j].1 ws[j].2).toArray.toList
  rcases Nat.lt_or_gt_of_ne hij with h | h
  · exact (key i j hi hj h).no.1
  · exact (key j i hj hi h).no.2
theorem words_rise {ws : List (Nat × Nat)} (h1 : ∀ w ∈ ws, InRoom w) (h2 : ws.Pairwise Ahead) : (ws.map wordS).mergeSort leS = ws.map wordS := by
  refine List.mergeSort_of_pairwise ?_
  rw [List.pairwise_map]
  exact h2.imp_of_mem fun {a b} ha hb h => (h.sep (h1 a ha) (h1 b hb)).le
theorem words_ok {ws : List (Nat × Nat)} (h1 : ∀ w ∈ ws, InRoom w) : ∀ s ∈ ws.map wordS, PyData.strOk s = true ∧ s.length ≤ 1000 := by
  intro s hs
  obtain ⟨w, hw, rfl⟩ := List.mem_map.mp hs
  refine ⟨bitsS_ok _ _, ?_⟩
  have := (h1 w hw).1
  show (bitsS w.1 w.2).length ≤ 1000
  rw [bitsS_len]
  omega
/-- what is taken as lengths of words: whole numbers from 1 to 12, 24 at most, 4096 places at most -/
def lensOk (ds : List PyData) : Option (List Int) := if ds.length ≤ 24 ∧ ds.all (fun d => isNum d 1 12) = true then (match asInts ds with
  | some ns => if (ns.map (plc 12)).sum ≤ 4096 then some ns else none
  | none => none) else none
theorem lensOk_some {ds : List PyData} {ns : List Int} (h : lensOk ds = some ns) : ds = ns.map PyData.int ∧ ns.length ≤ 24 ∧ (∀ k ∈ ns, 1 ≤ k ∧ k ≤ 12) ∧ (ns.map (plc 12)).sum ≤ 4096 := by
  unfold lensOk at h
  by_cases c : ds.length ≤ 24 ∧ ds.all (fun d => isNum d 1 12) = true
  · rw [if_pos c] at h
    obtain ⟨ms, rfl, hms⟩ := all_isNum c.2
    rw [asInts_DI] at h
    dsimp only at h
    by_cases c2 : (ms.map (plc 12)).sum ≤ 4096
    · rw [if_pos c2] at h
      cases h
      exact ⟨rfl, by rw [List.length_map] at c; exact c.1, hms, c2⟩
    · rw [if_neg c2] at h
      cases h
  · rw [if_neg c] at h
    cases h
theorem lensOk_of {ns : List Int} (h1 : ns.length ≤ 24) (h2 : ∀ k ∈ ns, 1 ≤ k ∧ k ≤ 12) (h3 : (ns.map (plc 12)).sum ≤ 4096) : lensOk (ns.map PyData.int) = some ns := by
  unfold lensOk
  rw [if_pos ⟨by rw [List.length_map]; exact h1, by
    rw [List.all_eq_true]
    intro d hd
    obtain ⟨k, hk, rfl⟩ := List.mem_map.mp hd
    exact decide_eq_true (h2 k hk)⟩, asInts_DI]
  dsimp only
  rw [if_pos h3]
def refusedBL : PyData := .tuple [.str (Str.ofString "refused"), .str (Str.ofString "BadLengths")]

theorem kit_list5 (ds : List PyData) : kitB (tyName (.list ds)) "list" = some true := by
  show kitB "list" "list" = some true
  decide +kernel
theorem kit_tup5 (ds : List PyData) : kitB (tyName (.tuple ds)) "list" = some false := by
  show kitB "tuple" "list" = some false
  decide +kernel
theorem shp_odds {ds : List PyData} (h : ∀ d ∈ ds, odd1 d) : shp 2 (.list ds) := shp_list fun d hd => (h d hd).2
theorem shp_refused : shp 1 refusedBL := shp_tup fun d hd => by
  simp only [List.mem_cons, List.not_mem_nil, or_false] at hd
  rcases hd with rfl | rfl <;> exact shp_str _ (by decide +kernel)
theorem allStr_strs : ∀ ss : List Str, allStr (ss.map PyData.str) = some ss
  | [] => rfl
  | s :: r => by
    have ih := allStr_strs r
    unfold allStr at ih ⊢
    rw [List.map_cons, List.mapM_cons, ih]
    rfl
theorem odd_ints (xs : List Int) : ∀ d ∈ xs.map PyData.int, odd1 d := fun d hd => by
  obtain ⟨k, _, rfl⟩ := List.mem_map.mp hd
  exact odd_int k

/-- what a call of the nine refuses, and with which class -/
def askBad (w : Int) (ds : List PyData) (d : PyData) : Option String := if w = 7 then lensBad ds d else if w = 0 then boundBad d else if w = 1 then inBad ds d else roomBad ds d
def takenD : PyData := .tuple [.str (Str.ofString "taken"), .str (Str.ofString "")]
def refusedD (c : String) : PyData := .tuple [.str (Str.ofString "refused"), .str (Str.ofString c)]
def ansD : Option String → PyData
  | none => takenD
  | some c => refusedD c
theorem all_isNumG {lo hi : Int} : ∀ {ds : List PyData}, ds.all (fun d => isNum d lo hi) = true → ∃ ns : List Int, ds = ns.map PyData.int ∧ ∀ k ∈ ns, lo ≤ k ∧ k ≤ hi
  | [], _ => ⟨[], rfl, fun k hk => by cases hk⟩
  | d :: r, h => by
    rw [List.all_cons, Bool.and_eq_true] at h
    obtain ⟨ns, e, hns⟩ := all_isNumG h.2
    cases d with
    | int i =>
      refine ⟨i :: ns, by rw [e, List.map_cons], fun k hk => ?_⟩
      rcases List.mem_cons.mp hk with rfl | hk
      · exact of_decide_eq_true h.1
      · exact hns k hk
    | _ => exact absurd h.1 (by simp [isNum])
theorem wBad_none {ds : List PyData} (h : wBad ds = none) : ∃ ws : List Int, ds = ws.map PyData.int ∧ ws.length ≤ 24 ∧ ∀ w ∈ ws, 0 ≤ w ∧ w ≤ 1000000000000 := by
  unfold wBad at h
  by_cases h1 : 24 < ds.length
  · rw [if_pos h1] at h; cases h
  · rw [if_neg h1] at h
    by_cases h2 : ds.all (fun d => isNum d 0 1000000000000) = true
    · obtain ⟨ws, rfl, hw⟩ := all_isNumG h2
      exact ⟨ws, rfl, by rw [List.length_map] at h1; omega, hw⟩
    · rw [if_neg h2] at h; cases h
theorem inBad_none {ds : List PyData} {d : PyData} (h : inBad ds d = none) : ∃ (ws : List Int) (b : Nat), ds = ws.map PyData.int ∧ d = .int (b : Int) ∧ 1 ≤ b ∧ b ≤ 12 ∧ ws.length ≤ 24 ∧ ∀ w ∈ ws, 0 ≤ w ∧ w ≤ 1000000000000 := by
  unfold inBad at h
  cases e : wBad ds with
  | some c => rw [e] at h; cases h
  | none =>
    rw [e] at h
    obtain ⟨n, rfl, h1, h2⟩ := boundBad_none h
    obtain ⟨ws, rfl, hl, hw⟩ := wBad_none e
    exact ⟨ws, n.toNat, rfl, by rw [show ((n.toNat : Nat) : Int) = n by omega], by omega, by omega, hl, hw⟩
theorem roomBad_none {ds : List PyData} {d : PyData} (h : roomBad ds d = none) : ∃ (ws : List Int) (b : Nat), ds = ws.map PyData.int ∧ d = .int (b : Int) ∧ 1 ≤ b ∧ b ≤ 12 ∧ ws.length ≤ 24 ∧ (∀ w ∈ ws, 0 ≤ w ∧ w ≤ 1000000000000) ∧ ws.length ≤ 2 ^ b := by
  unfold roomBad at h
  cases e : inBad ds d with
  | some c => rw [e] at h; cases h
  | none =>
    obtain ⟨ws, b, rfl, rfl, h1, h2, h3, h4⟩ := inBad_none e
    rw [e] at h
    dsimp only at h
    by_cases c : 2 ^ ((b : Int)).toNat < (ws.map PyData.int).length
    · rw [if_pos c] at h; cases h
    · rw [List.length_map, show ((b : Int)).toNat = b by omega] at c
      exact ⟨ws, b, rfl, rfl, h1, h2, h3, h4, by omega⟩
theorem boundBad_in {d : PyData} {c : String} (h : boundBad d = some c) : c ∈ ex8 := by
  have : c = "BadBound" := by
    unfold boundBad at h
    cases d with
    | int n =>
      dsimp only at h
      split at h
      · cases h
      · exact (Option.some.inj h).symm
    | _ => exact (Option.some.inj h).symm
  subst this
  decide
theorem wBad_in {ds : List PyData} {c : String} (h : wBad ds = some c) : c ∈ ex8 := by
  unfold wBad at h
  split at h
  · cases h; decide
  · split at h
    · cases h
    · cases h; decide
theorem inBad_in {ds : List PyData} {d : PyData} {c : String} (h : inBad ds d = some c) : c ∈ ex8 := by
  unfold inBad at h
  cases e : wBad ds with
  | some c' => rw [e] at h; cases h; exact wBad_in e
  | none => rw [e] at h; exact boundBad_in h
theorem roomBad_in {ds : List PyData} {d : PyData} {c : String} (h : roomBad ds d = some c) : c ∈ ex8 := by
  unfold roomBad at h
  cases e : inBad ds d with
  | some c' => rw [e] at h; cases h; exact inBad_in e
  | none =>
    rw [e] at h
    cases d with
    | int n =>
      dsimp only at h
      split at h
      · cases h; decide
      · cases h
    | _ => cases h
theorem lensBad_in {ds : List PyData} {d : PyData} {c : String} (h : lensBad ds d = some c) : c ∈ ex8 := by
  unfold lensBad at h
  cases d with
  | int n =>
    dsimp only at h
    split at h
    · split at h
      · cases h; decide
      · split at h
        · cases h
        · cases h; decide
    · cases h; decide
  | _ => cases h; decide
theorem askBad_in {w : Int} {ds : List PyData} {d : PyData} {c : String} (h : askBad w ds d = some c) : c ∈ ex8 := by
  unfold askBad at h
  split at h
  · exact lensBad_in h
  · split at h
    · exact boundBad_in h
    · split at h
      · exact inBad_in h
      · exact roomBad_in h
theorem shp_two {a b : Str} (ha : PyData.strOk a = true) (hb : PyData.strOk b = true) : shp 1 (.tuple [.str a, .str b]) := shp_tup fun d hd => by
  simp only [List.mem_cons, List.not_mem_nil, or_false] at hd
  rcases hd with rfl | rfl
  · exact shp_str _ ha
  · exact shp_str _ hb
theorem shp_ans {o : Option String} (h : ∀ c, o = some c → c ∈ ex8) : shp 1 (ansD o) := by
  cases o with
  | none => exact shp_two (by decide +kernel) (by decide +kernel)
  | some c =>
    have hc := h c rfl
    simp only [ex8, List.mem_cons, List.not_mem_nil, or_false] at hc
    rcases hc with rfl | rfl | rfl | rfl | rfl | rfl | rfl | rfl <;> exact shp_two (by decide +kernel) (by decide +kernel)

/-! written: slots 0:words 1:row 2:sign -/
def g_written : SE := (sSeq (sDropX (xCall M_need_words (rL (lVar 0) rNil)))
  (sSeq (sFor (sVar 1) (tgN 2) [2] (sIf (bNot (bOf (eX (xCall M_is_number (rV (eVar 2) (rV (eC (.int 0)) (rV (eOp oSub (eLenV (rVar 0)) (eC (.int 1))) rNil))))))) (sRaise "NoSign") sNext))
  (sRet (eJoin (eC (.str (Str.ofString ""))) (lComp (lVar 1) (tgN 2) [2] bYes (eIx (lVar 0) (eVar 2)))))))
def F_written : FN := runF 2 3 g_written
theorem ex_written : ∃ M : FN, M = F_written := ⟨_, rfl⟩
def M_written : FN := ex_written.choose
theorem M_written_eq : M_written = F_written := ex_written.choose_spec
theorem ok_written : ∀ as : List SL, as.length = 2 → M_written as ≠ .stuck → F_written as = M_written as := fun _ _ _ => by rw [M_written_eq]
/-- the bits of a row -/
def joinW (ws : List Str) (ks : List Int) : Str := Txt.join (Str.ofString "") (ks.map fun k => ws.getD k.toNat Str.empty)
theorem sum_le12 : ∀ {ss : List Str}, (∀ s ∈ ss, s.length ≤ 12) → (ss.map (·.length)).sum ≤ 12 * ss.length
  | [], _ => by simp
  | s :: r, h => by
    have := sum_le12 (ss := r) fun x hx => h x (List.mem_cons_of_mem _ hx)
    have := h s List.mem_cons_self
    rw [List.map_cons, List.sum_cons, List.length_cons]
    omega
theorem getW {ws : List Str} (g : GoodW ws) {k : Int} (h0 : 0 ≤ k) (h1 : k < ws.length) : ws.getD k.toNat Str.empty ∈ ws ∧ atI (ws.map PyData.str) k = some (.str (ws.getD k.toNat Str.empty)) := by
  have hk : k.toNat < ws.length := by omega
  have e : ws.getD k.toNat Str.empty = ws[k.toNat] := by rw [List.getD_eq_getElem?_getD, List.getElem?_eq_getElem hk]; rfl
  rw [e]
  refine ⟨List.getElem_mem hk, ?_⟩
  have := atI_nat (xs := ws.map PyData.str) (j := k.toNat) (v := .str ws[k.toNat]) (by rw [List.getElem?_map, List.getElem?_eq_getElem hk]; rfl)
  rw [show ((k.toNat : Nat) : Int) = k by omega] at this
  exact this
theorem join_ok {ρ : Env} {ws : List Str} {ks : List Int} {i : Nat} (g : GoodW ws) (hk : ∀ k ∈ ks, 0 ≤ k ∧ k < ws.length) (hl : ks.length ≤ 1000) (h1 : lVar 1 ρ = .ok (ks.map PyData.int)) (h0 : ∀ d, lVar 0 ((wp [2] ρ).set 2 (some (.fz d))) = .ok (ws.map PyData.str)) (h2 : ∀ d, eVar 2 ((wp [2] ρ).set 2 (some (.fz d))) = .ok d) :
    eJoin (eC (.str (Str.ofString ""))) (lComp (lVar 1) (tgN 2) [2] bYes (eIx (lVar 0) (eVar 2))) ρ = .ok (.str (joinW ws ks)) := by
  have hc : lComp (lVar 1) (tgN 2) [2] bYes (eIx (lVar 0) (eVar 2)) ρ = .ok ((ks.map fun k => ws.getD k.toNat Str.empty).map PyData.str) := by
    rw [lComp_map (fun d => match d with
      | .int k => .str (ws.getD k.toNat Str.empty)
      | d => d) h1 (by rw [List.length_map]; omega) (fun d hd => by
        obtain ⟨k, hkm, rfl⟩ := List.mem_map.mp hd
        exact ⟨_, rfl, rfl, eIx_ok (h0 _) (h2 _) (getW g (hk k hkm).1 (hk k hkm).2).2⟩)]
    rw [List.map_map, List.map_map]
    rfl
  have hs : ((ks.map fun k => ws.getD k.toNat Str.empty).map (·.length)).sum ≤ 12 * ks.length := by
    have := sum_le12 (ss := ks.map fun k => ws.getD k.toNat Str.empty) fun s hs => by
      obtain ⟨k, hkm, rfl⟩ := List.mem_map.mp hs
      exact (g.wd _ (getW g (hk k hkm).1 (hk k hkm).2).1).1.2
    rw [List.length_map] at this
    exact this
  unfold eJoin
  rw [eC_ap, Out.bind_ok]
  dsimp only
  rw [hc, Out.bind_ok]
  unfold joinOf
  rw [allStr_map]
  dsimp only
  rw [if_pos (by rw [show (Str.ofString "").length = 0 from rfl, Nat.mul_zero, Nat.add_zero]; omega)]
  rfl
theorem numE {ws : List Str} {row : List PyData} {d : PyData} (h : noDict d = true) : eX (xCall M_is_number (rV (eVar 2) (rV (eC (.int 0)) (rV (eOp oSub (eLenV (rVar 0)) (eC (.int 1))) rNil)))) [some (.bw (ws.map PyData.str)), some (.bw row), some (.fz d)] = .ok (.bool (isNum d 0 ((ws.length : Int) - 1))) := eX_val (by
  rw [xCall_ap, rV_ap, rV_ap, rV_ap, show eLenV (rVar 0) = eLenV (rVar 0) from rfl, eOp_ap, show eLenV (rVar 0) [some (.bw (ws.map PyData.str)), some (.bw row), some (.fz d)] = .ok (.int (((ws.map PyData.str).length : Nat) : Int)) from rfl, List.length_map]
  show M_is_number [.fz d, .fz (.int 0), .fz (.int ((ws.length : Int) - 1))] = _
  unfold M_is_number
  dsimp only
  rw [if_pos h])
abbrev bodyWr : SE := sIf (bNot (bOf (eX (xCall M_is_number (rV (eVar 2) (rV (eC (.int 0)) (rV (eOp oSub (eLenV (rVar 0)) (eC (.int 1))) rNil))))))) (sRaise "NoSign") sNext
theorem g_written_eq : g_written = sSeq (sDropX (xCall M_need_words (rL (lVar 0) rNil))) (sSeq (sFor (sVar 1) (tgN 2) [2] bodyWr) (sRet (eJoin (eC (.str (Str.ofString ""))) (lComp (lVar 1) (tgN 2) [2] bYes (eIx (lVar 0) (eVar 2)))))) := rfl
theorem M_written_bad {ds row : List PyData} (hx : ∀ d ∈ ds, okX d) (hl : ds.length ≤ 1000) (h : ¬ GoodD ds) : M_written [.bw ds, .bw row] = .exc "BadWords" := by
  have hn := M_need_words_bad hx hl h
  rw [M_written_eq]
  unfold F_written
  rw [g_written_eq]
  refine runF_ex [some (.bw ds), some (.bw row), none] rfl rfl (ρ' := [some (.bw ds), some (.bw row), none]) (seq_ex ?_)
  rw [sDropX_ap, xCall_ap]
  show wOut (M_need_words [.bw ds]) _ _ = _
  rw [hn]
  rfl
theorem wr0 {ws : List Str} {row : List PyData} (g : GoodW ws) : sDropX (xCall M_need_words (rL (lVar 0) rNil)) [some (.bw (ws.map PyData.str)), some (.bw row), none] = .nx [some (.bw (ws.map PyData.str)), some (.bw row), none] := by
  have hn := M_need_words_good ⟨ws, rfl, g⟩
  rw [sDropX_ap, xCall_ap]
  show wOut (M_need_words [.bw (ws.map PyData.str)]) _ _ = _
  rw [hn]
  rfl
theorem M_written_good {ws : List Str} {ks : List Int} (g : GoodW ws) (hk : ∀ k ∈ ks, 0 ≤ k ∧ k < ws.length) (hl : ks.length ≤ 1000) : M_written [.bw (ws.map PyData.str), .bw (ks.map PyData.int)] = .ok (.val (.str (joinW ws ks))) := by
  rw [M_written_eq]
  unfold F_written
  rw [g_written_eq]
  refine runF_rt [some (.bw (ws.map PyData.str)), some (.bw (ks.map PyData.int)), none] rfl rfl (ρ' := [some (.bw (ws.map PyData.str)), some (.bw (ks.map PyData.int)), none]) ?_
  have hj := join_ok (ρ := [some (.bw (ws.map PyData.str)), some (.bw (ks.map PyData.int)), none]) (i := 0) g hk hl rfl (fun _ => rfl) (fun _ => rfl)
  rw [seq_nx (wr0 g), seq_nx ((for_of rfl).trans (forGo_pass _ fun d hd => by
    obtain ⟨k, hkm, rfl⟩ := List.mem_map.mp hd
    refine (turn_nx (ρ1 := [some (.bw (ws.map PyData.str)), some (.bw (ks.map PyData.int)), some (.fz (.int k))]) (ρ2 := [some (.bw (ws.map PyData.str)), some (.bw (ks.map PyData.int)), some (.fz (.int k))]) rfl ?_).trans rfl
    have hkk := hk k hkm
    unfold bodyWr
    rw [sIf_ap, bNot_ap, bOf_ap, numE rfl, isNum_int, decide_eq_true (by omega)]
    rfl)), sRet_ap, hj]
  rfl
theorem M_written_no {ws : List Str} {row : List PyData} (g : GoodW ws) (hd : ∀ d ∈ row, noDict d = true) (hb : ∃ d ∈ row, isNum d 0 ((ws.length : Int) - 1) = false) : M_written [.bw (ws.map PyData.str), .bw row] = .exc "NoSign" := by
  rw [M_written_eq]
  unfold F_written
  rw [g_written_eq]
  have ht : ∀ d ∈ row, isNum d 0 ((ws.length : Int) - 1) = false → ∃ ρ', turn (tgN 2) [2] bodyWr d [some (.bw (ws.map PyData.str)), some (.bw row), none] = .ex "NoSign" ρ' := fun d hdm e => turn_ex' (ρ1 := [some (.bw (ws.map PyData.str)), some (.bw row), some (.fz d)]) rfl ⟨[some (.bw (ws.map PyData.str)), some (.bw row), some (.fz d)], by
    unfold bodyWr
    rw [sIf_ap, bNot_ap, bOf_ap, numE (hd d hdm), e]
    rfl⟩
  obtain ⟨d, hdm, e⟩ := hb
  obtain ⟨ρ', e2⟩ := forGo_ex_some (tg := tgN 2) (ws := [2]) (body := bodyWr) (ρ := [some (.bw (ws.map PyData.str)), some (.bw row), none]) (n := "NoSign") (ds := row) (fun d hdm => by
    cases e : isNum d 0 ((ws.length : Int) - 1) with
    | false => exact .inr (ht d hdm e)
    | true =>
      refine .inl ((turn_nx (ρ1 := [some (.bw (ws.map PyData.str)), some (.bw row), some (.fz d)]) (ρ2 := [some (.bw (ws.map PyData.str)), some (.bw row), some (.fz d)]) rfl ?_).trans rfl)
      unfold bodyWr
      rw [sIf_ap, bNot_ap, bOf_ap, numE (hd d hdm), e]
      rfl) ⟨d, hdm, ht d hdm e⟩
  refine runF_ex [some (.bw (ws.map PyData.str)), some (.bw row), none] rfl rfl (ρ' := ρ') ?_
  rw [seq_nx (wr0 g)]
  exact seq_ex ((for_of rfl).trans e2)

/-! law_written: slots 0:_law_words_here 1:_law_row_here 2:_law_sign -/
def g_law_written : SE := (sSeq (sFor (sVar 1) (tgN 2) [2] (sIf (bOr (bNot (bOf (eX (xCall M_law_whole (rV (eVar 2) rNil))))) (bOr (bOf (eOp oLt (eVar 2) (eC (.int 0)))) (bOf (eOp oGe (eVar 2) (eLenV (rVar 0)))))) (sRet (eTup [(eC (.str (Str.ofString "refused"))), (eC (.str (Str.ofString "NoSign")))])) sNext))
  (sRet (eTup [(eC (.str (Str.ofString "text"))), (eJoin (eC (.str (Str.ofString ""))) (lComp (lVar 1) (tgN 2) [2] bYes (eIx (lVar 0) (eVar 2))))])))
def F_law_written : FN := runF 2 3 g_law_written
theorem ex_law_written : ∃ M : FN, M = F_law_written := ⟨_, rfl⟩
def M_law_written : FN := ex_law_written.choose
theorem M_law_written_eq : M_law_written = F_law_written := ex_law_written.choose_spec
theorem ok_law_written : ∀ as : List SL, as.length = 2 → M_law_written as ≠ .stuck → F_law_written as = M_law_written as := fun _ _ _ => by rw [M_law_written_eq]
def textD (s : Str) : PyData := .tuple [.str (Str.ofString "text"), .str s]
def refD (n : String) : PyData := .tuple [.str (Str.ofString "refused"), .str (Str.ofString n)]
abbrev bodyLw : SE := sIf (bOr (bNot (bOf (eX (xCall M_law_whole (rV (eVar 2) rNil))))) (bOr (bOf (eOp oLt (eVar 2) (eC (.int 0)))) (bOf (eOp oGe (eVar 2) (eLenV (rVar 0)))))) (sRet (eTup [(eC (.str (Str.ofString "refused"))), (eC (.str (Str.ofString "NoSign")))])) sNext
theorem g_law_written_eq : g_law_written = sSeq (sFor (sVar 1) (tgN 2) [2] bodyLw) (sRet (eTup [(eC (.str (Str.ofString "text"))), (eJoin (eC (.str (Str.ofString ""))) (lComp (lVar 1) (tgN 2) [2] bYes (eIx (lVar 0) (eVar 2))))])) := rfl
theorem lw_body {ws : List Str} {row : List PyData} {d : PyData} (h : noDict d = true) : bodyLw [some (.bw (ws.map PyData.str)), some (.bw row), some (.fz d)] = if isNum d 0 ((ws.length : Int) - 1) = true then .nx [some (.bw (ws.map PyData.str)), some (.bw row), some (.fz d)] else .rt (.val (refD "NoSign")) [some (.bw (ws.map PyData.str)), some (.bw row), some (.fz d)] := by
  have hw : M_law_whole [.fz d] = .ok (.val (.bool (isWhole d))) := by
    unfold M_law_whole
    dsimp only
    rw [if_pos h]
  unfold bodyLw
  cases d with
  | int k =>
    have hw2 : M_law_whole [.fz (.int k)] = .ok (.val (.bool true)) := hw
    by_cases c1 : k < 0
    · rw [if_neg (by rw [isNum_int, decide_eq_true_iff]; omega)]
      simp [hw2, c1, refD]
    · by_cases c2 : (ws.length : Int) ≤ k
      · rw [if_neg (by rw [isNum_int, decide_eq_true_iff]; omega)]
        simp [hw2, c1, c2, refD]
      · rw [if_pos (by rw [isNum_int, decide_eq_true_iff]; omega)]
        simp [hw2, c1, c2]
  | dict _ => cases h
  | _ =>
    rw [if_neg (by simp)]
    simp [hw, isWhole, refD]
theorem M_law_written_good {ws : List Str} {ks : List Int} (g : GoodW ws) (hk : ∀ k ∈ ks, 0 ≤ k ∧ k < ws.length) (hl : ks.length ≤ 1000) : M_law_written [.bw (ws.map PyData.str), .bw (ks.map PyData.int)] = .ok (.val (textD (joinW ws ks))) := by
  rw [M_law_written_eq]
  unfold F_law_written
  rw [g_law_written_eq]
  refine runF_rt [some (.bw (ws.map PyData.str)), some (.bw (ks.map PyData.int)), none] rfl rfl (ρ' := [some (.bw (ws.map PyData.str)), some (.bw (ks.map PyData.int)), none]) ?_
  have hj := join_ok (ρ := [some (.bw (ws.map PyData.str)), some (.bw (ks.map PyData.int)), none]) (i := 0) g hk hl rfl (fun _ => rfl) (fun _ => rfl)
  rw [seq_nx ((for_of rfl).trans (forGo_pass _ fun d hd => by
    obtain ⟨k, hkm, rfl⟩ := List.mem_map.mp hd
    have hkk := hk k hkm
    refine (turn_nx (ρ1 := [some (.bw (ws.map PyData.str)), some (.bw (ks.map PyData.int)), some (.fz (.int k))]) (ρ2 := [some (.bw (ws.map PyData.str)), some (.bw (ks.map PyData.int)), some (.fz (.int k))]) rfl ?_).trans rfl
    rw [lw_body rfl, if_pos (by rw [isNum_int, decide_eq_true_iff]; omega)])), sRet_ap, eTup_ap, aAll_cons, eC_ap, Out.bind_ok, aAll_cons, hj]
  rfl
theorem M_law_written_no {ws : List Str} {row : List PyData} (hd : ∀ d ∈ row, noDict d = true) (hb : ∃ d ∈ row, isNum d 0 ((ws.length : Int) - 1) = false) : M_law_written [.bw (ws.map PyData.str), .bw row] = .ok (.val (refD "NoSign")) := by
  rw [M_law_written_eq]
  unfold F_law_written
  rw [g_law_written_eq]
  have ht : ∀ d ∈ row, isNum d 0 ((ws.length : Int) - 1) = false → ∃ ρ', turn (tgN 2) [2] bodyLw d [some (.bw (ws.map PyData.str)), some (.bw row), none] = .rt (.val (refD "NoSign")) ρ' := fun d hdm e => turn_rt' (ρ1 := [some (.bw (ws.map PyData.str)), some (.bw row), some (.fz d)]) rfl ⟨_, by rw [lw_body (hd d hdm), if_neg (by rw [e]; decide)]⟩
  obtain ⟨d, hdm, e⟩ := hb
  obtain ⟨ρ', e2⟩ := forGo_rt_some (tg := tgN 2) (ws := [2]) (body := bodyLw) (ρ := [some (.bw (ws.map PyData.str)), some (.bw row), none]) (n := .val (refD "NoSign")) (ds := row) (fun d hdm => by
    cases e : isNum d 0 ((ws.length : Int) - 1) with
    | false => exact .inr (ht d hdm e)
    | true =>
      refine .inl ((turn_nx (ρ1 := [some (.bw (ws.map PyData.str)), some (.bw row), some (.fz d)]) (ρ2 := [some (.bw (ws.map PyData.str)), some (.bw row), some (.fz d)]) rfl ?_).trans rfl)
      rw [lw_body (hd d hdm), if_pos e]) ⟨d, hdm, ht d hdm e⟩
  exact runF_rt [some (.bw (ws.map PyData.str)), some (.bw row), none] rfl rfl (ρ' := ρ') (seq_rt ((for_of rfl).trans e2))

/-! law_read: slots 0:_law_words_here 1:_law_bits 2:_law_signs 3:_law_word 4:_law_bit 5:_law_one -/
def g_law_read : SE := (sSeq (sSetL 2 (lLst []))
  (sSeq (sSet 3 (eC (.str (Str.ofString ""))))
  (sSeq (sFor (wStr (eVar 1)) (tgN 4) [4] (sSeq (sSet 3 (eOp oCatS (eVar 3) (eVar 4)))
  (sIf (bOf (eInL false (eVar 3) (lVar 0))) (sSeq (sApp 2 (eIndex (lVar 0) (eVar 3)))
  (sSet 3 (eC (.str (Str.ofString ""))))) (sIf (bOf (eOp oEq (eOfL (lComp (lVar 0) (tgN 5) [5] (bOf (eOp oEq (eSlS (eVar 5) oNo (oPart (eLenV (rVar 3)))) (rVar 3))) (eVar 5))) (eOfL (lLst [])))) (sRet (eTup [(eC (.str (Str.ofString "refused"))), (eC (.str (Str.ofString "BadBits")))])) sNext))))
  (sSeq (sIf (bOf (eOp oNe (rVar 3) (eC (.str (Str.ofString ""))))) (sRet (eTup [(eC (.str (Str.ofString "refused"))), (eC (.str (Str.ofString "BadBits")))])) sNext)
  (sRetO 2)))))
def F_law_read : FN := runF 2 6 g_law_read
theorem ex_law_read : ∃ M : FN, M = F_law_read := ⟨_, rfl⟩
def M_law_read : FN := ex_law_read.choose
theorem M_law_read_eq : M_law_read = F_law_read := ex_law_read.choose_spec
theorem ok_law_read : ∀ as : List SL, as.length = 2 → M_law_read as ≠ .stuck → F_law_read as = M_law_read as := fun _ _ _ => by rw [M_law_read_eq]
/-- what a reading of one's own tells -/
def readD (ws : List Str) (z : Str) : RV := match readGo ws z.cps.toList Str.empty [] with
  | some (b, ss) => if b = Str.empty then .fresh (ss.map PyData.int) else .val (refD "BadBits")
  | none => .val (refD "BadBits")
abbrev envLr (ws : List Str) (z : Str) (ss : List Int) (b : Str) (x : Option SL) : Env := [some (.bw (ws.map PyData.str)), some (.fz (.str z)), some (.ow (ss.map PyData.int)), some (.fz (.str b)), x, none]
abbrev retBad : SE := sRet (eTup [(eC (.str (Str.ofString "refused"))), (eC (.str (Str.ofString "BadBits")))])
abbrev noneOn : BE := bOf (eOp oEq (eOfL (lComp (lVar 0) (tgN 5) [5] (bOf (eOp oEq (eSlS (eVar 5) oNo (oPart (eLenV (rVar 3)))) (rVar 3))) (eVar 5))) (eOfL (lLst [])))
abbrev bodyLr : SE := (sSeq (sSet 3 (eOp oCatS (eVar 3) (eVar 4)))
  (sIf (bOf (eInL false (eVar 3) (lVar 0))) (sSeq (sApp 2 (eIndex (lVar 0) (eVar 3)))
  (sSet 3 (eC (.str (Str.ofString ""))))) (sIf noneOn retBad sNext)))
theorem g_law_read_eq : g_law_read = (sSeq (sSetL 2 (lLst []))
  (sSeq (sSet 3 (eC (.str (Str.ofString ""))))
  (sSeq (sFor (wStr (eVar 1)) (tgN 4) [4] bodyLr)
  (sSeq (sIf (bOf (eOp oNe (rVar 3) (eC (.str (Str.ofString ""))))) retBad sNext)
  (sRetO 2))))) := rfl
theorem strOk_cat {a b : Str} (ha : PyData.strOk a = true) (hb : PyData.strOk b = true) : PyData.strOk (a ++ b) = true := by
  unfold PyData.strOk at ha hb ⊢
  show (a.cps ++ b.cps).all _ = true
  rw [Array.all_append, ha, hb]
  rfl
theorem strOk_one {z : Str} (h : PyData.strOk z = true) {c : Nat} (hc : c ∈ z.cps.toList) : PyData.strOk ⟨#[c]⟩ = true := by
  unfold PyData.strOk at h ⊢
  rw [← Array.all_toList, List.all_eq_true] at h
  rw [← Array.all_toList, List.all_eq_true]
  intro x hx
  rw [List.mem_singleton.mp hx]
  exact h c hc
theorem cat_toList (a b : Str) : (a ++ b).cps.toList = a.cps.toList ++ b.cps.toList := by
  show (a.cps ++ b.cps).toList = _
  rw [Array.toList_append]
theorem strOk_e : PyData.strOk Str.empty = true := by decide +kernel
/-- none of the words goes on so -/
theorem noneOn_ok {ws : List Str} {z b : Str} {ss : List Int} {x : Option SL} (g : GoodW ws) (hb : PyData.strOk b = true) (hl : b.length ≤ 1000000) : noneOn (envLr ws z ss b x) = .ok (!ws.any fun w => Txt.startswith w b) := by
  have hc : lComp (lVar 0) (tgN 5) [5] (bOf (eOp oEq (eSlS (eVar 5) oNo (oPart (eLenV (rVar 3)))) (rVar 3))) (eVar 5) (envLr ws z ss b x) = .ok ((ws.filter fun w => Txt.startswith w b).map PyData.str) := by
    rw [lComp_filter (fun d => match d with
      | .str w => Txt.startswith w b
      | _ => false) (fun d => d) (ds := ws.map PyData.str) rfl (by rw [List.length_map]; have := g.len; omega) (fun d hd => by
        obtain ⟨w, hw, rfl⟩ := List.mem_map.mp hd
        have hwd := g.wd w hw
        refine ⟨_, rfl, ?_, fun _ => rfl⟩
        have hs : eSlS (eVar 5) oNo (oPart (eLenV (rVar 3))) [some (.bw (ws.map PyData.str)), some (.fz (.str z)), some (.ow (ss.map PyData.int)), some (.fz (.str b)), x, some (.fz (.str w))] = .ok (.str ⟨(w.cps.toList.take b.length).toArray⟩) := by
          unfold eSlS
          rw [show eVar 5 [some (.bw (ws.map PyData.str)), some (.fz (.str z)), some (.ow (ss.map PyData.int)), some (.fz (.str b)), x, some (.fz (.str w))] = .ok (.str w) from rfl, Out.bind_ok, oNo_ap, Out.bind_ok, oPart_ok (i := ((b.length : Nat) : Int)) (by rw [eLenV_ap]; show lenOf (.str b) = _; exact lenOf_s hl), Out.bind_ok]
          dsimp only
          rw [if_pos (by have := hwd.1; omega), cutS_z]
        show bOf (eOp oEq (eSlS (eVar 5) oNo (oPart (eLenV (rVar 3)))) (rVar 3)) [some (.bw (ws.map PyData.str)), some (.fz (.str z)), some (.ow (ss.map PyData.int)), some (.fz (.str b)), x, some (.fz (.str w))] = _
        rw [bOf_ap, eOp_ap, hs, Out.bind_ok, show rVar 3 [some (.bw (ws.map PyData.str)), some (.fz (.str z)), some (.ow (ss.map PyData.int)), some (.fz (.str b)), x, some (.fz (.str w))] = .ok (.str b) from rfl, Out.bind_ok, oEq_s (strOk_take (okWd_ok hwd) _) hb, Out.bind_ok]
        show Out.ok (decide ((⟨(w.cps.toList.take b.length).toArray⟩ : Str) = b)) = Out.ok (Txt.startswith w b)
        congr 1
        have hbl : b.length = b.cps.toList.length := by simp; rfl
        rw [Bool.eq_iff_iff, decide_eq_true_iff, starts_pre, List.prefix_iff_eq_take, ← hbl]
        constructor
        · intro e
          have := congrArg (fun s : Str => s.cps.toList) e
          dsimp only at this
          exact this.symm
        · intro e
          rw [← e])]
    rw [List.map_id', List.filter_map]
    rfl
  unfold noneOn
  rw [bOf_ap, eOp_ap, eOfL_ap, hc, Out.bind_ok, Out.bind_ok, eOfL_ap, lLst_ap, aAll_nil, Out.bind_ok, Out.bind_ok, oEq_nil (shp_strs 0 fun s hs => okWd_ok (g.wd s (List.mem_filter.mp hs).1)), Out.bind_ok]
  show Out.ok (((ws.filter fun w => Txt.startswith w b).map PyData.str).isEmpty) = Out.ok (!ws.any fun w => Txt.startswith w b)
  congr 1
  rw [Bool.eq_iff_iff, List.isEmpty_iff, List.map_eq_nil_iff, List.filter_eq_nil_iff, Bool.not_eq_true', Bool.eq_false_iff, ne_eq, List.any_eq_true]
  exact ⟨fun h ⟨w, hw, e⟩ => h w hw e, fun h w hw e => h ⟨w, hw, e⟩⟩
theorem not_bit {ws : List Str} (g : GoodW ws) {b : Str} {c : Nat} (hc : ¬ (c = 48 ∨ c = 49)) : b ++ (⟨#[c]⟩ : Str) ∉ ws ∧ (ws.any fun w => Txt.startswith w (b ++ ⟨#[c]⟩)) = false := by
  have hin : c ∈ (b ++ (⟨#[c]⟩ : Str)).cps.toList := by rw [cat_toList]; exact List.mem_append.mpr (.inr List.mem_cons_self)
  refine ⟨fun h => hc ((g.wd _ h).2 c hin), ?_⟩
  rw [Bool.eq_false_iff, ne_eq, List.any_eq_true]
  rintro ⟨w, hw, e⟩
  rw [starts_pre] at e
  exact hc ((g.wd w hw).2 c (e.subset hin))
theorem one_str {c : Nat} : (((⟨#[c]⟩ : Str) ≠ "0" ∧ (⟨#[c]⟩ : Str) ≠ "1")) ↔ ¬ (c = 48 ∨ c = 49) := by
  have e : ∀ k : Nat, (⟨#[c]⟩ : Str) = ⟨#[k]⟩ ↔ c = k := fun k => ⟨fun h => by
    have := congrArg (fun s : Str => s.cps.toList) h
    simpa using this, fun h => by rw [h]⟩
  have e0 : ("0" : Str) = ⟨#[48]⟩ := rfl
  have e1 : ("1" : Str) = ⟨#[49]⟩ := rfl
  rw [e0, e1, ne_eq, ne_eq, e, e, not_or]
theorem turnLr {ws : List Str} {z b : Str} {ss : List Int} {c : Nat} (g : GoodW ws) (hz : PyData.strOk z = true) (hc : c ∈ z.cps.toList) (hb : PyData.strOk b = true) (hl : b.length < 900000) (hs : ss.length < 900000) :
    turn (tgN 4) [4] bodyLr (.str ⟨#[c]⟩) (envLr ws z ss b none) = match takeO ws b ⟨#[c]⟩ with
      | .got k => .nx (envLr ws z (ss ++ [(k : Int)]) Str.empty none)
      | .more => .nx (envLr ws z ss (b ++ ⟨#[c]⟩) none)
      | .bad => .rt (.val (refD "BadBits")) (envLr ws z ss (b ++ ⟨#[c]⟩) (some (.fz (.str ⟨#[c]⟩)))) := by
  have hbc := strOk_cat hb (strOk_one hz hc)
  have hlc : (b ++ (⟨#[c]⟩ : Str)).length = b.length + 1 := by
    show (b.cps ++ #[c]).size = b.cps.size + 1
    simp
  have hno := noneOn_ok (z := z) (ss := ss) (x := some (.fz (.str ⟨#[c]⟩))) g hbc (by omega)
  have h1 : sSet 3 (eOp oCatS (eVar 3) (eVar 4)) (envLr ws z ss b (some (.fz (.str ⟨#[c]⟩)))) = .nx (envLr ws z ss (b ++ ⟨#[c]⟩) (some (.fz (.str ⟨#[c]⟩)))) := by
    rw [sSet_ap, eOp_ap]
    show wOut (oCatS (.str b) (.str ⟨#[c]⟩)) _ _ = _
    unfold oCatS
    dsimp only
    rw [if_pos (by show b.length + 1 ≤ 1000000; omega)]
    rfl
  have h2 : bOf (eInL false (eVar 3) (lVar 0)) (envLr ws z ss (b ++ ⟨#[c]⟩) (some (.fz (.str ⟨#[c]⟩)))) = .ok (decide (b ++ ⟨#[c]⟩ ∈ ws)) := by
    rw [bOf_ap]
    have : eInL false (eVar 3) (lVar 0) (envLr ws z ss (b ++ ⟨#[c]⟩) (some (.fz (.str ⟨#[c]⟩)))) = .ok (.bool (decide (b ++ ⟨#[c]⟩ ∈ ws))) := by
      show (match PyData.str (b ++ ⟨#[c]⟩), allStr (ws.map PyData.str) with
        | .str x, some ss => Out.ok (PyData.bool (if false = true then !decide (x ∈ ss) else decide (x ∈ ss)))
        | _, _ => .stuck) = _
      rw [allStr_map]
      rfl
    rw [this]
    rfl
  by_cases hbit : c = 48 ∨ c = 49
  · have n0 : ¬ ((⟨#[c]⟩ : Str) ≠ "0" ∧ (⟨#[c]⟩ : Str) ≠ "1") := fun y => one_str.mp y hbit
    by_cases hm : b ++ ⟨#[c]⟩ ∈ ws
    · have ht : takeO ws b ⟨#[c]⟩ = .got (ws.findIdx fun y => decide (y = b ++ ⟨#[c]⟩)) := by unfold takeO; rw [if_neg n0, if_pos hm]
      rw [ht]
      refine (turn_nx (ρ1 := envLr ws z ss b (some (.fz (.str ⟨#[c]⟩)))) (ρ2 := envLr ws z (ss ++ [((ws.findIdx fun y => decide (y = b ++ ⟨#[c]⟩) : Nat) : Int)]) Str.empty (some (.fz (.str ⟨#[c]⟩)))) rfl ?_).trans rfl
      unfold bodyLr
      rw [seq_nx h1, sIf_ap, h2, wOut_ok, decide_eq_true hm, if_pos rfl]
      have hi : eIndex (lVar 0) (eVar 3) (envLr ws z ss (b ++ ⟨#[c]⟩) (some (.fz (.str ⟨#[c]⟩)))) = .ok (.int ((ws.findIdx fun y => decide (y = b ++ ⟨#[c]⟩) : Nat) : Int)) := by
        show (match PyData.str (b ++ ⟨#[c]⟩), allStr (ws.map PyData.str) with
          | .str x, some ss => if x ∈ ss then Out.ok (PyData.int ((ss.findIdx fun y => decide (y = x) : Nat) : Int)) else .stuck
          | _, _ => .stuck) = _
        rw [allStr_map]
        dsimp only
        rw [if_pos hm]
      rw [seq_nx (ρ' := envLr ws z (ss ++ [((ws.findIdx fun y => decide (y = b ++ ⟨#[c]⟩) : Nat) : Int)]) (b ++ ⟨#[c]⟩) (some (.fz (.str ⟨#[c]⟩)))) (by
        show wOut (eIndex (lVar 0) (eVar 3) (envLr ws z ss (b ++ ⟨#[c]⟩) (some (.fz (.str ⟨#[c]⟩))))) _ (fun d => if (ss.map PyData.int).length < 1000000 then _ else _) = _
        rw [hi, wOut_ok, if_pos (by rw [List.length_map]; omega)]
        unfold envLr
        rw [List.map_append]
        rfl)]
      rfl
    · have hnx : (ws.any fun w => Txt.startswith w (b ++ ⟨#[c]⟩)) = true → takeO ws b ⟨#[c]⟩ = .more := fun hy => by unfold takeO; rw [if_neg n0, if_neg hm, if_pos hy]
      cases hy : (ws.any fun w => Txt.startswith w (b ++ ⟨#[c]⟩)) with
      | true =>
        rw [hnx hy]
        refine (turn_nx (ρ1 := envLr ws z ss b (some (.fz (.str ⟨#[c]⟩)))) (ρ2 := envLr ws z ss (b ++ ⟨#[c]⟩) (some (.fz (.str ⟨#[c]⟩)))) rfl ?_).trans rfl
        unfold bodyLr
        rw [seq_nx h1, sIf_ap, h2, wOut_ok, decide_eq_false hm, if_neg (by decide), sIf_ap, hno, hy, wOut_ok]
        rfl
      | false =>
        have ht : takeO ws b ⟨#[c]⟩ = .bad := by unfold takeO; rw [if_neg n0, if_neg hm, if_neg (by rw [hy]; decide)]
        rw [ht]
        refine turn_rt (ρ1 := envLr ws z ss b (some (.fz (.str ⟨#[c]⟩)))) rfl ?_
        unfold bodyLr
        rw [seq_nx h1, sIf_ap, h2, wOut_ok, decide_eq_false hm, if_neg (by decide), sIf_ap, hno, hy, wOut_ok]
        rfl
  · obtain ⟨hm, hy⟩ := not_bit (b := b) g hbit
    have ht : takeO ws b ⟨#[c]⟩ = .bad := by unfold takeO; rw [if_pos (one_str.mpr hbit)]
    rw [ht]
    refine turn_rt (ρ1 := envLr ws z ss b (some (.fz (.str ⟨#[c]⟩)))) rfl ?_
    unfold bodyLr
    rw [seq_nx h1, sIf_ap, h2, wOut_ok, decide_eq_false hm, if_neg (by decide), sIf_ap, hno, hy, wOut_ok]
    rfl
theorem loopLr {ws : List Str} {z : Str} (g : GoodW ws) (hz : PyData.strOk z = true) : ∀ (cs : List Nat), (∀ c ∈ cs, c ∈ z.cps.toList) → ∀ (b : Str) (ss : List Int), PyData.strOk b = true → b.length + cs.length < 900000 → ss.length + cs.length < 900000 →
    (∀ b' ss', readGo ws cs b ss = some (b', ss') → PyData.strOk b' = true ∧ forGo (tgN 4) [4] bodyLr (cs.map fun c => .str ⟨#[c]⟩) (envLr ws z ss b none) = .nx (envLr ws z ss' b' none)) ∧ (readGo ws cs b ss = none → ∃ ρ', forGo (tgN 4) [4] bodyLr (cs.map fun c => .str ⟨#[c]⟩) (envLr ws z ss b none) = .rt (.val (refD "BadBits")) ρ')
  | [], _, b, ss, hb, _, _ => ⟨fun b' ss' h => by cases h; exact ⟨hb, rfl⟩, fun h => by cases h⟩
  | c :: r, hc, b, ss, hb, h1, h2 => by
    rw [List.length_cons] at h1 h2
    have ht := turnLr (ss := ss) g hz (hc c List.mem_cons_self) hb (by omega) (by omega)
    have hr : readGo ws (c :: r) b ss = (match takeO ws b ⟨#[c]⟩ with
      | .got k => readGo ws r Str.empty (ss ++ [(k : Int)])
      | .more => readGo ws r (b ++ ⟨#[c]⟩) ss
      | .bad => none) := rfl
    rw [hr, List.map_cons, forGo_cons, ht]
    cases takeO ws b ⟨#[c]⟩ with
    | got k =>
      exact loopLr g hz r (fun x hx => hc x (List.mem_cons_of_mem _ hx)) Str.empty (ss ++ [(k : Int)]) strOk_e (by rw [show Str.empty.length = 0 from rfl]; omega) (by rw [List.length_append, List.length_singleton]; omega)
    | more =>
      have hlc : (b ++ (⟨#[c]⟩ : Str)).length = b.length + 1 := by
        show (b.cps ++ #[c]).size = b.cps.size + 1
        simp
      exact loopLr g hz r (fun x hx => hc x (List.mem_cons_of_mem _ hx)) (b ++ ⟨#[c]⟩) ss (strOk_cat hb (strOk_one hz (hc c List.mem_cons_self))) (by omega) (by omega)
    | bad => exact ⟨fun b' ss' h => (nomatch h), fun _ => ⟨_, rfl⟩⟩
theorem M_law_read_ok {ws : List Str} {z : Str} (g : GoodW ws) (hz : PyData.strOk z = true) (hl : z.length < 900000) : M_law_read [.bw (ws.map PyData.str), .fz (.str z)] = .ok (readD ws z) := by
  have hlz : z.length = z.cps.toList.length := by simp; rfl
  obtain ⟨k1, k2⟩ := loopLr (z := z) g hz z.cps.toList (fun c h => h) Str.empty [] strOk_e (by rw [show Str.empty.length = 0 from rfl]; omega) (by rw [List.length_nil]; omega)
  rw [M_law_read_eq]
  unfold F_law_read readD
  have h0 : sSetL 2 (lLst []) [some (.bw (ws.map PyData.str)), some (.fz (.str z)), none, none, none, none] = .nx [some (.bw (ws.map PyData.str)), some (.fz (.str z)), some (.ow []), none, none, none] := rfl
  have h1 : sSet 3 (eC (.str (Str.ofString ""))) [some (.bw (ws.map PyData.str)), some (.fz (.str z)), some (.ow []), none, none, none] = .nx (envLr ws z [] Str.empty none) := rfl
  have hw : wStr (eVar 1) (envLr ws z [] Str.empty none) = .ok (z.cps.toList.map fun c => .str ⟨#[c]⟩) := rfl
  cases e : readGo ws z.cps.toList Str.empty [] with
  | none =>
    obtain ⟨ρ', e2⟩ := k2 e
    refine runF_rt [some (.bw (ws.map PyData.str)), some (.fz (.str z)), none, none, none, none] rfl rfl (ρ' := ρ') ?_
    rw [g_law_read_eq, seq_nx h0, seq_nx h1]
    exact seq_rt ((for_of hw).trans e2)
  | some p =>
    obtain ⟨b, ss⟩ := p
    obtain ⟨hb, e2⟩ := k1 b ss e
    dsimp only
    refine runF_rt [some (.bw (ws.map PyData.str)), some (.fz (.str z)), none, none, none, none] rfl rfl (ρ' := envLr ws z ss b none) ?_
    rw [g_law_read_eq, seq_nx h0, seq_nx h1, seq_nx ((for_of hw).trans e2)]
    have hne : eOp oNe (rVar 3) (eC (.str (Str.ofString ""))) (envLr ws z ss b none) = .ok (.bool (!decide (b = Str.empty))) := by
      show oNe (.str b) (.str Str.empty) = _
      unfold oNe
      rw [shaped_str hb, shaped_str strOk_e, eqv_str]
      rfl
    by_cases hbe : b = Str.empty
    · rw [if_pos hbe]
      rw [seq_nx (ρ' := envLr ws z ss b none) (by rw [sIf_ap, bOf_ap, hne, decide_eq_true hbe]; rfl)]
      rfl
    · rw [if_neg hbe]
      refine seq_rt ?_
      rw [sIf_ap, bOf_ap, hne, decide_eq_false hbe]
      rfl

/-! law_turned: slots 0:_law_bits 1:_law_cell_here 2:_law_at -/
def g_law_turned : SE := (sSeq (sSet 2 (eOp oMod (eOp oFdiv (eVar 1) (eC (.int 8))) (eOp oAdd (eLenV (rVar 0)) (eC (.int 1)))))
  (sSeq (sIf (bOf (eOp oEq (eOp oMod (eVar 1) (eC (.int 8))) (eC (.int 0)))) (sRet (eOp oCatS (eSlS (eVar 0) oNo (oPart (eVar 2))) (eSlS (eVar 0) (oPart (eOp oAdd (eVar 2) (eC (.int 1)))) oNo))) sNext)
  (sSeq (sIf (bOf (eOp oEq (eOp oMod (eVar 1) (eC (.int 8))) (eC (.int 1)))) (sRet (eOp oCatS (eOp oCatS (eSlS (eVar 0) oNo (oPart (eVar 2))) (eIxS (eC (.str (Str.ofString "01"))) (eOp oMod (eOp oFdiv (eVar 1) (eC (.int 8))) (eC (.int 2))))) (eSlS (eVar 0) (oPart (eVar 2)) oNo))) sNext)
  (sSeq (sIf (bOf (eOp oEq (eOp oMod (eVar 1) (eC (.int 8))) (eC (.int 2)))) (sRet (eOp oCatS (eOp oCatS (eSlS (eVar 0) oNo (oPart (eVar 2))) (eIx (lLst [(eC (.str (Str.ofString "2"))), (eC (.str (Str.ofString " "))), (eC (.str (Str.ofString "x"))), (eC (.str (Str.ofString "o"))), (eC (.str (Str.ofString "\n")))]) (eOp oMod (eOp oFdiv (eVar 1) (eC (.int 3))) (eC (.int 5))))) (eSlS (eVar 0) (oPart (eVar 2)) oNo))) sNext)
  (sSeq (sIf (bOf (eOp oEq (eOp oMod (eVar 1) (eC (.int 8))) (eC (.int 3)))) (sRet (eSlS (eVar 0) oNo (oPart (eVar 2)))) sNext)
  (sRet (eVar 0)))))))
def F_law_turned : FN := runF 2 3 g_law_turned
theorem ex_law_turned : ∃ M : FN, M = F_law_turned := ⟨_, rfl⟩
def M_law_turned : FN := ex_law_turned.choose
theorem M_law_turned_eq : M_law_turned = F_law_turned := ex_law_turned.choose_spec
theorem ok_law_turned : ∀ as : List SL, as.length = 2 → M_law_turned as ≠ .stuck → F_law_turned as = M_law_turned as := fun _ _ _ => by rw [M_law_turned_eq]
theorem strOk_drop {z : Str} (h : PyData.strOk z = true) (n : Nat) : PyData.strOk ⟨(z.cps.toList.drop n).toArray⟩ = true := by
  unfold PyData.strOk at h ⊢
  rw [← Array.all_toList, List.all_eq_true] at h
  rw [← Array.all_toList, List.all_eq_true]
  intro c hc
  exact h c (List.mem_of_mem_drop hc)
theorem cutS_f (z : Str) (n : Nat) : cutS z (some (n : Int)) none = ⟨(z.cps.toList.drop n).toArray⟩ := by
  show (⟨(cutD z.cps.toList (some (n : Int)) none).toArray⟩ : Str) = _
  rw [cutD_from]
theorem len_take (z : Str) (n : Nat) : (⟨(z.cps.toList.take n).toArray⟩ : Str).length ≤ z.length := by
  show (z.cps.toList.take n).toArray.size ≤ z.cps.size
  rw [List.size_toArray, List.length_take, Array.length_toList]
  omega
theorem len_drop (z : Str) (n : Nat) : (⟨(z.cps.toList.drop n).toArray⟩ : Str).length ≤ z.length := by
  show (z.cps.toList.drop n).toArray.size ≤ z.cps.size
  rw [List.size_toArray, List.length_drop, Array.length_toList]
  omega
theorem len_cat (a b : Str) : (a ++ b).length = a.length + b.length := by
  show (a.cps ++ b.cps).size = _
  rw [Array.size_append]
  rfl
theorem g_law_turned_eq : g_law_turned = (sSeq (sSet 2 (eOp oMod (eOp oFdiv (eVar 1) (eC (.int 8))) (eOp oAdd (eLenV (rVar 0)) (eC (.int 1)))))
  (sSeq (sIf (bOf (eOp oEq (eOp oMod (eVar 1) (eC (.int 8))) (eC (.int 0)))) (sRet (eOp oCatS (eSlS (eVar 0) oNo (oPart (eVar 2))) (eSlS (eVar 0) (oPart (eOp oAdd (eVar 2) (eC (.int 1)))) oNo))) sNext)
  (sSeq (sIf (bOf (eOp oEq (eOp oMod (eVar 1) (eC (.int 8))) (eC (.int 1)))) (sRet (eOp oCatS (eOp oCatS (eSlS (eVar 0) oNo (oPart (eVar 2))) (eIxS (eC (.str (Str.ofString "01"))) (eOp oMod (eOp oFdiv (eVar 1) (eC (.int 8))) (eC (.int 2))))) (eSlS (eVar 0) (oPart (eVar 2)) oNo))) sNext)
  (sSeq (sIf (bOf (eOp oEq (eOp oMod (eVar 1) (eC (.int 8))) (eC (.int 2)))) (sRet (eOp oCatS (eOp oCatS (eSlS (eVar 0) oNo (oPart (eVar 2))) (eIx (lLst [(eC (.str (Str.ofString "2"))), (eC (.str (Str.ofString " "))), (eC (.str (Str.ofString "x"))), (eC (.str (Str.ofString "o"))), (eC (.str (Str.ofString "\n")))]) (eOp oMod (eOp oFdiv (eVar 1) (eC (.int 3))) (eC (.int 5))))) (eSlS (eVar 0) (oPart (eVar 2)) oNo))) sNext)
  (sSeq (sIf (bOf (eOp oEq (eOp oMod (eVar 1) (eC (.int 8))) (eC (.int 3)))) (sRet (eSlS (eVar 0) oNo (oPart (eVar 2)))) sNext)
  (sRet (eVar 0))))))) := rfl
theorem oCatS_k {a b : Str} (h : a.length + b.length ≤ 1000000) : oCatS (.str a) (.str b) = .ok (.str (a ++ b)) := if_pos h
/-- a sign of 01 -/
theorem bit01 {k : Int} (h0 : 0 ≤ k) (h1 : k < 2) : ∃ s : Str, s.length = 1 ∧ PyData.strOk s = true ∧ atI (Str.ofString "01").cps.toList k = some (if k = 0 then 48 else 49) ∧ s = ⟨#[if k = 0 then 48 else 49]⟩ := by
  have : k = 0 ∨ k = 1 := by omega
  rcases this with rfl | rfl
  · exact ⟨⟨#[48]⟩, rfl, by decide +kernel, rfl, rfl⟩
  · exact ⟨⟨#[49]⟩, rfl, by decide +kernel, rfl, rfl⟩
theorem M_law_turned_ok {z : Str} {c : Int} (hz : PyData.strOk z = true) (hl : z.length ≤ 100000) : ∃ y : Str, PyData.strOk y = true ∧ y.length ≤ 300000 ∧ M_law_turned [.fz (.str z), .fz (.int c)] = .ok (.val (.str y)) := by
  have e0 := Int.emod_nonneg (c / 8) (b := (z.length : Int) + 1) (by omega)
  have e1 := Int.emod_lt_of_pos (c / 8) (b := (z.length : Int) + 1) (by omega)
  have d8 : oFdiv (.int c) (.int 8) = .ok (.int (c / 8)) := oFdiv_i (by omega)
  have d3 : oFdiv (.int c) (.int 3) = .ok (.int (c / 3)) := oFdiv_i (by omega)
  have m8 : oMod (.int c) (.int 8) = .ok (.int (c % 8)) := oMod_i (by omega)
  have m1 : oMod (.int (c / 8)) (.int ((z.length : Int) + 1)) = .ok (.int (c / 8 % ((z.length : Int) + 1))) := oMod_i (by omega)
  have m2 : oMod (.int (c / 8)) (.int 2) = .ok (.int (c / 8 % 2)) := oMod_i (by omega)
  have m5 : oMod (.int (c / 3)) (.int 5) = .ok (.int (c / 3 % 5)) := oMod_i (by omega)
  obtain ⟨n, hn⟩ : ∃ n : Nat, c / 8 % ((z.length : Int) + 1) = (n : Int) := ⟨(c / 8 % ((z.length : Int) + 1)).toNat, by omega⟩
  rw [hn] at m1
  have hlen : lenOf (.str z) = .ok (.int z.length) := lenOf_s (by omega)
  have hto : eSlS (eVar 0) oNo (oPart (eVar 2)) [some (.fz (.str z)), some (.fz (.int c)), some (.fz (.int (n : Int)))] = .ok (.str ⟨(z.cps.toList.take n).toArray⟩) := by
    show (if z.length ≤ 1000000 then Out.ok (PyData.str (cutS z none (some (n : Int)))) else .stuck) = _
    rw [if_pos (by omega), cutS_z]
  have hfrom : eSlS (eVar 0) (oPart (eVar 2)) oNo [some (.fz (.str z)), some (.fz (.int c)), some (.fz (.int (n : Int)))] = .ok (.str ⟨(z.cps.toList.drop n).toArray⟩) := by
    show (if z.length ≤ 1000000 then Out.ok (PyData.str (cutS z (some (n : Int)) none)) else .stuck) = _
    rw [if_pos (by omega), cutS_f]
  have hfrom1 : eSlS (eVar 0) (oPart (eOp oAdd (eVar 2) (eC (.int 1)))) oNo [some (.fz (.str z)), some (.fz (.int c)), some (.fz (.int (n : Int)))] = .ok (.str ⟨(z.cps.toList.drop (n + 1)).toArray⟩) := by
    show (if z.length ≤ 1000000 then Out.ok (PyData.str (cutS z (some ((n : Int) + 1)) none)) else .stuck) = _
    rw [if_pos (by omega), show (n : Int) + 1 = ((n + 1 : Nat) : Int) by omega, cutS_f]
  have t1 := len_take z n
  have t2 := len_drop z n
  have t3 := len_drop z (n + 1)
  have s1 := strOk_take hz n
  have s2 := strOk_drop hz n
  have s3 := strOk_drop hz (n + 1)
  have h0 : sSet 2 (eOp oMod (eOp oFdiv (eVar 1) (eC (.int 8))) (eOp oAdd (eLenV (rVar 0)) (eC (.int 1)))) [some (.fz (.str z)), some (.fz (.int c)), none] = .nx [some (.fz (.str z)), some (.fz (.int c)), some (.fz (.int (n : Int)))] := by
    simp [d8, hlen, m1]
  rw [M_law_turned_eq]
  unfold F_law_turned
  generalize (⟨(z.cps.toList.take n).toArray⟩ : Str) = A at hto t1 s1
  generalize (⟨(z.cps.toList.drop n).toArray⟩ : Str) = B at hfrom t2 s2
  generalize (⟨(z.cps.toList.drop (n + 1)).toArray⟩ : Str) = B1 at hfrom1 t3 s3
  have fin : ∀ y : Str, PyData.strOk y = true → y.length ≤ 300000 → (∃ ρ', g_law_turned [some (.fz (.str z)), some (.fz (.int c)), none] = .rt (.val (.str y)) ρ') → ∃ y : Str, PyData.strOk y = true ∧ y.length ≤ 300000 ∧ runF 2 3 g_law_turned [.fz (.str z), .fz (.int c)] = .ok (.val (.str y)) := fun y h1 h2 ⟨ρ', h3⟩ => ⟨y, h1, h2, runF_rt _ rfl rfl h3⟩
  by_cases c0 : c % 8 = 0
  · refine fin (A ++ B1) (strOk_cat s1 s3) (by rw [len_cat]; omega) ⟨[some (.fz (.str z)), some (.fz (.int c)), some (.fz (.int (n : Int)))], ?_⟩
    have hk := oCatS_k (a := A) (b := B1) (by omega)
    rw [g_law_turned_eq, seq_nx h0]
    refine seq_rt ?_
    rw [sIf_ap, show bOf (eOp oEq (eOp oMod (eVar 1) (eC (.int 8))) (eC (.int 0))) [some (.fz (.str z)), some (.fz (.int c)), some (.fz (.int (n : Int)))] = .ok true by simp [m8, c0], wOut_ok, if_pos rfl, sRet_ap, eOp_ap, hto, Out.bind_ok, hfrom1, Out.bind_ok, hk]
    rfl
  · have p0 : sIf (bOf (eOp oEq (eOp oMod (eVar 1) (eC (.int 8))) (eC (.int 0)))) (sRet (eOp oCatS (eSlS (eVar 0) oNo (oPart (eVar 2))) (eSlS (eVar 0) (oPart (eOp oAdd (eVar 2) (eC (.int 1)))) oNo))) sNext [some (.fz (.str z)), some (.fz (.int c)), some (.fz (.int (n : Int)))] = .nx [some (.fz (.str z)), some (.fz (.int c)), some (.fz (.int (n : Int)))] := by
      rw [sIf_ap, show bOf (eOp oEq (eOp oMod (eVar 1) (eC (.int 8))) (eC (.int 0))) [some (.fz (.str z)), some (.fz (.int c)), some (.fz (.int (n : Int)))] = .ok false by simp [m8, c0], wOut_ok, if_neg (by decide)]
      rfl
    by_cases c1 : c % 8 = 1
    · obtain ⟨s, hs1, hs2, hs3, hs4⟩ := bit01 (k := c / 8 % 2) (by omega) (by omega)
      have hi : eIxS (eC (.str (Str.ofString "01"))) (eOp oMod (eOp oFdiv (eVar 1) (eC (.int 8))) (eC (.int 2))) [some (.fz (.str z)), some (.fz (.int c)), some (.fz (.int (n : Int)))] = .ok (.str s) := by
        unfold eIxS
        rw [eC_ap, Out.bind_ok, show eOp oMod (eOp oFdiv (eVar 1) (eC (.int 8))) (eC (.int 2)) [some (.fz (.str z)), some (.fz (.int c)), some (.fz (.int (n : Int)))] = .ok (.int (c / 8 % 2)) by simp [d8, m2], Out.bind_ok]
        dsimp only
        rw [if_pos (by decide), hs3, hs4]
      have k1 := oCatS_k (a := A) (b := s) (by omega)
      have k2 := oCatS_k (a := A ++ s) (b := B) (by rw [len_cat]; omega)
      refine fin (A ++ s ++ B) (strOk_cat (strOk_cat s1 hs2) s2) (by rw [len_cat, len_cat]; omega) ⟨[some (.fz (.str z)), some (.fz (.int c)), some (.fz (.int (n : Int)))], ?_⟩
      rw [g_law_turned_eq, seq_nx h0, seq_nx p0]
      refine seq_rt ?_
      rw [sIf_ap, show bOf (eOp oEq (eOp oMod (eVar 1) (eC (.int 8))) (eC (.int 1))) [some (.fz (.str z)), some (.fz (.int c)), some (.fz (.int (n : Int)))] = .ok true by simp [m8, c1], wOut_ok, if_pos rfl, sRet_ap, eOp_ap, eOp_ap, hto, Out.bind_ok, hi, Out.bind_ok, k1, Out.bind_ok, hfrom, Out.bind_ok, k2]
      rfl
    · have p1 : sIf (bOf (eOp oEq (eOp oMod (eVar 1) (eC (.int 8))) (eC (.int 1)))) (sRet (eOp oCatS (eOp oCatS (eSlS (eVar 0) oNo (oPart (eVar 2))) (eIxS (eC (.str (Str.ofString "01"))) (eOp oMod (eOp oFdiv (eVar 1) (eC (.int 8))) (eC (.int 2))))) (eSlS (eVar 0) (oPart (eVar 2)) oNo))) sNext [some (.fz (.str z)), some (.fz (.int c)), some (.fz (.int (n : Int)))] = .nx [some (.fz (.str z)), some (.fz (.int c)), some (.fz (.int (n : Int)))] := by
        rw [sIf_ap, show bOf (eOp oEq (eOp oMod (eVar 1) (eC (.int 8))) (eC (.int 1))) [some (.fz (.str z)), some (.fz (.int c)), some (.fz (.int (n : Int)))] = .ok false by simp [m8, c1], wOut_ok, if_neg (by decide)]
        rfl
      by_cases c2 : c % 8 = 2
      · obtain ⟨s, hs1, hs2, hs3⟩ : ∃ s : Str, s.length = 1 ∧ PyData.strOk s = true ∧ atI [PyData.str (Str.ofString "2"), .str (Str.ofString " "), .str (Str.ofString "x"), .str (Str.ofString "o"), .str (Str.ofString "\n")] (c / 3 % 5) = some (.str s) := by
          have : c / 3 % 5 = 0 ∨ c / 3 % 5 = 1 ∨ c / 3 % 5 = 2 ∨ c / 3 % 5 = 3 ∨ c / 3 % 5 = 4 := by omega
          rcases this with e | e | e | e | e <;> rw [e]
          · exact ⟨Str.ofString "2", by decide, by decide +kernel, rfl⟩
          · exact ⟨Str.ofString " ", by decide, by decide +kernel, rfl⟩
          · exact ⟨Str.ofString "x", by decide, by decide +kernel, rfl⟩
          · exact ⟨Str.ofString "o", by decide, by decide +kernel, rfl⟩
          · exact ⟨Str.ofString "\n", by decide, by decide +kernel, rfl⟩
        have hi : eIx (lLst [(eC (.str (Str.ofString "2"))), (eC (.str (Str.ofString " "))), (eC (.str (Str.ofString "x"))), (eC (.str (Str.ofString "o"))), (eC (.str (Str.ofString "\n")))]) (eOp oMod (eOp oFdiv (eVar 1) (eC (.int 3))) (eC (.int 5))) [some (.fz (.str z)), some (.fz (.int c)), some (.fz (.int (n : Int)))] = .ok (.str s) := eIx_ok (ds := [PyData.str (Str.ofString "2"), .str (Str.ofString " "), .str (Str.ofString "x"), .str (Str.ofString "o"), .str (Str.ofString "\n")]) rfl (k := c / 3 % 5) (by simp [d3, m5]) hs3
        have k1 := oCatS_k (a := A) (b := s) (by omega)
        have k2 := oCatS_k (a := A ++ s) (b := B) (by rw [len_cat]; omega)
        refine fin (A ++ s ++ B) (strOk_cat (strOk_cat s1 hs2) s2) (by rw [len_cat, len_cat]; omega) ⟨[some (.fz (.str z)), some (.fz (.int c)), some (.fz (.int (n : Int)))], ?_⟩
        rw [g_law_turned_eq, seq_nx h0, seq_nx p0, seq_nx p1]
        refine seq_rt ?_
        rw [sIf_ap, show bOf (eOp oEq (eOp oMod (eVar 1) (eC (.int 8))) (eC (.int 2))) [some (.fz (.str z)), some (.fz (.int c)), some (.fz (.int (n : Int)))] = .ok true by simp [m8, c2], wOut_ok, if_pos rfl, sRet_ap, eOp_ap, eOp_ap, hto, Out.bind_ok, hi, Out.bind_ok, k1, Out.bind_ok, hfrom, Out.bind_ok, k2]
        rfl
      · have p2 : ∀ s1 : SE, sIf (bOf (eOp oEq (eOp oMod (eVar 1) (eC (.int 8))) (eC (.int 2)))) s1 sNext [some (.fz (.str z)), some (.fz (.int c)), some (.fz (.int (n : Int)))] = .nx [some (.fz (.str z)), some (.fz (.int c)), some (.fz (.int (n : Int)))] := fun s1 => by
          rw [sIf_ap, show bOf (eOp oEq (eOp oMod (eVar 1) (eC (.int 8))) (eC (.int 2))) [some (.fz (.str z)), some (.fz (.int c)), some (.fz (.int (n : Int)))] = .ok false by simp [m8, c2], wOut_ok, if_neg (by decide)]
          rfl
        by_cases c3 : c % 8 = 3
        · refine fin A s1 (by omega) ⟨[some (.fz (.str z)), some (.fz (.int c)), some (.fz (.int (n : Int)))], ?_⟩
          rw [g_law_turned_eq, seq_nx h0, seq_nx p0, seq_nx p1, seq_nx (p2 _)]
          refine seq_rt ?_
          rw [sIf_ap, show bOf (eOp oEq (eOp oMod (eVar 1) (eC (.int 8))) (eC (.int 3))) [some (.fz (.str z)), some (.fz (.int c)), some (.fz (.int (n : Int)))] = .ok true by simp [m8, c3], wOut_ok, if_pos rfl, sRet_ap, hto]
          rfl
        · refine fin z hz (by omega) ⟨[some (.fz (.str z)), some (.fz (.int c)), some (.fz (.int (n : Int)))], ?_⟩
          rw [g_law_turned_eq, seq_nx h0, seq_nx p0, seq_nx p1, seq_nx (p2 _)]
          rw [seq_nx (ρ' := [some (.fz (.str z)), some (.fz (.int c)), some (.fz (.int (n : Int)))]) (by
            rw [sIf_ap, show bOf (eOp oEq (eOp oMod (eVar 1) (eC (.int 8))) (eC (.int 3))) [some (.fz (.str z)), some (.fz (.int c)), some (.fz (.int (n : Int)))] = .ok false by simp [m8, c3], wOut_ok, if_neg (by decide)]
            rfl)]
          rfl

/-! law_words: slots 0:_law_script 1:_law_first 2:_law_many 3:_law_words_here 4:_law_k 5:_law_found 6:_law_shallow 7:_law_word 8:_law_at -/
def g_law_words : SE := (sSeq (sSet 2 (eOp oMod (eX (xCall M_law_cell (rL (lVar 0) (rV (eVar 1) rNil)))) (eC (.int 9))))
  (sSeq (sIf (bOf (eOp oEq (eOp oMod (eOp oFdiv (eX (xCall M_law_cell (rL (lVar 0) (rV (eVar 1) rNil)))) (eC (.int 9))) (eC (.int 8))) (eC (.int 1)))) (sSet 2 (eOp oMod (eOp oFdiv (eX (xCall M_law_cell (rL (lVar 0) (rV (eVar 1) rNil)))) (eC (.int 72))) (eC (.int 25)))) sNext)
  (sSeq (sIf (bOf (eOp oEq (rVar 2) (eC (.int 0)))) (sRetL (lLst [])) sNext)
  (sSeq (sSetL 3 (lLst [(eC (.str (Str.ofString "")))]))
  (sSeq (sFor (wRange1 (eOp oAdd (eOp oSub (eVar 2) (eC (.int 1))) (eOp oMod (eX (xCall M_law_cell (rL (lVar 0) (rV (eOp oAdd (eVar 1) (eC (.int 1))) rNil)))) (eC (.int 3))))) (tgN 4) [4, 6, 7, 8] (sSeq (sSetL 6 (lComp (lVar 3) (tgN 7) [7] (bOf (eOp oLt (eLenV (rVar 7)) (eC (.int 12)))) (eVar 7)))
  (sSeq (sSet 7 (eIx (lVar 6) (eOp oMod (eX (xCall M_law_cell (rL (lVar 0) (rV (eOp oAdd (eOp oAdd (eVar 1) (eC (.int 2))) (eVar 4)) rNil)))) (eLenV (rVar 6)))))
  (sSeq (sSet 8 (eIndex (lVar 3) (eVar 7)))
  (sSetL 3 (lCat (lCat (lSl (lVar 3) oNo (oPart (eVar 8))) (lLst [(eOp oCatS (eVar 7) (eC (.str (Str.ofString "0")))), (eOp oCatS (eVar 7) (eC (.str (Str.ofString "1"))))])) (lSl (lVar 3) (oPart (eOp oAdd (eVar 8) (eC (.int 1)))) oNo)))))))
  (sSeq (sIf (bOf (eOp oEq (rVar 3) (eOfL (lLst [(eC (.str (Str.ofString "")))])))) (sSetL 3 (lLst [(eC (.str (Str.ofString "0"))), (eC (.str (Str.ofString "1")))])) sNext)
  (sSeq (sSetL 5 (lLst []))
  (sSeq (sFor (wRange1 (eOp oMin (eVar 2) (eLenV (rVar 3)))) (tgN 4) [4] (sAppPop 5 3 (eOp oMod (eX (xCall M_law_cell (rL (lVar 0) (rV (eOp oAdd (eOp oAdd (eVar 1) (eC (.int 30))) (eVar 4)) rNil)))) (eLenV (rVar 3)))))
  (sRetO 5)))))))))
def F_law_words : FN := runF 2 9 g_law_words
theorem ex_law_words : ∃ M : FN, M = F_law_words := ⟨_, rfl⟩
def M_law_words : FN := ex_law_words.choose
theorem M_law_words_eq : M_law_words = F_law_words := ex_law_words.choose_spec
theorem ok_law_words : ∀ as : List SL, as.length = 2 → M_law_words as ≠ .stuck → F_law_words as = M_law_words as := fun _ _ _ => by rw [M_law_words_eq]
abbrev lensW (ws : List Str) : List Int := ws.map fun w => ((w.length : Nat) : Int)
def okS (ws : List Str) : Prop := ∀ w ∈ ws, PyData.strOk w = true
abbrev envLw' (ns : List Int) (first n : Int) (ws : List Str) (x4 x5 x6 x7 x8 : Option SL) : Env := [some (.bw (ns.map PyData.int)), some (.fz (.int first)), some (.fz (.int n)), some (.ow (ws.map PyData.str)), x4, x5, x6, x7, x8]
abbrev bodyWds : SE := (sSeq (sSetL 6 (lComp (lVar 3) (tgN 7) [7] (bOf (eOp oLt (eLenV (rVar 7)) (eC (.int 12)))) (eVar 7)))
  (sSeq (sSet 7 (eIx (lVar 6) (eOp oMod (eX (xCall M_law_cell (rL (lVar 0) (rV (eOp oAdd (eOp oAdd (eVar 1) (eC (.int 2))) (eVar 4)) rNil)))) (eLenV (rVar 6)))))
  (sSeq (sSet 8 (eIndex (lVar 3) (eVar 7)))
  (sSetL 3 (lCat (lCat (lSl (lVar 3) oNo (oPart (eVar 8))) (lLst [(eOp oCatS (eVar 7) (eC (.str (Str.ofString "0")))), (eOp oCatS (eVar 7) (eC (.str (Str.ofString "1"))))])) (lSl (lVar 3) (oPart (eOp oAdd (eVar 8) (eC (.int 1)))) oNo))))))
abbrev popWds : SE := (sAppPop 5 3 (eOp oMod (eX (xCall M_law_cell (rL (lVar 0) (rV (eOp oAdd (eOp oAdd (eVar 1) (eC (.int 30))) (eVar 4)) rNil)))) (eLenV (rVar 3))))
theorem strOk_0 : PyData.strOk (Str.ofString "0") = true := by decide +kernel
theorem strOk_1 : PyData.strOk (Str.ofString "1") = true := by decide +kernel
/-- neither begins the other -/
def Far (a b : Str) : Prop := ¬ a.cps.toList <+: b.cps.toList ∧ ¬ b.cps.toList <+: a.cps.toList
theorem Far.symm {a b : Str} (h : Far a b) : Far b a := ⟨h.2, h.1⟩
theorem far_perm {us vs : List Str} (h : us.Perm vs) (f : us.Pairwise Far) : vs.Pairwise Far := (h.pairwise_iff (fun {_ _} h => Far.symm h)).mp f
theorem far_apart {ws : List Str} (f : ws.Pairwise Far) : Apart ws := fun i j hi hj hij hp => by
  rcases Nat.lt_or_gt_of_ne hij with h | h
  · exact (List.pairwise_iff_getElem.mp f i j hi hj h).1 hp
  · exact (List.pairwise_iff_getElem.mp f j i hj hi h).2 hp
theorem catL (a b : Str) : (a ++ b).cps.toList = a.cps.toList ++ b.cps.toList := by
  show (a.cps ++ b.cps).toList = _
  rw [Array.toList_append]
theorem far_on {x w : Str} (h : Far x w) (c : Str) (hc : c.cps.toList.length = 1) : Far x (w ++ c) := by
  obtain ⟨k, hk⟩ := List.length_eq_one_iff.mp hc
  refine ⟨fun z => ?_, fun z => h.2 ?_⟩
  · rw [catL, hk] at z
    rcases List.prefix_concat_iff.mp z with e | e
    · exact h.2 ⟨[k], e.symm⟩
    · exact h.1 e
  · rw [catL] at z
    exact (List.prefix_append _ _).trans z
theorem far_bits (w : Str) : Far (w ++ Str.ofString "0") (w ++ Str.ofString "1") := by
  have e : ∀ a b : Str, a.cps.toList.length = b.cps.toList.length → a.cps.toList <+: b.cps.toList → a.cps.toList = b.cps.toList := fun a b hl h => h.eq_of_length hl
  have h0 : (w ++ Str.ofString "0").cps.toList = w.cps.toList ++ [48] := catL _ _
  have h1 : (w ++ Str.ofString "1").cps.toList = w.cps.toList ++ [49] := catL _ _
  refine ⟨fun z => ?_, fun z => ?_⟩
  · have := e _ _ (by rw [h0, h1, List.length_append, List.length_append]; rfl) z
    rw [h0, h1] at this
    have := List.append_cancel_left this
    cases this
  · have := e _ _ (by rw [h0, h1, List.length_append, List.length_append]; rfl) z
    rw [h0, h1] at this
    have := List.append_cancel_left this
    cases this
/-- bits alone, none begins another -/
def Tree (ws : List Str) : Prop := (∀ w ∈ ws, ∀ c ∈ w.cps.toList, c = 48 ∨ c = 49) ∧ ws.Pairwise Far
theorem Tree.split {ws : List Str} (h : Tree ws) {i : Nat} (hi : i < ws.length) : Tree (ws.take i ++ [ws[i] ++ Str.ofString "0", ws[i] ++ Str.ofString "1"] ++ ws.drop (i + 1)) := by
  have e : ws = ws.take i ++ ws[i] :: ws.drop (i + 1) := by rw [← List.drop_eq_getElem_cons hi, List.take_append_drop]
  have p1 : ws.Perm (ws[i] :: (ws.take i ++ ws.drop (i + 1))) := by
    conv => lhs; rw [e]
    exact List.perm_middle
  have p2 : ((ws[i] ++ Str.ofString "0") :: (ws[i] ++ Str.ofString "1") :: (ws.take i ++ ws.drop (i + 1)) : List Str).Perm (ws.take i ++ [ws[i] ++ Str.ofString "0", ws[i] ++ Str.ofString "1"] ++ ws.drop (i + 1)) := by
    rw [List.append_assoc]
    exact (List.perm_append_comm_assoc (ws.take i) [ws[i] ++ Str.ofString "0", ws[i] ++ Str.ofString "1"] (ws.drop (i + 1))).symm
  generalize ws.take i ++ ws.drop (i + 1) = R at p1 p2
  have f1 := far_perm p1 h.2
  rw [List.pairwise_cons] at f1
  have hb : ∀ x ∈ ws[i] :: R, ∀ c ∈ x.cps.toList, c = 48 ∨ c = 49 := fun x hx => h.1 x (p1.mem_iff.mpr hx)
  refine ⟨fun x hx c hc => ?_, far_perm p2 ?_⟩
  · rcases List.mem_cons.mp (p2.mem_iff.mpr hx) with rfl | hx
    · rw [catL] at hc
      rcases List.mem_append.mp hc with hc | hc
      · exact hb _ List.mem_cons_self c hc
      · exact .inl (List.mem_singleton.mp hc)
    · rcases List.mem_cons.mp hx with rfl | hx
      · rw [catL] at hc
        rcases List.mem_append.mp hc with hc | hc
        · exact hb _ List.mem_cons_self c hc
        · exact .inr (List.mem_singleton.mp hc)
      · exact hb x (List.mem_cons_of_mem _ hx) c hc
  · refine List.pairwise_cons.mpr ⟨fun x hx => ?_, List.pairwise_cons.mpr ⟨fun x hx => ?_, f1.2⟩⟩
    · rcases List.mem_cons.mp hx with rfl | hx
      · exact far_bits _
      · exact (far_on (f1.1 x hx).symm _ rfl).symm
    · exact (far_on (f1.1 x hx).symm _ rfl).symm
theorem turnWds {ns : List Int} {first n : Int} {j : Nat} {ws : List Str} (hT : Tree ws) (hf : 0 ≤ first ∧ first ≤ 1000) (hx : Lv 12 (lensW ws)) (hok : okS ws) (hlen : ws.length = j + 1) (hj : j < 100) :
    ∃ ws', Tree ws' ∧ Lv 12 (lensW ws') ∧ okS ws' ∧ ws'.length = j + 1 + 1 ∧ turn (tgN 4) [4, 6, 7, 8] bodyWds (.int ((0 + j : Nat) : Int)) (envLw' ns first n ws none none none none none) = .nx (envLw' ns first n ws' none none none none none) := by
  have hle : ∀ w ∈ ws, w.length ≤ 12 := fun w hw => by
    have := (hx.le _ (List.mem_map.mpr ⟨w, hw, rfl⟩)).2
    omega
  have hne : ws.filter (fun w => decide (w.length < 12)) ≠ [] := fun z => by
    have hfull := hx.full fun x hxm => by
      obtain ⟨w, hw, rfl⟩ := List.mem_map.mp hxm
      have := List.filter_eq_nil_iff.mp z w hw
      rw [decide_eq_true_iff] at this
      omega
    rw [List.length_map] at hfull
    omega
  generalize hsh : ws.filter (fun w => decide (w.length < 12)) = sh at hne
  have hpos : 0 < sh.length := List.length_pos_iff.mpr hne
  have c1 := M_law_cell_ok ns (k := first + 2 + (j : Int)) (by omega) (by omega)
  generalize cellV ns (first + 2 + (j : Int)) = c at c1
  have e0 := Int.emod_nonneg c (b := (sh.length : Int)) (by omega)
  have e1 := Int.emod_lt_of_pos c (b := (sh.length : Int)) (by omega)
  have hmod : oMod (.int c) (.int (sh.length : Int)) = .ok (.int (c % (sh.length : Int))) := oMod_i (by omega)
  have hq : (c % (sh.length : Int)).toNat < sh.length := by omega
  generalize hw : sh[(c % (sh.length : Int)).toNat] = w
  have hwm : w ∈ sh := by rw [← hw]; exact List.getElem_mem hq
  rw [← hsh, List.mem_filter, decide_eq_true_iff] at hwm
  obtain ⟨hwm, hwl⟩ := hwm
  have hat : atI (sh.map PyData.str) (c % (sh.length : Int)) = some (.str w) := by
    have := atI_nat (xs := sh.map PyData.str) (j := (c % (sh.length : Int)).toNat) (v := .str w) (by rw [List.getElem?_map, List.getElem?_eq_getElem hq, hw]; rfl)
    rw [show (((c % (sh.length : Int)).toNat : Nat) : Int) = c % (sh.length : Int) by omega] at this
    exact this
  have hi : (ws.findIdx fun y => decide (y = w)) < ws.length := List.findIdx_lt_length_of_exists ⟨w, hwm, decide_eq_true rfl⟩
  have hiw : ws[ws.findIdx fun y => decide (y = w)] = w := of_decide_eq_true (List.findIdx_getElem (w := hi))
  obtain ⟨i, hI, hi, hiw⟩ : ∃ i, (ws.findIdx fun y => decide (y = w)) = i ∧ ∃ (hi : i < ws.length), ws[i] = w := ⟨_, rfl, hi, hiw⟩
  have hgd : (lensW ws).getD i 0 = ((w.length : Nat) : Int) := by
    rw [List.getD_eq_getElem?_getD, List.getElem?_map, List.getElem?_eq_getElem hi, hiw]
    rfl
  have hcomp : lComp (lVar 3) (tgN 7) [7] (bOf (eOp oLt (eLenV (rVar 7)) (eC (.int 12)))) (eVar 7) (envLw' ns first n ws (some (.fz (.int (j : Int)))) none none none none) = .ok (sh.map PyData.str) := by
    rw [lComp_filter (fun d => match d with
      | .str w => decide (w.length < 12)
      | _ => false) (fun d => d) (ds := ws.map PyData.str) rfl (by rw [List.length_map]; omega) (fun d hd => by
        obtain ⟨w, hw, rfl⟩ := List.mem_map.mp hd
        refine ⟨_, rfl, ?_, fun _ => rfl⟩
        have hl := hle w hw
        rw [bOf_ap, eOp_ap, eLenV_ap]
        show (((lenOf (.str w)).bind fun x => _).bind _) = _
        rw [lenOf_s (by omega), Out.bind_ok, eC_ap, Out.bind_ok, oLt_i, Out.bind_ok]
        show Out.ok (decide ((w.length : Int) < 12)) = Out.ok (decide (w.length < 12))
        congr 1
        rw [Bool.eq_iff_iff, decide_eq_true_iff, decide_eq_true_iff]
        omega)]
    rw [List.map_id', List.filter_map, ← hsh]
    rfl
  have ok0 := strOk_cat (hok w hwm) strOk_0
  have ok1 := strOk_cat (hok w hwm) strOk_1
  have l0 : (w ++ Str.ofString "0").length = w.length + 1 := len_cat _ _
  have l1 : (w ++ Str.ofString "1").length = w.length + 1 := len_cat _ _
  refine ⟨ws.take i ++ [w ++ Str.ofString "0", w ++ Str.ofString "1"] ++ ws.drop (i + 1), by have := hT.split hi; rw [hiw] at this; exact this, ?_, ?_, ?_, ?_⟩
  · have := hx.split i (by rw [List.length_map]; exact hi) (by rw [hgd]; omega)
    unfold splitAt at this
    rw [hgd] at this
    unfold lensW at this ⊢
    rw [List.map_append, List.map_append, List.map_take, List.map_drop]
    simp only [List.map_cons, List.map_nil, l0, l1, Int.natCast_add]
    exact this
  · intro x hxm
    rcases List.mem_append.mp hxm with hxm | hxm
    · rcases List.mem_append.mp hxm with hxm | hxm
      · exact hok x (List.mem_of_mem_take hxm)
      · rcases List.mem_cons.mp hxm with rfl | hxm
        · exact ok0
        · rw [List.mem_singleton.mp hxm]; exact ok1
    · exact hok x (List.mem_of_mem_drop hxm)
  · rw [List.length_append, List.length_append, List.length_take, List.length_drop]
    simp only [List.length_cons, List.length_nil]
    omega
  rw [Nat.zero_add]
  have h6 : eIx (lVar 6) (eOp oMod (eX (xCall M_law_cell (rL (lVar 0) (rV (eOp oAdd (eOp oAdd (eVar 1) (eC (.int 2))) (eVar 4)) rNil)))) (eLenV (rVar 6))) (envLw' ns first n ws (some (.fz (.int (j : Int)))) none (some (.ow (sh.map PyData.str))) none none) = .ok (.str w) := by
    refine eIx_ok rfl (k := c % (sh.length : Int)) ?_ hat
    have hshl : (sh.map PyData.str).length = sh.length := List.length_map _
    generalize sh.map PyData.str = SL0 at hshl
    simp [c1, hshl, hmod]
  have h8 : eIndex (lVar 3) (eVar 7) (envLw' ns first n ws (some (.fz (.int (j : Int)))) none (some (.ow (sh.map PyData.str))) (some (.fz (.str w))) none) = .ok (.int (i : Int)) := by
    show (match PyData.str w, allStr (ws.map PyData.str) with
      | .str x, some ss => if x ∈ ss then Out.ok (PyData.int ((ss.findIdx fun y => decide (y = x) : Nat) : Int)) else .stuck
      | _, _ => .stuck) = _
    rw [allStr_map]
    dsimp only
    rw [if_pos hwm, hI]
  have hcat : lCat (lCat (lSl (lVar 3) oNo (oPart (eVar 8))) (lLst [(eOp oCatS (eVar 7) (eC (.str (Str.ofString "0")))), (eOp oCatS (eVar 7) (eC (.str (Str.ofString "1"))))])) (lSl (lVar 3) (oPart (eOp oAdd (eVar 8) (eC (.int 1)))) oNo) (envLw' ns first n ws (some (.fz (.int (j : Int)))) none (some (.ow (sh.map PyData.str))) (some (.fz (.str w))) (some (.fz (.int (i : Int))))) = .ok ((ws.take i ++ [w ++ Str.ofString "0", w ++ Str.ofString "1"] ++ ws.drop (i + 1)).map PyData.str) := by
    have s1 : lSl (lVar 3) oNo (oPart (eVar 8)) (envLw' ns first n ws (some (.fz (.int (j : Int)))) none (some (.ow (sh.map PyData.str))) (some (.fz (.str w))) (some (.fz (.int (i : Int))))) = .ok ((ws.take i).map PyData.str) := by
      show Out.ok (cutD (ws.map PyData.str) none (some (i : Int))) = _
      rw [cutD_to, List.map_take]
    have s2 : lSl (lVar 3) (oPart (eOp oAdd (eVar 8) (eC (.int 1)))) oNo (envLw' ns first n ws (some (.fz (.int (j : Int)))) none (some (.ow (sh.map PyData.str))) (some (.fz (.str w))) (some (.fz (.int (i : Int))))) = .ok ((ws.drop (i + 1)).map PyData.str) := by
      show Out.ok (cutD (ws.map PyData.str) (some ((i : Int) + 1)) none) = _
      rw [show (i : Int) + 1 = ((i + 1 : Nat) : Int) by omega, cutD_from, List.map_drop]
    have s3 : lLst [(eOp oCatS (eVar 7) (eC (.str (Str.ofString "0")))), (eOp oCatS (eVar 7) (eC (.str (Str.ofString "1"))))] (envLw' ns first n ws (some (.fz (.int (j : Int)))) none (some (.ow (sh.map PyData.str))) (some (.fz (.str w))) (some (.fz (.int (i : Int))))) = .ok ([w ++ Str.ofString "0", w ++ Str.ofString "1"].map PyData.str) := by
      have k0 := oCatS_k (a := w) (b := Str.ofString "0") (by rw [show (Str.ofString "0").length = 1 from rfl]; omega)
      have k1 := oCatS_k (a := w) (b := Str.ofString "1") (by rw [show (Str.ofString "1").length = 1 from rfl]; omega)
      have hv : eVar 7 (envLw' ns first n ws (some (.fz (.int (j : Int)))) none (some (.ow (sh.map PyData.str))) (some (.fz (.str w))) (some (.fz (.int (i : Int))))) = .ok (.str w) := rfl
      rw [lLst_ap, aAll_cons, eOp_ap, hv, Out.bind_ok, eC_ap, Out.bind_ok, k0, Out.bind_ok, aAll_cons, eOp_ap, hv, Out.bind_ok, eC_ap, Out.bind_ok, k1, Out.bind_ok, aAll_nil, Out.bind_ok, Out.bind_ok]
      rfl
    have t1 : (ws.take i).length ≤ 1000 := by rw [List.length_take]; omega
    have t2 : (ws.drop (i + 1)).length ≤ 1000 := by rw [List.length_drop]; omega
    unfold lCat
    rw [s1, s2, s3, Out.bind_ok, Out.bind_ok, if_pos (by rw [List.length_map, List.length_map]; simp only [List.length_cons, List.length_nil]; omega), Out.bind_ok, Out.bind_ok, if_pos (by rw [List.length_append, List.length_map, List.length_map, List.length_map]; simp only [List.length_cons, List.length_nil]; omega)]
    rw [List.map_append, List.map_append]
  refine (turn_nx (ρ1 := envLw' ns first n ws (some (.fz (.int (j : Int)))) none none none none) (ρ2 := envLw' ns first n (ws.take i ++ [w ++ Str.ofString "0", w ++ Str.ofString "1"] ++ ws.drop (i + 1)) (some (.fz (.int (j : Int)))) none (some (.ow (sh.map PyData.str))) (some (.fz (.str w))) (some (.fz (.int (i : Int))))) rfl ?_).trans rfl
  unfold bodyWds
  rw [seq_nx (ρ' := envLw' ns first n ws (some (.fz (.int (j : Int)))) none (some (.ow (sh.map PyData.str))) none none) (by rw [sSetL_ap, hcomp]; rfl)]
  rw [seq_nx (ρ' := envLw' ns first n ws (some (.fz (.int (j : Int)))) none (some (.ow (sh.map PyData.str))) (some (.fz (.str w))) none) (by rw [sSet_ap, h6]; rfl)]
  rw [seq_nx (ρ' := envLw' ns first n ws (some (.fz (.int (j : Int)))) none (some (.ow (sh.map PyData.str))) (some (.fz (.str w))) (some (.fz (.int (i : Int))))) (by rw [sSet_ap, h8]; rfl)]
  rw [sSetL_ap, hcat]
  rfl
theorem popWds_ok {ns : List Int} {first n : Int} {j : Nat} {ws fs : List Str} (hf : 0 ≤ first ∧ first ≤ 1000) (hj : j < 100) (hl : 1 ≤ ws.length) (hl2 : ws.length ≤ 1000) (hf2 : fs.length ≤ 1000) :
    ∃ ws' fs' : List Str, (fs' ++ ws').Perm (fs ++ ws) ∧ ws'.length + 1 = ws.length ∧ fs'.length = fs.length + 1 ∧ turn (tgN 4) [4] popWds (.int ((0 + j : Nat) : Int)) (envLw' ns first n ws none (some (.ow (fs.map PyData.str))) none none none) = .nx (envLw' ns first n ws' none (some (.ow (fs'.map PyData.str))) none none none) := by
  have c1 := M_law_cell_ok ns (k := first + 30 + (j : Int)) (by omega) (by omega)
  have e0 := Int.emod_nonneg (cellV ns (first + 30 + (j : Int))) (b := (ws.length : Int)) (by omega)
  have e1 := Int.emod_lt_of_pos (cellV ns (first + 30 + (j : Int))) (b := (ws.length : Int)) (by omega)
  have m1 : oMod (.int (cellV ns (first + 30 + (j : Int)))) (.int (ws.length : Int)) = .ok (.int (cellV ns (first + 30 + (j : Int)) % (ws.length : Int))) := oMod_i (by omega)
  generalize hz : cellV ns (first + 30 + (j : Int)) % (ws.length : Int) = z at e0 e1 m1
  obtain ⟨i, rfl⟩ : ∃ i : Nat, z = (i : Int) := ⟨z.toNat, by omega⟩
  have hi : i < ws.length := by omega
  refine ⟨ws.eraseIdx i, fs ++ [ws[i]], ?_, by rw [List.length_eraseIdx, if_pos hi]; omega, by rw [List.length_append]; rfl, ?_⟩
  · rw [List.append_assoc]
    refine List.Perm.append_left fs ?_
    rw [List.eraseIdx_eq_take_drop_succ]
    have e : ws = ws.take i ++ ws[i] :: ws.drop (i + 1) := by rw [← List.drop_eq_getElem_cons hi, List.take_append_drop]
    conv => rhs; rw [e]
    rw [List.singleton_append]
    exact List.perm_middle.symm
  · rw [Nat.zero_add]
    have hwl : (ws.map PyData.str).length = ws.length := List.length_map _
    have hk : (eOp oMod (eX (xCall M_law_cell (rL (lVar 0) (rV (eOp oAdd (eOp oAdd (eVar 1) (eC (.int 30))) (eVar 4)) rNil)))) (eLenV (rVar 3))) (envLw' ns first n ws (some (.fz (.int (j : Int)))) (some (.ow (fs.map PyData.str))) none none none) = .ok (.int (i : Int)) := by
      unfold envLw'
      generalize ws.map PyData.str = A at hwl ⊢
      simp [c1, hwl, m1]
    have := sAppPop_ok (i := 5) (j := 3) (ρ := envLw' ns first n ws (some (.fz (.int (j : Int)))) (some (.ow (fs.map PyData.str))) none none none) (ds := fs.map PyData.str) (es := ws.map PyData.str) rfl rfl hk (d := .str ws[i]) (by rw [List.getElem?_map, List.getElem?_eq_getElem hi]; rfl) (by rw [List.length_map]; omega) (by rw [List.length_map]; omega) (by decide)
    rw [turn_nx (ρ1 := envLw' ns first n ws (some (.fz (.int (j : Int)))) (some (.ow (fs.map PyData.str))) none none none) rfl this]
    have e2 : (ws.map PyData.str).eraseIdx i = (ws.eraseIdx i).map PyData.str := by rw [List.eraseIdx_eq_take_drop_succ, List.eraseIdx_eq_take_drop_succ, List.map_append, List.map_take, List.map_drop]
    have e3 : fs.map PyData.str ++ [.str ws[i]] = (fs ++ [ws[i]]).map PyData.str := by rw [List.map_append]; rfl
    rw [e2, e3]
    rfl
theorem g_law_words_eq : g_law_words = (sSeq (sSet 2 (eOp oMod (eX (xCall M_law_cell (rL (lVar 0) (rV (eVar 1) rNil)))) (eC (.int 9))))
  (sSeq (sIf (bOf (eOp oEq (eOp oMod (eOp oFdiv (eX (xCall M_law_cell (rL (lVar 0) (rV (eVar 1) rNil)))) (eC (.int 9))) (eC (.int 8))) (eC (.int 1)))) (sSet 2 (eOp oMod (eOp oFdiv (eX (xCall M_law_cell (rL (lVar 0) (rV (eVar 1) rNil)))) (eC (.int 72))) (eC (.int 25)))) sNext)
  (sSeq (sIf (bOf (eOp oEq (rVar 2) (eC (.int 0)))) (sRetL (lLst [])) sNext)
  (sSeq (sSetL 3 (lLst [(eC (.str (Str.ofString "")))]))
  (sSeq (sFor (wRange1 (eOp oAdd (eOp oSub (eVar 2) (eC (.int 1))) (eOp oMod (eX (xCall M_law_cell (rL (lVar 0) (rV (eOp oAdd (eVar 1) (eC (.int 1))) rNil)))) (eC (.int 3))))) (tgN 4) [4, 6, 7, 8] bodyWds)
  (sSeq (sIf (bOf (eOp oEq (rVar 3) (eOfL (lLst [(eC (.str (Str.ofString "")))])))) (sSetL 3 (lLst [(eC (.str (Str.ofString "0"))), (eC (.str (Str.ofString "1")))])) sNext)
  (sSeq (sSetL 5 (lLst []))
  (sSeq (sFor (wRange1 (eOp oMin (eVar 2) (eLenV (rVar 3)))) (tgN 4) [4] popWds)
  (sRetO 5))))))))) := rfl
theorem M_law_words_good (ns : List Int) {first : Int} (hf : 0 ≤ first ∧ first ≤ 900) : ∃ ws : List Str, (∀ w ∈ ws, PyData.strOk w = true ∧ w.length ≤ 12) ∧ ws.length ≤ 24 ∧ GoodW ws ∧ M_law_words [.bw (ns.map PyData.int), .fz (.int first)] = .ok (.fresh (ws.map PyData.str)) := by
  have c1 := M_law_cell_ok ns (k := first) (by omega) (by omega)
  have c2 := M_law_cell_ok ns (k := first + 1) (by omega) (by omega)
  generalize cellV ns first = a at c1
  generalize cellV ns (first + 1) = b at c2
  have m9 : oMod (.int a) (.int 9) = .ok (.int (a % 9)) := oMod_i (by omega)
  have d9 : oFdiv (.int a) (.int 9) = .ok (.int (a / 9)) := oFdiv_i (by omega)
  have m8 : oMod (.int (a / 9)) (.int 8) = .ok (.int (a / 9 % 8)) := oMod_i (by omega)
  have d72 : oFdiv (.int a) (.int 72) = .ok (.int (a / 72)) := oFdiv_i (by omega)
  have m25 : oMod (.int (a / 72)) (.int 25) = .ok (.int (a / 72 % 25)) := oMod_i (by omega)
  have m3 : oMod (.int b) (.int 3) = .ok (.int (b % 3)) := oMod_i (by omega)
  obtain ⟨n, hn, hpre⟩ : ∃ n : Nat, n ≤ 24 ∧ sSeq (sSet 2 (eOp oMod (eX (xCall M_law_cell (rL (lVar 0) (rV (eVar 1) rNil)))) (eC (.int 9)))) (sIf (bOf (eOp oEq (eOp oMod (eOp oFdiv (eX (xCall M_law_cell (rL (lVar 0) (rV (eVar 1) rNil)))) (eC (.int 9))) (eC (.int 8))) (eC (.int 1)))) (sSet 2 (eOp oMod (eOp oFdiv (eX (xCall M_law_cell (rL (lVar 0) (rV (eVar 1) rNil)))) (eC (.int 72))) (eC (.int 25)))) sNext) [some (.bw (ns.map PyData.int)), some (.fz (.int first)), none, none, none, none, none, none, none] = .nx [some (.bw (ns.map PyData.int)), some (.fz (.int first)), some (.fz (.int (n : Int))), none, none, none, none, none, none] := by
    by_cases h : a / 9 % 8 = 1
    · refine ⟨(a / 72 % 25).toNat, by omega, ?_⟩
      rw [show (((a / 72 % 25).toNat : Nat) : Int) = a / 72 % 25 by omega]
      simp [c1, m9, d9, m8, d72, m25, h]
    · refine ⟨(a % 9).toNat, by omega, ?_⟩
      rw [show (((a % 9).toNat : Nat) : Int) = a % 9 by omega]
      simp [c1, m9, d9, m8, h]
  have hpre2 : ∀ k : SE, sSeq (sSet 2 (eOp oMod (eX (xCall M_law_cell (rL (lVar 0) (rV (eVar 1) rNil)))) (eC (.int 9)))) (sSeq (sIf (bOf (eOp oEq (eOp oMod (eOp oFdiv (eX (xCall M_law_cell (rL (lVar 0) (rV (eVar 1) rNil)))) (eC (.int 9))) (eC (.int 8))) (eC (.int 1)))) (sSet 2 (eOp oMod (eOp oFdiv (eX (xCall M_law_cell (rL (lVar 0) (rV (eVar 1) rNil)))) (eC (.int 72))) (eC (.int 25)))) sNext) k) [some (.bw (ns.map PyData.int)), some (.fz (.int first)), none, none, none, none, none, none, none] = k [some (.bw (ns.map PyData.int)), some (.fz (.int first)), some (.fz (.int (n : Int))), none, none, none, none, none, none] := fun k => by
    have : ∀ (s1 s2 k : SE) (ρ ρ' : Env), sSeq s1 s2 ρ = .nx ρ' → sSeq s1 (sSeq s2 k) ρ = k ρ' := fun s1 s2 k ρ ρ' h => by
      unfold sSeq at h ⊢
      cases e : s1 ρ with
      | nx ρ1 =>
        rw [e] at h
        show (s2 ρ1).then k = _
        have h' : s2 ρ1 = .nx ρ' := h
        rw [h']
        rfl
      | bk _ => rw [e] at h; cases h
      | ct _ => rw [e] at h; cases h
      | rt _ _ => rw [e] at h; cases h
      | ex _ _ => rw [e] at h; cases h
      | stuck => rw [e] at h; cases h
    exact this _ _ _ _ _ hpre
  rw [M_law_words_eq]
  unfold F_law_words
  by_cases hn0 : n = 0
  · refine ⟨[], fun w h => (List.not_mem_nil h).elim, Nat.zero_le _, ⟨Nat.zero_le _, fun w h => (List.not_mem_nil h).elim, fun i j hi => absurd hi (Nat.not_lt_zero i)⟩, ?_⟩
    refine runF_rt [some (.bw (ns.map PyData.int)), some (.fz (.int first)), none, none, none, none, none, none, none] rfl rfl (ρ' := [some (.bw (ns.map PyData.int)), some (.fz (.int first)), some (.fz (.int (n : Int))), none, none, none, none, none, none]) ?_
    rw [g_law_words_eq, hpre2]
    refine seq_rt ?_
    have : ((n : Nat) : Int) = 0 := by omega
    simp [this]
  · obtain ⟨t, ht, hwr⟩ : ∃ t : Nat, t ≤ 26 ∧ wRange1 (eOp oAdd (eOp oSub (eVar 2) (eC (.int 1))) (eOp oMod (eX (xCall M_law_cell (rL (lVar 0) (rV (eOp oAdd (eVar 1) (eC (.int 1))) rNil)))) (eC (.int 3)))) (envLw' ns first (n : Int) [Str.ofString ""] none none none none none) = .ok ((List.range' 0 t).map fun k => PyData.int ((k : Nat) : Int)) := by
      refine ⟨((n : Int) - 1 + b % 3).toNat, by omega, ?_⟩
      rw [← rng_nat, wRange1_ok (n := (n : Int) - 1 + b % 3) (by simp [c2, m3]) ⟨by omega, by omega⟩]
      rfl
    obtain ⟨ρ', e, ws, hT, hx, hok, hlen, rfl⟩ := forGo_invN (tg := tgN 4) (ws := [4, 6, 7, 8]) (body := bodyWds) (fun j ρ => ∃ ws, Tree ws ∧ Lv 12 (lensW ws) ∧ okS ws ∧ ws.length = j + 1 ∧ ρ = envLw' ns first (n : Int) ws none none none none none) t 0 (ρ := envLw' ns first (n : Int) [Str.ofString ""] none none none none none) ⟨[Str.ofString ""], ⟨fun w hw c hc => by rw [List.mem_singleton.mp hw] at hc; exact (List.not_mem_nil hc).elim, List.pairwise_singleton _ _⟩, Lv.leaf 12, fun w hw => by rw [List.mem_singleton.mp hw]; exact strOk_e, rfl, rfl⟩ (fun j ρ hj ⟨ws, hT, hx, hok, hl, e⟩ => by
      subst e
      obtain ⟨ws', g0, g1, g2, g3, g4⟩ := turnWds (ns := ns) (first := first) (n := (n : Int)) hT (by omega) hx hok hl (by omega)
      exact ⟨_, g4, ws', g0, g1, g2, g3, rfl⟩)
    have hle : ∀ w ∈ ws, w.length ≤ 12 := fun w hw => by
      have := (hx.le _ (List.mem_map.mpr ⟨w, hw, rfl⟩)).2
      omega
    -- one empty word becomes two
    obtain ⟨us, hu0, hu1, hu2, hu3, hif⟩ : ∃ us : List Str, (Tree us ∧ ∀ w ∈ us, 1 ≤ w.length) ∧ (∀ w ∈ us, PyData.strOk w = true ∧ w.length ≤ 12) ∧ 1 ≤ us.length ∧ us.length ≤ 30 ∧ sIf (bOf (eOp oEq (rVar 3) (eOfL (lLst [(eC (.str (Str.ofString "")))])))) (sSetL 3 (lLst [(eC (.str (Str.ofString "0"))), (eC (.str (Str.ofString "1")))])) sNext (envLw' ns first (n : Int) ws none none none none none) = .nx (envLw' ns first (n : Int) us none none none none none) := by
      have hcmp : bOf (eOp oEq (rVar 3) (eOfL (lLst [(eC (.str (Str.ofString "")))]))) (envLw' ns first (n : Int) ws none none none none none) = .ok (PyData.eqv (.list (ws.map PyData.str)) (.list [.str (Str.ofString "")])) := by
        have s1 := shaped_of (shp_strs 0 hok)
        have s2 : SeqAt.shaped (.list [.str (Str.ofString "")]) = true := shaped_of (shp_strs 0 (ss := [Str.ofString ""]) fun s hs => by rw [List.mem_singleton.mp hs]; exact strOk_e)
        rw [bOf_ap, eOp_ap, show rVar 3 (envLw' ns first (n : Int) ws none none none none none) = .ok (.list (ws.map PyData.str)) from rfl, Out.bind_ok, eOfL_ap, lLst_ap, aAll_cons, eC_ap, Out.bind_ok, aAll_nil, Out.bind_ok, Out.bind_ok, Out.bind_ok]
        unfold oEq
        rw [s1, s2]
        rfl
      cases hc : PyData.eqv (.list (ws.map PyData.str)) (.list [.str (Str.ofString "")]) with
      | true =>
        refine ⟨[Str.ofString "0", Str.ofString "1"], ⟨⟨fun w hw c hc => ?_, List.pairwise_cons.mpr ⟨fun x hx => by rw [List.mem_singleton.mp hx]; exact far_bits (Str.ofString ""), List.pairwise_singleton _ _⟩⟩, fun w hw => ?_⟩, fun w hw => ?_, by decide, by decide, ?_⟩
        · rcases List.mem_cons.mp hw with rfl | hw
          · exact .inl (List.mem_singleton.mp hc)
          · rw [List.mem_singleton.mp hw] at hc; exact .inr (List.mem_singleton.mp hc)
        · rcases List.mem_cons.mp hw with rfl | hw
          · decide
          · rw [List.mem_singleton.mp hw]; decide
        · rcases List.mem_cons.mp hw with rfl | hw
          · exact ⟨strOk_0, by decide⟩
          · rw [List.mem_singleton.mp hw]; exact ⟨strOk_1, by decide⟩
        · rw [sIf_ap, hcmp, hc]
          rfl
      | false =>
        have hge : ∀ w ∈ ws, 1 ≤ w.length := fun w hw => by
          by_cases h2 : 2 ≤ ws.length
          · have := hx.ge1 (by rw [List.length_map]; exact h2) _ (List.mem_map.mpr ⟨w, hw, rfl⟩)
            omega
          · exfalso
            obtain ⟨w0, hw0⟩ : ∃ w0, ws = [w0] := List.length_eq_one_iff.mp (by omega)
            subst hw0
            have h0 : w0.length = 0 := by
              have hx' : Lv 12 [((w0.length : Nat) : Int)] := hx
              generalize hq : [((w0.length : Nat) : Int)] = q at hx'
              cases hx' with
              | leaf _ => simpa using hq
              | node a b =>
                have := a.pos
                have := b.pos
                have := congrArg List.length hq
                rw [List.length_map, List.length_append, List.length_singleton] at this
                omega
            have he : w0 = Str.ofString "" := Str.ext' (Array.eq_empty_of_size_eq_zero h0)
            rw [he] at hc
            rw [show PyData.eqv (.list ([Str.ofString ""].map PyData.str)) (.list [.str (Str.ofString "")]) = true from SeqAt.eqv_refl (d := .list [.str (Str.ofString "")]) (shp_strs 0 (ss := [Str.ofString ""]) fun s hs => by rw [List.mem_singleton.mp hs]; exact strOk_e).1] at hc
            cases hc
        refine ⟨ws, ⟨hT, hge⟩, fun w hw => ⟨hok w hw, hle w hw⟩, by omega, by omega, ?_⟩
        rw [sIf_ap, hcmp, hc]
        rfl
    obtain ⟨m, hm1, hm2, hwr2⟩ : ∃ m : Nat, m ≤ us.length ∧ m ≤ 24 ∧ wRange1 (eOp oMin (eVar 2) (eLenV (rVar 3))) (envLw' ns first (n : Int) us none (some (.ow [])) none none none) = .ok ((List.range' 0 m).map fun k => PyData.int ((k : Nat) : Int)) := by
      refine ⟨min n us.length, by omega, by omega, ?_⟩
      have hv : eOp oMin (eVar 2) (eLenV (rVar 3)) (envLw' ns first (n : Int) us none (some (.ow [])) none none none) = .ok (.int ((min n us.length : Nat) : Int)) := by
        rw [eOp_ap, show eVar 2 (envLw' ns first (n : Int) us none (some (.ow [])) none none none) = .ok (.int (n : Int)) from rfl, Out.bind_ok, show eLenV (rVar 3) (envLw' ns first (n : Int) us none (some (.ow [])) none none none) = .ok (.int ((us.map PyData.str).length : Int)) from rfl, Out.bind_ok, List.length_map]
        show Out.ok (PyData.int (if (us.length : Int) < (n : Int) then (us.length : Int) else (n : Int))) = _
        congr 2
        split <;> omega
      rw [← rng_nat, wRange1_ok hv ⟨by omega, by omega⟩]
      rfl
    obtain ⟨ρ2, e2, vs, fs, hp, hl1, hl2, rfl⟩ := forGo_invN (tg := tgN 4) (ws := [4]) (body := popWds) (fun j ρ => ∃ vs fs : List Str, (fs ++ vs).Perm us ∧ vs.length = us.length - j ∧ fs.length = j ∧ ρ = envLw' ns first (n : Int) vs none (some (.ow (fs.map PyData.str))) none none none) m 0 (ρ := envLw' ns first (n : Int) us none (some (.ow [])) none none none) ⟨us, [], List.Perm.refl _, rfl, rfl, rfl⟩ (fun j ρ hj ⟨vs, fs, h1, h2, h3, e⟩ => by
      subst e
      obtain ⟨vs', fs', g1, g2, g3, g4⟩ := popWds_ok (ns := ns) (first := first) (n := (n : Int)) (j := j) (ws := vs) (fs := fs) (by omega) (by omega) (by omega) (by omega) (by omega)
      exact ⟨_, g4, vs', fs', g1.trans h1, by omega, by omega, rfl⟩)
    have hmem : ∀ w ∈ fs, w ∈ us := fun w hw => hp.mem_iff.mp (List.mem_append.mpr (.inl hw))
    have hfar : fs.Pairwise Far := (List.pairwise_append.mp (far_perm hp.symm hu0.1.2)).1
    refine ⟨fs, fun w hw => hu1 w (hmem w hw), by omega, ⟨by omega, fun w hw => ⟨⟨hu0.2 w (hmem w hw), (hu1 w (hmem w hw)).2⟩, hu0.1.1 w (hmem w hw)⟩, far_apart hfar⟩, ?_⟩
    refine runF_rt [some (.bw (ns.map PyData.int)), some (.fz (.int first)), none, none, none, none, none, none, none] rfl rfl (ρ' := envLw' ns first (n : Int) vs none (some (.ow (fs.map PyData.str))) none none none) ?_
    have hne0 : ¬ ((n : Nat) : Int) = 0 := by omega
    rw [g_law_words_eq, hpre2]
    rw [seq_nx (ρ' := [some (.bw (ns.map PyData.int)), some (.fz (.int first)), some (.fz (.int (n : Int))), none, none, none, none, none, none]) (by simp [hn0])]
    rw [seq_nx (show sSetL 3 (lLst [(eC (.str (Str.ofString "")))]) [some (.bw (ns.map PyData.int)), some (.fz (.int first)), some (.fz (.int (n : Int))), none, none, none, none, none, none] = .nx (envLw' ns first (n : Int) [Str.ofString ""] none none none none none) from rfl)]
    rw [seq_nx ((for_of hwr).trans e), seq_nx hif]
    rw [seq_nx (show sSetL 5 (lLst []) (envLw' ns first (n : Int) us none none none none none) = .nx (envLw' ns first (n : Int) us none (some (.ow [])) none none none) from rfl)]
    rw [seq_nx ((for_of hwr2).trans e2)]
    rfl
theorem M_law_words_ok (ns : List Int) {first : Int} (hf : 0 ≤ first ∧ first ≤ 900) : ∃ ws : List Str, (∀ w ∈ ws, PyData.strOk w = true ∧ w.length ≤ 12) ∧ ws.length ≤ 24 ∧ M_law_words [.bw (ns.map PyData.int), .fz (.int first)] = .ok (.fresh (ws.map PyData.str)) := by
  obtain ⟨ws, a, b, _, c⟩ := M_law_words_good ns hf
  exact ⟨ws, a, b, c⟩

/-! law_row_2: slots 0:_law_script 1:_law_many 2:_law_row_here 3:_law_wrong 4:_law_k -/
def g_law_row_2 : SE := (sSeq (sSetL 2 (lComp (wRange1 (eOp oMul (eOp oMod (eX (xCall M_law_cell (rL (lVar 0) (rV (eC (.int 4)) rNil)))) (eC (.int 31))) (eIntB (eOp oGt (eVar 1) (eC (.int 0)))))) (tgN 4) [4] bYes (eOp oMod (eX (xCall M_law_cell (rL (lVar 0) (rV (eOp oAdd (eC (.int 20)) (eVar 4)) rNil)))) (eOp oMax (eC (.int 1)) (eVar 1)))))
  (sSeq (sIf (bOf (eOp oEq (eOp oMod (eX (xCall M_law_cell (rL (lVar 0) (rV (eC (.int 5)) rNil)))) (eC (.int 5))) (eC (.int 1)))) (sSeq (sSetL 3 (lLst [(eVar 1), (eNeg (eC (.int 1))), (eC (.bool true)), (eC (.bool false)), (eC (.str (Str.ofString "0"))), (eC .none), (eOfL (lLst [(eC (.int 0))])), (eOp oAdd (eOp oAdd (eVar 1) (eC (.int 1))) (eOp oMod (eOp oFdiv (eX (xCall M_law_cell (rL (lVar 0) (rV (eC (.int 5)) rNil)))) (eC (.int 35))) (eC (.int 1000))))]))
  (sIns 2 (eOp oMod (eX (xCall M_law_cell (rL (lVar 0) (rV (eC (.int 6)) rNil)))) (eOp oAdd (eLenV (rVar 2)) (eC (.int 1)))) (eIx (lVar 3) (eOp oMod (eOp oFdiv (eX (xCall M_law_cell (rL (lVar 0) (rV (eC (.int 5)) rNil)))) (eC (.int 5))) (eC (.int 8)))))) sNext)
  (sRetO 2)))
def F_law_row_2 : FN := runF 2 5 g_law_row_2
theorem ex_law_row_2 : ∃ M : FN, M = F_law_row_2 := ⟨_, rfl⟩
def M_law_row_2 : FN := ex_law_row_2.choose
theorem M_law_row_2_eq : M_law_row_2 = F_law_row_2 := ex_law_row_2.choose_spec
theorem ok_law_row_2 : ∀ as : List SL, as.length = 2 → M_law_row_2 as ≠ .stuck → F_law_row_2 as = M_law_row_2 as := fun _ _ _ => by rw [M_law_row_2_eq]
/-- what a row may hold -/
def okRw (d : PyData) : Prop := noDict d = true ∧ shp 2 d
theorem okRw_int (k : Int) : okRw (.int k) := ⟨rfl, shp_int 2 k⟩
abbrev rowS (ns : List Int) (n : Nat) : List Int := (List.range ((cellV ns 4 % 31) * (if 0 < n then 1 else 0)).toNat).map fun k : Nat => cellV ns (20 + (k : Int)) % max 1 (n : Int)
theorem M_law_row_2_ok (ns : List Int) {n : Nat} (hn : n ≤ 1000) : ∃ row : List PyData, (∀ d ∈ row, okRw d) ∧ row.length ≤ 40 ∧ M_law_row_2 [.bw (ns.map PyData.int), .fz (.int (n : Int))] = .ok (.fresh row) := by
  have c4 := M_law_cell_ok ns (k := 4) (by omega) (by omega)
  have c5 := M_law_cell_ok ns (k := 5) (by omega) (by omega)
  have c6 := M_law_cell_ok ns (k := 6) (by omega) (by omega)
  generalize cellV ns 4 = v4 at c4
  generalize cellV ns 5 = v5 at c5
  generalize cellV ns 6 = v6 at c6
  have m31 : oMod (.int v4) (.int 31) = .ok (.int (v4 % 31)) := oMod_i (by omega)
  have m5 : oMod (.int v5) (.int 5) = .ok (.int (v5 % 5)) := oMod_i (by omega)
  have d5 : oFdiv (.int v5) (.int 5) = .ok (.int (v5 / 5)) := oFdiv_i (by omega)
  have m8 : oMod (.int (v5 / 5)) (.int 8) = .ok (.int (v5 / 5 % 8)) := oMod_i (by omega)
  have d35 : oFdiv (.int v5) (.int 35) = .ok (.int (v5 / 35)) := oFdiv_i (by omega)
  have m1000 : oMod (.int (v5 / 35)) (.int 1000) = .ok (.int (v5 / 35 % 1000)) := oMod_i (by omega)
  obtain ⟨t, ht, hmul⟩ : ∃ t : Nat, t ≤ 30 ∧ oMul (.int (v4 % 31)) (.int (if decide ((0 : Int) < (n : Int)) = true then 1 else 0)) = .ok (.int (t : Int)) := by
    by_cases h : (0 : Int) < (n : Int)
    · refine ⟨(v4 % 31).toNat, by omega, ?_⟩
      rw [decide_eq_true h, if_pos rfl, oMul_l (by omega)]
      congr 2
      omega
    · refine ⟨0, by omega, ?_⟩
      rw [decide_eq_false h, if_neg (by decide), oMul_l (by omega)]
      congr 2
      omega
  have hcomp : lComp (wRange1 (eOp oMul (eOp oMod (eX (xCall M_law_cell (rL (lVar 0) (rV (eC (.int 4)) rNil)))) (eC (.int 31))) (eIntB (eOp oGt (eVar 1) (eC (.int 0)))))) (tgN 4) [4] bYes (eOp oMod (eX (xCall M_law_cell (rL (lVar 0) (rV (eOp oAdd (eC (.int 20)) (eVar 4)) rNil)))) (eOp oMax (eC (.int 1)) (eVar 1))) [some (.bw (ns.map PyData.int)), some (.fz (.int (n : Int))), none, none, none] = .ok (((List.range t).map fun k : Nat => cellV ns (20 + (k : Int)) % (if (n : Int) > 1 then (n : Int) else 1)).map PyData.int) := by
    have hw : wRange1 (eOp oMul (eOp oMod (eX (xCall M_law_cell (rL (lVar 0) (rV (eC (.int 4)) rNil)))) (eC (.int 31))) (eIntB (eOp oGt (eVar 1) (eC (.int 0))))) [some (.bw (ns.map PyData.int)), some (.fz (.int (n : Int))), none, none, none] = .ok (rngD 0 t 1) := by
      rw [wRange1_ok (n := (t : Int)) (by
        have hi : eIntB (eOp oGt (eVar 1) (eC (.int 0))) [some (.bw (ns.map PyData.int)), some (.fz (.int (n : Int))), none, none, none] = .ok (.int (if decide ((0 : Int) < (n : Int)) = true then 1 else 0)) := rfl
        simp only [eOp_ap, hi, eX_val (show xCall M_law_cell (rL (lVar 0) (rV (eC (.int 4)) rNil)) [some (.bw (ns.map PyData.int)), some (.fz (.int (n : Int))), none, none, none] = .ok (.val (.int v4)) from c4), Out.bind_ok, eC_ap, m31]
        exact hmul) ⟨by omega, by omega⟩, show ((t : Int)).toNat = t by omega]
    rw [lComp_map (fun d => match d with
      | .int k => .int (cellV ns (20 + k) % (if (n : Int) > 1 then (n : Int) else 1))
      | d => d) hw (by rw [rng_map, List.length_map, List.length_range]; omega) (fun d hd => by
        rw [rng_map] at hd
        obtain ⟨k, hk, rfl⟩ := List.mem_map.mp hd
        have hk := List.mem_range.mp hk
        have ck := M_law_cell_ok ns (k := 20 + (k : Int)) (by omega) (by omega)
        refine ⟨_, rfl, rfl, ?_⟩
        have hm : oMod (.int (cellV ns (20 + (k : Int)))) (.int (if (n : Int) > 1 then (n : Int) else 1)) = .ok (.int (cellV ns (20 + (k : Int)) % (if (n : Int) > 1 then (n : Int) else 1))) := oMod_i (by split <;> omega)
        have hc2 : eX (xCall M_law_cell (rL (lVar 0) (rV (eOp oAdd (eC (.int 20)) (eVar 4)) rNil))) [some (.bw (ns.map PyData.int)), some (.fz (.int (n : Int))), none, none, some (.fz (.int (k : Int)))] = .ok (.int (cellV ns (20 + (k : Int)))) := eX_val ck
        show eOp oMod _ _ [some (.bw (ns.map PyData.int)), some (.fz (.int (n : Int))), none, none, some (.fz (.int (k : Int)))] = _
        rw [eOp_ap, hc2, Out.bind_ok]
        exact hm)]
    rw [rng_map, List.map_map, List.map_map]
    rfl
  generalize hxs : ((List.range t).map fun k : Nat => cellV ns (20 + (k : Int)) % (if (n : Int) > 1 then (n : Int) else 1)) = xs at hcomp
  have hxl : xs.length = t := by rw [← hxs, List.length_map, List.length_range]
  clear hxs
  rw [M_law_row_2_eq]
  unfold F_law_row_2
  have hokx : ∀ d ∈ xs.map PyData.int, okRw d := fun d hd => by
    obtain ⟨k, _, rfl⟩ := List.mem_map.mp hd
    exact okRw_int k
  by_cases c1 : v5 % 5 = 1
  · obtain ⟨p, hp1, hp2⟩ : ∃ p : Nat, p ≤ xs.length ∧ oMod (.int v6) (.int ((xs.length : Int) + 1)) = .ok (.int (p : Int)) := by
      have e0 := Int.emod_nonneg v6 (b := (xs.length : Int) + 1) (by omega)
      have e1 := Int.emod_lt_of_pos v6 (b := (xs.length : Int) + 1) (by omega)
      refine ⟨(v6 % ((xs.length : Int) + 1)).toNat, by omega, ?_⟩
      rw [oMod_i (by omega)]
      congr 2
      omega
    obtain ⟨w, hw1, hw2⟩ : ∃ w, okRw w ∧ atI [.int (n : Int), .int (-1), .bool true, .bool false, .str (Str.ofString "0"), .none, .list [.int 0], .int ((n : Int) + 1 + v5 / 35 % 1000)] (v5 / 5 % 8) = some w := by
      have : v5 / 5 % 8 = 0 ∨ v5 / 5 % 8 = 1 ∨ v5 / 5 % 8 = 2 ∨ v5 / 5 % 8 = 3 ∨ v5 / 5 % 8 = 4 ∨ v5 / 5 % 8 = 5 ∨ v5 / 5 % 8 = 6 ∨ v5 / 5 % 8 = 7 := by omega
      rcases this with e | e | e | e | e | e | e | e <;> rw [e]
      · exact ⟨_, okRw_int _, rfl⟩
      · exact ⟨_, okRw_int _, rfl⟩
      · exact ⟨_, ⟨rfl, shp_bool _ _⟩, rfl⟩
      · exact ⟨_, ⟨rfl, shp_bool _ _⟩, rfl⟩
      · exact ⟨_, ⟨rfl, shp_str _ (by decide +kernel)⟩, rfl⟩
      · exact ⟨_, ⟨rfl, shp_none _⟩, rfl⟩
      · exact ⟨_, ⟨rfl, shp_ints 1 [0]⟩, rfl⟩
      · exact ⟨_, okRw_int _, rfl⟩
    refine ⟨(xs.map PyData.int).take p ++ w :: (xs.map PyData.int).drop p, fun d hd => ?_, ?_, ?_⟩
    · rcases List.mem_append.mp hd with hd | hd
      · exact hokx d (List.mem_of_mem_take hd)
      · rcases List.mem_cons.mp hd with rfl | hd
        · exact hw1
        · exact hokx d (List.mem_of_mem_drop hd)
    · rw [List.length_append, List.length_cons, List.length_take, List.length_drop, List.length_map]
      omega
    · refine runF_rt [some (.bw (ns.map PyData.int)), some (.fz (.int (n : Int))), none, none, none] rfl rfl (ρ' := [some (.bw (ns.map PyData.int)), some (.fz (.int (n : Int))), some (.ow ((xs.map PyData.int).take p ++ w :: (xs.map PyData.int).drop p)), some (.ow [.int (n : Int), .int (-1), .bool true, .bool false, .str (Str.ofString "0"), .none, .list [.int 0], .int ((n : Int) + 1 + v5 / 35 % 1000)]), none]) ?_
      unfold g_law_row_2
      rw [seq_nx (ρ' := [some (.bw (ns.map PyData.int)), some (.fz (.int (n : Int))), some (.ow (xs.map PyData.int)), none, none]) (by rw [sSetL_ap, hcomp]; rfl)]
      have hxl2 : (xs.map PyData.int).length = xs.length := List.length_map _
      generalize xs.map PyData.int = A at hxl2 ⊢
      rw [seq_nx (ρ' := [some (.bw (ns.map PyData.int)), some (.fz (.int (n : Int))), some (.ow (A.take p ++ w :: A.drop p)), some (.ow [.int (n : Int), .int (-1), .bool true, .bool false, .str (Str.ofString "0"), .none, .list [.int 0], .int ((n : Int) + 1 + v5 / 35 % 1000)]), none]) ?_]
      · rfl
      rw [sIf_ap, show bOf (eOp oEq (eOp oMod (eX (xCall M_law_cell (rL (lVar 0) (rV (eC (.int 5)) rNil)))) (eC (.int 5))) (eC (.int 1))) [some (.bw (ns.map PyData.int)), some (.fz (.int (n : Int))), some (.ow A), none, none] = .ok true by simp [c5, m5, c1], wOut_ok, if_pos rfl]
      rw [seq_nx (ρ' := [some (.bw (ns.map PyData.int)), some (.fz (.int (n : Int))), some (.ow A), some (.ow [.int (n : Int), .int (-1), .bool true, .bool false, .str (Str.ofString "0"), .none, .list [.int 0], .int ((n : Int) + 1 + v5 / 35 % 1000)]), none]) (by
        simp [c5, d35, m1000, eNeg])]
      have hk : eOp oMod (eX (xCall M_law_cell (rL (lVar 0) (rV (eC (.int 6)) rNil)))) (eOp oAdd (eLenV (rVar 2)) (eC (.int 1))) [some (.bw (ns.map PyData.int)), some (.fz (.int (n : Int))), some (.ow A), some (.ow [.int (n : Int), .int (-1), .bool true, .bool false, .str (Str.ofString "0"), .none, .list [.int 0], .int ((n : Int) + 1 + v5 / 35 % 1000)]), none] = .ok (.int (p : Int)) := by
        simp [c6, hxl2, hp2]
      have he : eIx (lVar 3) (eOp oMod (eOp oFdiv (eX (xCall M_law_cell (rL (lVar 0) (rV (eC (.int 5)) rNil)))) (eC (.int 5))) (eC (.int 8))) [some (.bw (ns.map PyData.int)), some (.fz (.int (n : Int))), some (.ow A), some (.ow [.int (n : Int), .int (-1), .bool true, .bool false, .str (Str.ofString "0"), .none, .list [.int 0], .int ((n : Int) + 1 + v5 / 35 % 1000)]), none] = .ok w := eIx_ok rfl (k := v5 / 5 % 8) (by simp [c5, d5, m8]) hw2
      show wOut _ _ (fun nn => wOut _ _ fun d => _) = _
      rw [hk, wOut_ok, he, wOut_ok]
      dsimp only
      rw [if_pos ⟨by omega, by omega, by omega⟩]
      rfl
  · refine ⟨xs.map PyData.int, hokx, by rw [List.length_map]; omega, ?_⟩
    refine runF_rt [some (.bw (ns.map PyData.int)), some (.fz (.int (n : Int))), none, none, none] rfl rfl (ρ' := [some (.bw (ns.map PyData.int)), some (.fz (.int (n : Int))), some (.ow (xs.map PyData.int)), none, none]) ?_
    unfold g_law_row_2
    rw [seq_nx (ρ' := [some (.bw (ns.map PyData.int)), some (.fz (.int (n : Int))), some (.ow (xs.map PyData.int)), none, none]) (by rw [sSetL_ap, hcomp]; rfl)]
    generalize xs.map PyData.int = A
    rw [seq_nx (ρ' := [some (.bw (ns.map PyData.int)), some (.fz (.int (n : Int))), some (.ow A), none, none]) ?_]
    · rfl
    rw [sIf_ap, show bOf (eOp oEq (eOp oMod (eX (xCall M_law_cell (rL (lVar 0) (rV (eC (.int 5)) rNil)))) (eC (.int 5))) (eC (.int 1))) [some (.bw (ns.map PyData.int)), some (.fz (.int (n : Int))), some (.ow A), none, none] = .ok false by simp [c5, m5, c1], wOut_ok, if_neg (by decide)]
    rfl

/-! parted: slots 0:table 1:first 2:last 3:depth 4:middle 5:both 6:times -/
def g_parted (self_ : FN) : SE := (sSeq (sIf (bOf (eOp oEq (eOp oSub (eVar 2) (eVar 1)) (eC (.int 1)))) (sRetL (lLst [(eC (.int 0))])) sNext)
  (sSeq (sSet 4 (eIxT (eX (xCall M_least_parts (rD 0 (rV (eVar 1) (rV (eVar 2) (rV (eOp oSub (eVar 3) (eC (.int 1))) rNil)))))) (eC (.int 1))))
  (sSeq (sSetL 5 (lCat (lX (xCall self_ (rD 0 (rV (eVar 1) (rV (eVar 4) (rV (eOp oSub (eVar 3) (eC (.int 1))) rNil)))))) (lX (xCall self_ (rD 0 (rV (eVar 4) (rV (eVar 2) (rV (eOp oSub (eVar 3) (eC (.int 1))) rNil))))))))
  (sRetL (lComp (lVar 5) (tgN 6) [6] bYes (eOp oAdd (eC (.int 1)) (eVar 6)))))))
def R_parted : Nat → FN
  | 0 => fun _ => .stuck
  | n + 1 => runF 4 7 (g_parted (R_parted n))
def F_parted : FN := R_parted 14
theorem ex_parted : ∃ M : FN, M = F_parted := ⟨_, rfl⟩
def M_parted : FN := ex_parted.choose
theorem M_parted_eq : M_parted = F_parted := ex_parted.choose_spec
theorem ok_parted : ∀ as : List SL, as.length = 4 → M_parted as ≠ .stuck → F_parted as = M_parted as := fun _ _ _ => by rw [M_parted_eq]
theorem comp_one {ρ : Env} {ns : List Int} {l : LE} (h : l ρ = .ok (ns.map PyData.int)) (hlen : ns.length < 1000000) (i : Nat) (hi : eOp oAdd (eC (.int 1)) (eVar i) = eOp oAdd (eC (.int 1)) (eVar i)) (hv : ∀ d, eVar i ((wp [i] ρ).set i (some (.fz d))) = .ok d) :
    lComp l (tgN i) [i] bYes (eOp oAdd (eC (.int 1)) (eVar i)) ρ = .ok ((ns.map (1 + ·)).map PyData.int) := by
  rw [lComp_map (fun d => match d with
    | .int k => .int (1 + k)
    | d => d) h (by rw [List.length_map]; exact hlen) (fun d hd => by
      obtain ⟨k, _, rfl⟩ := List.mem_map.mp hd
      exact ⟨_, rfl, rfl, by rw [eOp_ap, eC_ap, Out.bind_ok, hv, Out.bind_ok]; rfl⟩)]
  rw [List.map_map, List.map_map]
  rfl
theorem R_parted_ok {ws : List Int} {b : Nat} (hn : ws.length ≤ 24) (hb : b ≤ 12) : ∀ (d k : Nat), d < k → ∀ f l : Nat, f < l → l ≤ ws.length → l - f ≤ 2 ^ d → d ≤ b →
    R_parted k [.dbw (tabOf ws b), .fz (.int (f : Int)), .fz (.int (l : Int)), .fz (.int (d : Int))] = .ok (.fresh ((partV ws d f l).map PyData.int)) := by
  intro d
  induction d with
  | zero =>
    intro k hk f l h1 h2 h3 h4
    obtain ⟨k, rfl⟩ : ∃ k', k = k' + 1 := ⟨k - 1, by omega⟩
    have h5 : l - f = 1 := by omega
    have h6 : (l : Int) - (f : Int) = 1 := by omega
    rw [partV_one ws h5]
    show runF 4 7 (g_parted (R_parted k)) _ = _
    refine runF_rt [some (.dbw (tabOf ws b)), some (.fz (.int (f : Int))), some (.fz (.int (l : Int))), some (.fz (.int ((0 : Nat) : Int))), none, none, none] rfl rfl (ρ' := [some (.dbw (tabOf ws b)), some (.fz (.int (f : Int))), some (.fz (.int (l : Int))), some (.fz (.int ((0 : Nat) : Int))), none, none, none]) ?_
    unfold g_parted
    simp [h6]
  | succ d ih =>
    intro k hk f l h1 h2 h3 h4
    obtain ⟨k, rfl⟩ : ∃ k', k = k' + 1 := ⟨k - 1, by omega⟩
    show runF 4 7 (g_parted (R_parted k)) _ = _
    by_cases h5 : l - f = 1
    · have h6 : (l : Int) - (f : Int) = 1 := by omega
      rw [partV_one ws h5]
      refine runF_rt [some (.dbw (tabOf ws b)), some (.fz (.int (f : Int))), some (.fz (.int (l : Int))), some (.fz (.int ((d + 1 : Nat) : Int))), none, none, none] rfl rfl (ρ' := [some (.dbw (tabOf ws b)), some (.fz (.int (f : Int))), some (.fz (.int (l : Int))), some (.fz (.int ((d + 1 : Nat) : Int))), none, none, none]) ?_
      unfold g_parted
      generalize ((d + 1 : Nat) : Int) = D
      simp [h6]
    · have h6 : ¬ (l : Int) - (f : Int) = 1 := by omega
      obtain ⟨a, m, e, g3, g4, g5, g6, g7, g8, g9⟩ := part_mid (ws := ws) (d := d) (f := f) (l := l) (by omega) h3
      have hp := M_least_parts_ok (kvs := tabOf ws b) (f := f) (l := l) (d := (d : Int)) (tval ws d) (by omega) (by omega) (fun x hx1 hx2 => ⟨tab_get hx1 (by omega) (by omega), tab_get hx2 h2 (by omega)⟩)
      rw [e] at hp
      have i1 := ih k (by omega) f m g3 (by omega) g5 (by omega)
      have i2 := ih k (by omega) m l g4 h2 g6 (by omega)
      have l1 := partV_len ws d f m g3 g5
      have l2 := partV_len ws d m l g4 g6
      have hc : ∀ D : Int, ((d + 1 : Nat) : Int) = D → D - 1 = (d : Int) := fun D e => by omega
      refine runF_rt [some (.dbw (tabOf ws b)), some (.fz (.int (f : Int))), some (.fz (.int (l : Int))), some (.fz (.int ((d + 1 : Nat) : Int))), none, none, none] rfl rfl (ρ' := [some (.dbw (tabOf ws b)), some (.fz (.int (f : Int))), some (.fz (.int (l : Int))), some (.fz (.int ((d + 1 : Nat) : Int))), some (.fz (.int (m : Int))), some (.ow ((partV ws d f m ++ partV ws d m l).map PyData.int)), none]) ?_
      generalize hD : ((d + 1 : Nat) : Int) = D
      have hc := hc D hD
      rw [g9]
      generalize tabOf ws b = kvs at hp i1 i2 ⊢
      have hx : ∀ x y z : Option SL, eIxT (eX (xCall M_least_parts (rD 0 (rV (eVar 1) (rV (eVar 2) (rV (eOp oSub (eVar 3) (eC (.int 1))) rNil)))))) (eC (.int 1)) [some (.dbw kvs), some (.fz (.int (f : Int))), some (.fz (.int (l : Int))), some (.fz (.int D)), x, y, z] = .ok (.int (m : Int)) := fun x y z => by
        refine eIxT_ok (ds := [.int a, .int (m : Int)]) (eX_val ?_) rfl rfl
        simp only [bestD] at hp
        simp only [xCall_ap, rD_ap, rV_ap, rNil_ap, dVar_s, dVar_0b, eVar_s, eVar_0, eOp_ap, eC_ap, oSub_i, Out.bind_ok, hc, hp]
      have hs1 : ∀ y z : Option SL, lX (xCall (R_parted k) (rD 0 (rV (eVar 1) (rV (eVar 4) (rV (eOp oSub (eVar 3) (eC (.int 1))) rNil))))) [some (.dbw kvs), some (.fz (.int (f : Int))), some (.fz (.int (l : Int))), some (.fz (.int D)), some (.fz (.int (m : Int))), y, z] = .ok ((partV ws d f m).map PyData.int) := fun y z => by
        refine lX_fresh ?_
        simp only [xCall_ap, rD_ap, rV_ap, rNil_ap, dVar_s, dVar_0b, eVar_s, eVar_0, eOp_ap, eC_ap, oSub_i, Out.bind_ok, hc, i1]
      have hs2 : ∀ y z : Option SL, lX (xCall (R_parted k) (rD 0 (rV (eVar 4) (rV (eVar 2) (rV (eOp oSub (eVar 3) (eC (.int 1))) rNil))))) [some (.dbw kvs), some (.fz (.int (f : Int))), some (.fz (.int (l : Int))), some (.fz (.int D)), some (.fz (.int (m : Int))), y, z] = .ok ((partV ws d m l).map PyData.int) := fun y z => by
        refine lX_fresh ?_
        simp only [xCall_ap, rD_ap, rV_ap, rNil_ap, dVar_s, dVar_0b, eVar_s, eVar_0, eOp_ap, eC_ap, oSub_i, Out.bind_ok, hc, i2]
      have hcat : ∀ y z : Option SL, lCat (lX (xCall (R_parted k) (rD 0 (rV (eVar 1) (rV (eVar 4) (rV (eOp oSub (eVar 3) (eC (.int 1))) rNil)))))) (lX (xCall (R_parted k) (rD 0 (rV (eVar 4) (rV (eVar 2) (rV (eOp oSub (eVar 3) (eC (.int 1))) rNil)))))) [some (.dbw kvs), some (.fz (.int (f : Int))), some (.fz (.int (l : Int))), some (.fz (.int D)), some (.fz (.int (m : Int))), y, z] = .ok ((partV ws d f m ++ partV ws d m l).map PyData.int) := fun y z => by
        unfold lCat
        rw [hs1, hs2, Out.bind_ok, Out.bind_ok, if_pos (by rw [List.length_map, List.length_map, l1, l2]; omega), List.map_append]
      have hcomp := comp_one (ρ := [some (.dbw kvs), some (.fz (.int (f : Int))), some (.fz (.int (l : Int))), some (.fz (.int D)), some (.fz (.int (m : Int))), some (.ow ((partV ws d f m ++ partV ws d m l).map PyData.int)), none]) (l := lVar 5) (ns := partV ws d f m ++ partV ws d m l) rfl (by rw [List.length_append, l1, l2]; omega) 6 rfl (fun _ => rfl)
      unfold g_parted
      simp [h6, hx, hcat, -List.map_append, hcomp]
theorem M_parted_ok {ws : List Int} {b f l d : Nat} (hn : ws.length ≤ 24) (hb : b ≤ 12) (h1 : f < l) (h2 : l ≤ ws.length) (h3 : l - f ≤ 2 ^ d) (h4 : d ≤ b) :
    M_parted [.dbw (tabOf ws b), .fz (.int (f : Int)), .fz (.int (l : Int)), .fz (.int (d : Int))] = .ok (.fresh ((partV ws d f l).map PyData.int)) := by
  rw [M_parted_eq]
  exact R_parted_ok hn hb d 14 (by omega) f l h1 h2 h3 h4

/-! ordered_lengths: slots 0:weights 1:bound 2:table -/
def g_ordered_lengths : SE := (sSeq (sSetX 2 (xCall M_least_table (rL (lVar 0) (rV (eVar 1) rNil))))
  (sSeq (sIf (bOf (eOp oLt (eLenV (rVar 0)) (eC (.int 2)))) (sRetL (lRep (lLst [(eC (.int 1))]) (eLenV (rVar 0)))) sNext)
  (sRetX (xCall M_parted (rD 2 (rV (eC (.int 0)) (rV (eLenV (rVar 0)) (rV (eVar 1) rNil))))))))
def F_ordered_lengths : FN := runF 2 3 g_ordered_lengths
theorem ex_ordered_lengths : ∃ M : FN, M = F_ordered_lengths := ⟨_, rfl⟩
def M_ordered_lengths : FN := ex_ordered_lengths.choose
theorem M_ordered_lengths_eq : M_ordered_lengths = F_ordered_lengths := ex_ordered_lengths.choose_spec
theorem ok_ordered_lengths : ∀ as : List SL, as.length = 2 → M_ordered_lengths as ≠ .stuck → F_ordered_lengths as = M_ordered_lengths as := fun _ _ _ => by rw [M_ordered_lengths_eq]
/-- the ordered lengths -/
def ordV (ws : List Int) (b : Nat) : List Int := if ws.length < 2 then List.replicate ws.length 1 else partV ws b 0 ws.length
theorem rep_one (n : Nat) (i : Int) : (List.replicate n [PyData.int i]).flatten = (List.replicate n i).map PyData.int := by
  induction n with
  | zero => rfl
  | succ n ih => rw [List.replicate_succ, List.flatten_cons, ih, List.replicate_succ]; rfl
theorem M_ordered_lengths_ok {ws : List Int} {b : Nat} (hw : ∀ w ∈ ws, 0 ≤ w ∧ w ≤ 1000000000000) (hn : ws.length ≤ 24) (h1 : 1 ≤ b) (h2 : b ≤ 12) (h3 : ws.length ≤ 2 ^ b) :
    M_ordered_lengths [.bw (ws.map PyData.int), .fz (.int (b : Int))] = .ok (.fresh ((ordV ws b).map PyData.int)) := by
  have ht := M_least_table_ok hn h2 (roomBad_ok hw hn h1 h2 h3)
  rw [M_ordered_lengths_eq]
  unfold F_ordered_lengths
  refine runF_rt [some (.bw (ws.map PyData.int)), some (.fz (.int (b : Int))), none] rfl rfl (ρ' := [some (.bw (ws.map PyData.int)), some (.fz (.int (b : Int))), some (.dow (tabOf ws b))]) ?_
  unfold g_ordered_lengths ordV
  by_cases hl : ws.length < 2
  · rw [if_pos hl]
    have hl2 : (ws.length : Int) < 2 := by omega
    have hr : lRep (lLst [(eC (.int 1))]) (eLenV (rVar 0)) [some (.bw (ws.map PyData.int)), some (.fz (.int (b : Int))), some (.dow (tabOf ws b))] = .ok ((List.replicate ws.length (1 : Int)).map PyData.int) := by
      unfold lRep
      rw [lLst_ap]
      simp only [aAll_cons, aAll_nil, eC_ap, Out.bind_ok, eLenV_ap, rVar_0b, lenOf_l, List.length_map]
      rw [if_pos ⟨by omega, by omega, by simp⟩, show ((ws.length : Int)).toNat = ws.length by omega, rep_one]
    generalize tabOf ws b = kvs at ht hr ⊢
    simp [ht, hl2, hr]
  · rw [if_neg hl]
    have hl2 : ¬ (ws.length : Int) < 2 := by omega
    have hp := M_parted_ok (ws := ws) (b := b) (f := 0) (l := ws.length) (d := b) hn h2 (by omega) (Nat.le_refl _) (by omega) (Nat.le_refl _)
    rw [show ((0 : Nat) : Int) = 0 from rfl] at hp
    generalize tabOf ws b = kvs at ht hp ⊢
    simp [ht, hl2, hp]
theorem ordV_len {ws : List Int} {b : Nat} (h3 : ws.length ≤ 2 ^ b) : (ordV ws b).length = ws.length := by
  unfold ordV
  split
  · rw [List.length_replicate]
  · rw [partV_len ws b 0 ws.length (by omega) (by omega), Nat.sub_zero]

/-! law_spoiled: slots 0:_law_words_here 1:_law_way 2:_law_cell_here 3:_law_at 4:_law_wrong -/
def g_law_spoiled : SE := (sSeq (sSet 3 (eOp oMod (eOp oFdiv (eVar 2) (eC (.int 12))) (eOp oAdd (eLenV (rVar 0)) (eC (.int 1)))))
  (sSeq (sIf (bOf (eOp oEq (rVar 1) (eC (.int 1)))) (sSeq (sSetL 4 (lLst [(eC (.str (Str.ofString ""))), (eC (.str (Str.ofString "2"))), (eC (.str (Str.ofString "0 "))), (eC (.str (Str.ofString "01x"))), (eC (.int 0)), (eC (.bool true)), (eC .none), (eOfL (lLst [(eC (.str (Str.ofString "0")))])), (eTup [(eC (.str (Str.ofString "1")))]), (eOp oRepS (eC (.str (Str.ofString "0"))) (eC (.int 13))), (eOp oRepS (eC (.str (Str.ofString "1"))) (eOp oAdd (eC (.int 13)) (eOp oMod (eOp oFdiv (eVar 2) (eC (.int 12))) (eC (.int 9))))), (eC (.str (Str.ofString "o")))]))
  (sInsM 0 (eVar 3) (eIx (lVar 4) (eOp oMod (eVar 2) (eC (.int 12)))))) sNext)
  (sSeq (sIf (bAnd (bOf (eOp oEq (rVar 1) (eC (.int 2)))) (bOf (eOp oNe (rVar 0) (eOfL (lLst []))))) (sInsM 0 (eVar 3) (eSlS (eIx (lVar 0) (eOp oMod (eVar 2) (eLenV (rVar 0)))) oNo (oPart (eOp oAdd (eC (.int 1)) (eOp oMod (eOp oFdiv (eVar 2) (eC (.int 300))) (eC (.int 12))))))) sNext)
  (sSeq (sIf (bAnd (bOf (eOp oEq (rVar 1) (eC (.int 3)))) (bOf (eOp oNe (rVar 0) (eOfL (lLst []))))) (sInsM 0 (eVar 3) (eOp oCatS (eIx (lVar 0) (eOp oMod (eVar 2) (eLenV (rVar 0)))) (eIxS (eC (.str (Str.ofString "01"))) (eOp oMod (eOp oFdiv (eVar 2) (eC (.int 300))) (eC (.int 2)))))) sNext)
  (sIf (bOf (eOp oEq (rVar 1) (eC (.int 4)))) (sExtM 0 (lRep (lLst [(eC (.str (Str.ofString "0")))]) (eOp oSub (eC (.int 25)) (eOp oMin (eC (.int 24)) (eLenV (rVar 0)))))) sNext)))))
def F_law_spoiled : FM := runM 3 5 g_law_spoiled
theorem ex_law_spoiled : ∃ M : FM, M = F_law_spoiled := ⟨_, rfl⟩
def M_law_spoiled : FM := ex_law_spoiled.choose
theorem M_law_spoiled_eq : M_law_spoiled = F_law_spoiled := ex_law_spoiled.choose_spec
theorem ok_law_spoiled : ∀ ds as es, M_law_spoiled ds as = some es → F_law_spoiled ds as = some es := fun _ _ _ h => by rw [← M_law_spoiled_eq]; exact h
/-- what a list of words may hold -/
def okE (d : PyData) : Prop := noDict d = true ∧ shp 2 d ∧ ∀ s, d = .str s → PyData.strOk s = true ∧ s.length ≤ 1000
theorem okE_str {s : Str} (h : PyData.strOk s = true) (hl : s.length ≤ 1000) : okE (.str s) := ⟨rfl, shp_str 2 h, fun t e => by cases e; exact ⟨h, hl⟩⟩
theorem okE.x {d : PyData} (h : okE d) : okX d := ⟨h.1, fun s e => (h.2.2 s e).2⟩
abbrev envSp (ds : List PyData) (way c : Int) (x3 x4 : Option SL) : Env := [some (.mw ds), some (.fz (.int way)), some (.fz (.int c)), x3, x4]
abbrev wrongE : List VE := [(eC (.str (Str.ofString ""))), (eC (.str (Str.ofString "2"))), (eC (.str (Str.ofString "0 "))), (eC (.str (Str.ofString "01x"))), (eC (.int 0)), (eC (.bool true)), (eC .none), (eOfL (lLst [(eC (.str (Str.ofString "0")))])), (eTup [(eC (.str (Str.ofString "1")))]), (eOp oRepS (eC (.str (Str.ofString "0"))) (eC (.int 13))), (eOp oRepS (eC (.str (Str.ofString "1"))) (eOp oAdd (eC (.int 13)) (eOp oMod (eOp oFdiv (eVar 2) (eC (.int 12))) (eC (.int 9))))), (eC (.str (Str.ofString "o")))]
abbrev cutE : VE := (eSlS (eIx (lVar 0) (eOp oMod (eVar 2) (eLenV (rVar 0)))) oNo (oPart (eOp oAdd (eC (.int 1)) (eOp oMod (eOp oFdiv (eVar 2) (eC (.int 300))) (eC (.int 12))))))
abbrev onE : VE := (eOp oCatS (eIx (lVar 0) (eOp oMod (eVar 2) (eLenV (rVar 0)))) (eIxS (eC (.str (Str.ofString "01"))) (eOp oMod (eOp oFdiv (eVar 2) (eC (.int 300))) (eC (.int 2)))))
abbrev moreE : LE := (lRep (lLst [(eC (.str (Str.ofString "0")))]) (eOp oSub (eC (.int 25)) (eOp oMin (eC (.int 24)) (eLenV (rVar 0)))))
theorem g_law_spoiled_eq : g_law_spoiled = (sSeq (sSet 3 (eOp oMod (eOp oFdiv (eVar 2) (eC (.int 12))) (eOp oAdd (eLenV (rVar 0)) (eC (.int 1)))))
  (sSeq (sIf (bOf (eOp oEq (rVar 1) (eC (.int 1)))) (sSeq (sSetL 4 (lLst wrongE)) (sInsM 0 (eVar 3) (eIx (lVar 4) (eOp oMod (eVar 2) (eC (.int 12)))))) sNext)
  (sSeq (sIf (bAnd (bOf (eOp oEq (rVar 1) (eC (.int 2)))) (bOf (eOp oNe (rVar 0) (eOfL (lLst []))))) (sInsM 0 (eVar 3) cutE) sNext)
  (sSeq (sIf (bAnd (bOf (eOp oEq (rVar 1) (eC (.int 3)))) (bOf (eOp oNe (rVar 0) (eOfL (lLst []))))) (sInsM 0 (eVar 3) onE) sNext)
  (sIf (bOf (eOp oEq (rVar 1) (eC (.int 4)))) (sExtM 0 moreE) sNext))))) := rfl
section
variable {ds : List PyData} {way c k : Int} {x3 x4 : Option SL} {s : SE} {b : BE}
theorem way_c : bOf (eOp oEq (rVar 1) (eC (.int k))) (envSp ds way c x3 x4) = .ok (decide (way = k)) := by
  rw [bOf_ap, eOp_ap, show rVar 1 (envSp ds way c x3 x4) = .ok (.int way) from rfl, Out.bind_ok, eC_ap, Out.bind_ok, oEq_i, Out.bind_ok]
theorem way_no (h : ¬ way = k) : sIf (bOf (eOp oEq (rVar 1) (eC (.int k)))) s sNext (envSp ds way c x3 x4) = .nx (envSp ds way c x3 x4) := by
  rw [sIf_ap, way_c, decide_eq_false h]
  rfl
theorem way_yes (h : way = k) : sIf (bOf (eOp oEq (rVar 1) (eC (.int k)))) s sNext (envSp ds way c x3 x4) = s (envSp ds way c x3 x4) := by
  rw [sIf_ap, way_c, decide_eq_true h]
  rfl
theorem wayA_no (h : ¬ way = k) : sIf (bAnd (bOf (eOp oEq (rVar 1) (eC (.int k)))) b) s sNext (envSp ds way c x3 x4) = .nx (envSp ds way c x3 x4) := by
  rw [sIf_ap, bAnd_ap, way_c, decide_eq_false h]
  rfl
theorem wayA_yes (h : way = k) {q : Bool} (hb : b (envSp ds way c x3 x4) = .ok q) : sIf (bAnd (bOf (eOp oEq (rVar 1) (eC (.int k)))) b) s sNext (envSp ds way c x3 x4) = if q = true then s (envSp ds way c x3 x4) else .nx (envSp ds way c x3 x4) := by
  rw [sIf_ap, bAnd_ap, way_c, decide_eq_true h, Out.bind_ok, if_pos rfl, hb]
  cases q <;> rfl
theorem insM_ok {p : Nat} {e : VE} {d : PyData} (hp : p ≤ ds.length) (hl : ds.length < 1000000) (he : e (envSp ds way c (some (.fz (.int (p : Int)))) x4) = .ok d) : sInsM 0 (eVar 3) e (envSp ds way c (some (.fz (.int (p : Int)))) x4) = .nx (envSp (ds.take p ++ d :: ds.drop p) way c (some (.fz (.int (p : Int)))) x4) := by
  unfold sInsM
  rw [show (envSp ds way c (some (.fz (.int (p : Int)))) x4)[0]? = some (some (.mw ds)) from rfl]
  dsimp only
  rw [show eVar 3 (envSp ds way c (some (.fz (.int (p : Int)))) x4) = .ok (.int (p : Int)) from rfl, wOut_ok, he, wOut_ok]
  dsimp only
  rw [if_pos ⟨by omega, by omega, hl⟩]
  rfl
end
theorem rep_d (d : PyData) : ∀ n : Nat, (List.replicate n [d]).flatten = List.replicate n d
  | 0 => rfl
  | n + 1 => by rw [List.replicate_succ, List.flatten_cons, rep_d d n]; rfl
theorem oRepS_k {z : Str} {k : Int} (h : 0 ≤ k ∧ k ≤ 1000 ∧ z.length ≤ 1000) : oRepS (.str z) (.int k) = .ok (.str (Txt.mul z k)) := if_pos h
theorem okE_ins {ds : List PyData} {d : PyData} {p : Nat} (h : ∀ x ∈ ds, okE x) (hd : okE d) : ∀ x ∈ ds.take p ++ d :: ds.drop p, okE x := fun x hx => by
  rcases List.mem_append.mp hx with hx | hx
  · exact h x (List.mem_of_mem_take hx)
  · rcases List.mem_cons.mp hx with rfl | hx
    · exact hd
    · exact h x (List.mem_of_mem_drop hx)
theorem len_ins {ds : List PyData} {d : PyData} {p : Nat} : (ds.take p ++ d :: ds.drop p).length = ds.length + 1 := by
  rw [List.length_append, List.length_cons, List.length_take, List.length_drop]
  omega
/-- many ones -/
theorem ones_ok {q : Int} (h0 : 0 ≤ q) (h1 : q < 9) : PyData.strOk (Txt.mul (Str.ofString "1") (13 + q)) = true ∧ (Txt.mul (Str.ofString "1") (13 + q)).length ≤ 1000 := by
  have : q = 0 ∨ q = 1 ∨ q = 2 ∨ q = 3 ∨ q = 4 ∨ q = 5 ∨ q = 6 ∨ q = 7 ∨ q = 8 := by omega
  rcases this with rfl | rfl | rfl | rfl | rfl | rfl | rfl | rfl | rfl <;> exact ⟨by decide +kernel, by decide +kernel⟩
theorem M_law_spoiled_ok {ws : List Str} {way c : Int} (hw : ∀ w ∈ ws, PyData.strOk w = true ∧ w.length ≤ 12) (hl : ws.length ≤ 30) (h0 : 0 ≤ way) (h4 : way ≤ 4) : ∃ es, M_law_spoiled (ws.map PyData.str) [.fz (.int way), .fz (.int c)] = some es ∧ (∀ d ∈ es, okE d) ∧ es.length ≤ 100 := by
  rw [M_law_spoiled_eq]
  have hds : ∀ d ∈ ws.map PyData.str, okE d := fun d hd => by
    obtain ⟨w, hwm, rfl⟩ := List.mem_map.mp hd
    exact okE_str (hw w hwm).1 (by have := (hw w hwm).2; omega)
  have hdl : (ws.map PyData.str).length = ws.length := List.length_map _
  have hne : ∀ way x3 x4, bOf (eOp oNe (rVar 0) (eOfL (lLst []))) (envSp (ws.map PyData.str) way c x3 x4) = .ok (!(ws.map PyData.str).isEmpty) := fun way x3 x4 => by
    rw [bOf_ap, eOp_ap, show rVar 0 (envSp (ws.map PyData.str) way c x3 x4) = .ok (.list (ws.map PyData.str)) from rfl, Out.bind_ok, eOfL_ap, lLst_ap, aAll_nil, Out.bind_ok, Out.bind_ok, oNe_nil (shp_strs 0 fun s hs => (hw s hs).1), Out.bind_ok]
  have hel : ∀ x3 x4 way, eLenV (rVar 0) (envSp (ws.map PyData.str) way c x3 x4) = .ok (.int (ws.length : Int)) := fun x3 x4 way => by
    show lenOf (.list (ws.map PyData.str)) = _
    rw [lenOf_l, hdl]
  obtain ⟨p, hp1, hp2⟩ : ∃ p : Nat, p ≤ ws.length ∧ oMod (.int (c / 12)) (.int ((ws.length : Int) + 1)) = .ok (.int (p : Int)) := by
    have e0 := Int.emod_nonneg (c / 12) (b := (ws.length : Int) + 1) (by omega)
    have e1 := Int.emod_lt_of_pos (c / 12) (b := (ws.length : Int) + 1) (by omega)
    refine ⟨(c / 12 % ((ws.length : Int) + 1)).toNat, by omega, ?_⟩
    rw [oMod_i (by omega)]
    congr 2
    omega
  have d12 : oFdiv (.int c) (.int 12) = .ok (.int (c / 12)) := oFdiv_i (by omega)
  have d300 : oFdiv (.int c) (.int 300) = .ok (.int (c / 300)) := oFdiv_i (by omega)
  have hs0 : sSet 3 (eOp oMod (eOp oFdiv (eVar 2) (eC (.int 12))) (eOp oAdd (eLenV (rVar 0)) (eC (.int 1)))) (envSp (ws.map PyData.str) way c none none) = .nx (envSp (ws.map PyData.str) way c (some (.fz (.int (p : Int)))) none) := by
    have hh := hel none none way
    rw [sSet_ap, eOp_ap, eOp_ap, show eVar 2 (envSp (ws.map PyData.str) way c none none) = .ok (.int c) from rfl, Out.bind_ok, eC_ap, Out.bind_ok, d12, Out.bind_ok, eOp_ap, hh, Out.bind_ok, eC_ap, Out.bind_ok, oAdd_i, Out.bind_ok, hp2]
    rfl
  have fin : ∀ es, (∀ d ∈ es, okE d) → es.length ≤ 100 → (∃ x3 x4, g_law_spoiled (envSp (ws.map PyData.str) way c none none) = .nx (envSp es way c x3 x4)) → ∃ es, F_law_spoiled (ws.map PyData.str) [.fz (.int way), .fz (.int c)] = some es ∧ (∀ d ∈ es, okE d) ∧ es.length ≤ 100 := fun es h1 h2 ⟨x3, x4, h3⟩ => by
    refine ⟨es, ?_, h1, h2⟩
    unfold F_law_spoiled runM
    show (match g_law_spoiled (envSp (ws.map PyData.str) way c none none) with
      | .nx (some (.mw es) :: _) => some es
      | _ => none) = _
    rw [h3]
  -- a word of the list
  have word : ws ≠ [] → ∃ w ∈ ws, ∀ x3 x4 way, eIx (lVar 0) (eOp oMod (eVar 2) (eLenV (rVar 0))) (envSp (ws.map PyData.str) way c x3 x4) = .ok (.str w) := fun hn => by
    have hpos : 0 < ws.length := List.length_pos_iff.mpr hn
    have e0 := Int.emod_nonneg c (b := (ws.length : Int)) (by omega)
    have e1 := Int.emod_lt_of_pos c (b := (ws.length : Int)) (by omega)
    have hk : (c % (ws.length : Int)).toNat < ws.length := by omega
    refine ⟨ws[(c % (ws.length : Int)).toNat], List.getElem_mem hk, fun x3 x4 way => eIx_ok (k := c % (ws.length : Int)) rfl ?_ ?_⟩
    · rw [eOp_ap, show eVar 2 (envSp (ws.map PyData.str) way c x3 x4) = .ok (.int c) from rfl, Out.bind_ok, hel, Out.bind_ok, oMod_i (by omega)]
    · have := atI_nat (xs := ws.map PyData.str) (j := (c % (ws.length : Int)).toNat) (v := .str ws[(c % (ws.length : Int)).toNat]) (by rw [List.getElem?_map, List.getElem?_eq_getElem hk]; rfl)
      rw [show (((c % (ws.length : Int)).toNat : Nat) : Int) = c % (ws.length : Int) by omega] at this
      exact this
  have emp : (ws.map PyData.str).isEmpty = decide (ws = []) := by
    cases ws <;> simp
  have cases4 : way = 0 ∨ way = 1 ∨ way = 2 ∨ way = 3 ∨ way = 4 := by omega
  rcases cases4 with rfl | rfl | rfl | rfl | rfl
  · refine fin _ hds (by omega) ⟨some (.fz (.int (p : Int))), none, ?_⟩
    rw [g_law_spoiled_eq, seq_nx hs0, seq_nx (way_no (by decide)), seq_nx (wayA_no (by decide)), seq_nx (wayA_no (by decide)), way_no (by decide)]
  · have m9 : oMod (.int (c / 12)) (.int 9) = .ok (.int (c / 12 % 9)) := oMod_i (by omega)
    have m12 : oMod (.int c) (.int 12) = .ok (.int (c % 12)) := oMod_i (by omega)
    have hones := ones_ok (q := c / 12 % 9) (by omega) (by omega)
    have r1 : oRepS (.str (Str.ofString "0")) (.int 13) = .ok (.str (Txt.mul (Str.ofString "0") 13)) := oRepS_k ⟨by omega, by omega, by decide⟩
    have r2 : oRepS (.str (Str.ofString "1")) (.int (13 + c / 12 % 9)) = .ok (.str (Txt.mul (Str.ofString "1") (13 + c / 12 % 9))) := oRepS_k ⟨by omega, by omega, by decide⟩
    generalize hL : ([.str (Str.ofString ""), .str (Str.ofString "2"), .str (Str.ofString "0 "), .str (Str.ofString "01x"), .int 0, .bool true, .none, .list [.str (Str.ofString "0")], .tuple [.str (Str.ofString "1")], .str (Txt.mul (Str.ofString "0") 13), .str (Txt.mul (Str.ofString "1") (13 + c / 12 % 9)), .str (Str.ofString "o")] : List PyData) = L
    have hlst : lLst wrongE (envSp (ws.map PyData.str) 1 c (some (.fz (.int (p : Int)))) none) = .ok L := by
      rw [← hL]
      simp [r1, r2, d12, m9]
    obtain ⟨w, hw1, hw2⟩ : ∃ w, okE w ∧ atI L (c % 12) = some w := by
      rw [← hL]
      have : c % 12 = 0 ∨ c % 12 = 1 ∨ c % 12 = 2 ∨ c % 12 = 3 ∨ c % 12 = 4 ∨ c % 12 = 5 ∨ c % 12 = 6 ∨ c % 12 = 7 ∨ c % 12 = 8 ∨ c % 12 = 9 ∨ c % 12 = 10 ∨ c % 12 = 11 := by omega
      have flat : ∀ d, (d = .int 0 ∨ d = .bool true ∨ d = .none) → okE d := fun d hd => by
        rcases hd with rfl | rfl | rfl
        · exact ⟨rfl, shp_int _ _, fun s e => nomatch e⟩
        · exact ⟨rfl, shp_bool _ _, fun s e => nomatch e⟩
        · exact ⟨rfl, shp_none _, fun s e => nomatch e⟩
      have sh0 : shp 1 (.str (Str.ofString "0")) := shp_str 1 (by decide +kernel)
      have sh1 : shp 1 (.str (Str.ofString "1")) := shp_str 1 (by decide +kernel)
      rcases this with e | e | e | e | e | e | e | e | e | e | e | e <;> rw [e]
      · exact ⟨_, okE_str (s := Str.ofString "") (by decide +kernel) (by decide), rfl⟩
      · exact ⟨_, okE_str (s := Str.ofString "2") (by decide +kernel) (by decide), rfl⟩
      · exact ⟨_, okE_str (s := Str.ofString "0 ") (by decide +kernel) (by decide), rfl⟩
      · exact ⟨_, okE_str (s := Str.ofString "01x") (by decide +kernel) (by decide), rfl⟩
      · exact ⟨_, flat _ (.inl rfl), rfl⟩
      · exact ⟨_, flat _ (.inr (.inl rfl)), rfl⟩
      · exact ⟨_, flat _ (.inr (.inr rfl)), rfl⟩
      · exact ⟨.list [.str (Str.ofString "0")], ⟨rfl, shp_list fun d hd => by rw [List.mem_singleton.mp hd]; exact sh0, fun s e => nomatch e⟩, rfl⟩
      · exact ⟨.tuple [.str (Str.ofString "1")], ⟨rfl, shp_tup fun d hd => by rw [List.mem_singleton.mp hd]; exact sh1, fun s e => nomatch e⟩, rfl⟩
      · exact ⟨_, okE_str (s := Txt.mul (Str.ofString "0") 13) (by decide +kernel) (by decide +kernel), rfl⟩
      · exact ⟨_, okE_str hones.1 hones.2, rfl⟩
      · exact ⟨_, okE_str (s := Str.ofString "o") (by decide +kernel) (by decide), rfl⟩
    clear hL
    refine fin _ (okE_ins (p := p) hds hw1) (by rw [len_ins]; omega) ⟨some (.fz (.int (p : Int))), some (.ow L), ?_⟩
    have hix : eIx (lVar 4) (eOp oMod (eVar 2) (eC (.int 12))) (envSp (ws.map PyData.str) 1 c (some (.fz (.int (p : Int)))) (some (.ow L))) = .ok w := eIx_ok (k := c % 12) rfl (by rw [eOp_ap, show eVar 2 (envSp (ws.map PyData.str) 1 c (some (.fz (.int (p : Int)))) (some (.ow L))) = .ok (.int c) from rfl, Out.bind_ok, eC_ap, Out.bind_ok, m12]) hw2
    have hins := insM_ok (p := p) (way := 1) (c := c) (x4 := some (.ow L)) (ds := ws.map PyData.str) (by omega) (by omega) hix
    rw [g_law_spoiled_eq, seq_nx hs0]
    rw [seq_nx (ρ' := envSp ((ws.map PyData.str).take p ++ w :: (ws.map PyData.str).drop p) 1 c (some (.fz (.int (p : Int)))) (some (.ow L))) (by
      rw [way_yes rfl, seq_nx (ρ' := envSp (ws.map PyData.str) 1 c (some (.fz (.int (p : Int)))) (some (.ow L))) (by rw [sSetL_ap, hlst]; rfl)]
      exact hins)]
    rw [seq_nx (wayA_no (by decide)), seq_nx (wayA_no (by decide)), way_no (by decide)]
  · by_cases hn : ws = []
    · refine fin _ hds (by omega) ⟨some (.fz (.int (p : Int))), none, ?_⟩
      rw [g_law_spoiled_eq, seq_nx hs0, seq_nx (way_no (by decide)), seq_nx ((wayA_yes rfl (hne 2 _ _)).trans (by rw [emp, decide_eq_true hn]; rfl)), seq_nx (wayA_no (by decide)), way_no (by decide)]
    · obtain ⟨w, hwm, hix⟩ := word hn
      have m12 : oMod (.int (c / 300)) (.int 12) = .ok (.int (c / 300 % 12)) := oMod_i (by omega)
      have hcut : cutE (envSp (ws.map PyData.str) 2 c (some (.fz (.int (p : Int)))) none) = .ok (.str ⟨(w.cps.toList.take (1 + c / 300 % 12).toNat).toArray⟩) := by
        unfold cutE eSlS
        rw [hix, Out.bind_ok, oNo_ap, Out.bind_ok, oPart_ok (i := ((1 + c / 300 % 12).toNat : Int)) (by
          rw [eOp_ap, eC_ap, Out.bind_ok, eOp_ap, eOp_ap, show eVar 2 (envSp (ws.map PyData.str) 2 c (some (.fz (.int (p : Int)))) none) = .ok (.int c) from rfl, Out.bind_ok, eC_ap, Out.bind_ok, d300, Out.bind_ok, eC_ap, Out.bind_ok, m12, Out.bind_ok, oAdd_i]
          congr 2
          omega), Out.bind_ok]
        dsimp only
        rw [if_pos (by have := (hw w hwm).2; omega), cutS_z]
      have hd : okE (.str ⟨(w.cps.toList.take (1 + c / 300 % 12).toNat).toArray⟩) := okE_str (strOk_take (hw w hwm).1 _) (by have := len_take w (1 + c / 300 % 12).toNat; have := (hw w hwm).2; omega)
      generalize (PyData.str ⟨(w.cps.toList.take (1 + c / 300 % 12).toNat).toArray⟩) = d at hcut hd
      refine fin _ (okE_ins (p := p) hds hd) (by rw [len_ins]; omega) ⟨some (.fz (.int (p : Int))), none, ?_⟩
      rw [g_law_spoiled_eq, seq_nx hs0, seq_nx (way_no (by decide))]
      rw [seq_nx (ρ' := envSp ((ws.map PyData.str).take p ++ d :: (ws.map PyData.str).drop p) 2 c (some (.fz (.int (p : Int)))) none) ((wayA_yes rfl (hne 2 _ _)).trans (by
        rw [emp, decide_eq_false hn]
        exact insM_ok (by omega) (by omega) hcut))]
      rw [seq_nx (wayA_no (by decide)), way_no (by decide)]
  · by_cases hn : ws = []
    · refine fin _ hds (by omega) ⟨some (.fz (.int (p : Int))), none, ?_⟩
      rw [g_law_spoiled_eq, seq_nx hs0, seq_nx (way_no (by decide)), seq_nx (wayA_no (by decide)), seq_nx ((wayA_yes rfl (hne 3 _ _)).trans (by rw [emp, decide_eq_true hn]; rfl)), way_no (by decide)]
    · obtain ⟨w, hwm, hix⟩ := word hn
      have m2 : oMod (.int (c / 300)) (.int 2) = .ok (.int (c / 300 % 2)) := oMod_i (by omega)
      obtain ⟨s, t1, t2, t3, t4⟩ := bit01 (k := c / 300 % 2) (by omega) (by omega)
      have hon : onE (envSp (ws.map PyData.str) 3 c (some (.fz (.int (p : Int)))) none) = .ok (.str (w ++ s)) := by
        have hi : eIxS (eC (.str (Str.ofString "01"))) (eOp oMod (eOp oFdiv (eVar 2) (eC (.int 300))) (eC (.int 2))) (envSp (ws.map PyData.str) 3 c (some (.fz (.int (p : Int)))) none) = .ok (.str s) := by
          unfold eIxS
          rw [eC_ap, Out.bind_ok, show eOp oMod (eOp oFdiv (eVar 2) (eC (.int 300))) (eC (.int 2)) (envSp (ws.map PyData.str) 3 c (some (.fz (.int (p : Int)))) none) = .ok (.int (c / 300 % 2)) by simp [d300, m2], Out.bind_ok]
          dsimp only
          rw [if_pos (by decide), t3, t4]
        unfold onE
        rw [eOp_ap, hix, Out.bind_ok, hi, Out.bind_ok]
        exact oCatS_k (by have := (hw w hwm).2; omega)
      have hd : okE (.str (w ++ s)) := okE_str (strOk_cat (hw w hwm).1 t2) (by rw [len_cat]; have := (hw w hwm).2; omega)
      generalize PyData.str (w ++ s) = d at hon hd
      refine fin _ (okE_ins (p := p) hds hd) (by rw [len_ins]; omega) ⟨some (.fz (.int (p : Int))), none, ?_⟩
      rw [g_law_spoiled_eq, seq_nx hs0, seq_nx (way_no (by decide)), seq_nx (wayA_no (by decide))]
      rw [seq_nx (ρ' := envSp ((ws.map PyData.str).take p ++ d :: (ws.map PyData.str).drop p) 3 c (some (.fz (.int (p : Int)))) none) ((wayA_yes rfl (hne 3 _ _)).trans (by
        rw [emp, decide_eq_false hn]
        exact insM_ok (by omega) (by omega) hon))]
      rw [way_no (by decide)]
  · obtain ⟨t, ht, hrep⟩ : ∃ t : Nat, t ≤ 25 ∧ moreE (envSp (ws.map PyData.str) 4 c (some (.fz (.int (p : Int)))) none) = .ok (List.replicate t (.str (Str.ofString "0"))) := by
      have hm : eOp oSub (eC (.int 25)) (eOp oMin (eC (.int 24)) (eLenV (rVar 0))) (envSp (ws.map PyData.str) 4 c (some (.fz (.int (p : Int)))) none) = .ok (.int (25 - (if (ws.length : Int) < 24 then (ws.length : Int) else 24))) := by
        rw [eOp_ap, eC_ap, Out.bind_ok, eOp_ap, eC_ap, Out.bind_ok, hel, Out.bind_ok]
        rfl
      refine ⟨(25 - (if (ws.length : Int) < 24 then (ws.length : Int) else 24)).toNat, by split <;> omega, ?_⟩
      unfold moreE lRep
      rw [lLst_ap, aAll_cons, eC_ap, Out.bind_ok, aAll_nil, Out.bind_ok, Out.bind_ok, hm, Out.bind_ok]
      dsimp only
      rw [if_pos ⟨by split <;> omega, by split <;> omega, by simp⟩, rep_d]
    refine fin (ws.map PyData.str ++ List.replicate t (.str (Str.ofString "0"))) (fun d hd => by
      rcases List.mem_append.mp hd with hd | hd
      · exact hds d hd
      · rw [(List.mem_replicate.mp hd).2]
        exact okE_str (by decide +kernel) (by decide)) (by rw [List.length_append, List.length_replicate]; omega) ⟨some (.fz (.int (p : Int))), none, ?_⟩
    rw [g_law_spoiled_eq, seq_nx hs0, seq_nx (way_no (by decide)), seq_nx (wayA_no (by decide)), seq_nx (wayA_no (by decide)), way_yes rfl]
    unfold sExtM
    rw [show (envSp (ws.map PyData.str) 4 c (some (.fz (.int (p : Int)))) none)[0]? = some (some (.mw (ws.map PyData.str))) from rfl]
    dsimp only
    rw [hrep, wOut_ok, if_pos (by rw [List.length_replicate]; omega)]
    rfl

/-! law_due_4: slots 0:_law_words_here 1:_law_bits 2:_law_bit_here 3:_law_more 4:_law_word -/
def g_law_due_4 : SE := (sSeq (sIf (bOr (bNot (bOf (eIsI (rVar 2) "str"))) (bOf (eInL true (eVar 2) (lLst [(eC (.str (Str.ofString "0"))), (eC (.str (Str.ofString "1")))])))) (sRet (eTup [(eTup [(eC (.str (Str.ofString "refused"))), (eC (.str (Str.ofString "BadBits")))]), (eVar 1)])) sNext)
  (sSeq (sSet 3 (eOp oCatS (eVar 1) (eVar 2)))
  (sSeq (sIf (bOf (eInL false (eVar 3) (lVar 0))) (sRet (eTup [(eIndex (lVar 0) (eVar 3)), (eC (.str (Str.ofString "")))])) sNext)
  (sSeq (sIf (bOf (eOp oEq (eOfL (lComp (lVar 0) (tgN 4) [4] (bOf (eOp oEq (eSlS (eVar 4) oNo (oPart (eLenV (rVar 3)))) (rVar 3))) (eVar 4))) (eOfL (lLst [])))) (sRet (eTup [(eTup [(eC (.str (Str.ofString "refused"))), (eC (.str (Str.ofString "BadBits")))]), (eVar 1)])) sNext)
  (sRet (eTup [(eC .none), (eVar 3)]))))))
def F_law_due_4 : FN := runF 3 5 g_law_due_4
theorem ex_law_due_4 : ∃ M : FN, M = F_law_due_4 := ⟨_, rfl⟩
def M_law_due_4 : FN := ex_law_due_4.choose
theorem M_law_due_4_eq : M_law_due_4 = F_law_due_4 := ex_law_due_4.choose_spec
theorem ok_law_due_4 : ∀ as : List SL, as.length = 3 → M_law_due_4 as ≠ .stuck → F_law_due_4 as = M_law_due_4 as := fun _ _ _ => by rw [M_law_due_4_eq]
/-- what a deed tells, and the bits held behind it -/
def dueO (ws : List Str) (b : Str) (d : PyData) : PyData × Str := match d with
  | .str s => (match takeO ws b s with
    | .got k => (.int (k : Int), Str.empty)
    | .more => (.none, b ++ s)
    | .bad => (refD "BadBits", b))
  | _ => (refD "BadBits", b)
abbrev envDu (ws : List Str) (b : Str) (d : PyData) (x3 : Option SL) : Env := [some (.bw (ws.map PyData.str)), some (.fz (.str b)), some (.fz d), x3, none]
abbrev noneOn4 : BE := (bOf (eOp oEq (eOfL (lComp (lVar 0) (tgN 4) [4] (bOf (eOp oEq (eSlS (eVar 4) oNo (oPart (eLenV (rVar 3)))) (rVar 3))) (eVar 4))) (eOfL (lLst []))))
abbrev retBad4 : SE := (sRet (eTup [(eTup [(eC (.str (Str.ofString "refused"))), (eC (.str (Str.ofString "BadBits")))]), (eVar 1)]))
theorem g_law_due_4_eq : g_law_due_4 = (sSeq (sIf (bOr (bNot (bOf (eIsI (rVar 2) "str"))) (bOf (eInL true (eVar 2) (lLst [(eC (.str (Str.ofString "0"))), (eC (.str (Str.ofString "1")))])))) retBad4 sNext)
  (sSeq (sSet 3 (eOp oCatS (eVar 1) (eVar 2)))
  (sSeq (sIf (bOf (eInL false (eVar 3) (lVar 0))) (sRet (eTup [(eIndex (lVar 0) (eVar 3)), (eC (.str (Str.ofString "")))])) sNext)
  (sSeq (sIf noneOn4 retBad4 sNext)
  (sRet (eTup [(eC .none), (eVar 3)])))))) := rfl
theorem noneOn4_ok {ws : List Str} {b0 b : Str} {d : PyData} (g : GoodW ws) (hb : PyData.strOk b = true) (hl : b.length ≤ 1000000) : noneOn4 (envDu ws b0 d (some (.fz (.str b)))) = .ok (!ws.any fun w => Txt.startswith w b) := by
  have hc : lComp (lVar 0) (tgN 4) [4] (bOf (eOp oEq (eSlS (eVar 4) oNo (oPart (eLenV (rVar 3)))) (rVar 3))) (eVar 4) (envDu ws b0 d (some (.fz (.str b)))) = .ok ((ws.filter fun w => Txt.startswith w b).map PyData.str) := by
    rw [lComp_filter (fun d => match d with
      | .str w => Txt.startswith w b
      | _ => false) (fun d => d) (ds := ws.map PyData.str) rfl (by rw [List.length_map]; have := g.len; omega) (fun d1 hd => by
        obtain ⟨w, hw, rfl⟩ := List.mem_map.mp hd
        have hwd := g.wd w hw
        refine ⟨_, rfl, ?_, fun _ => rfl⟩
        have hs : eSlS (eVar 4) oNo (oPart (eLenV (rVar 3))) [some (.bw (ws.map PyData.str)), some (.fz (.str b0)), some (.fz d), some (.fz (.str b)), some (.fz (.str w))] = .ok (.str ⟨(w.cps.toList.take b.length).toArray⟩) := by
          unfold eSlS
          rw [show eVar 4 [some (.bw (ws.map PyData.str)), some (.fz (.str b0)), some (.fz d), some (.fz (.str b)), some (.fz (.str w))] = .ok (.str w) from rfl, Out.bind_ok, oNo_ap, Out.bind_ok, oPart_ok (i := ((b.length : Nat) : Int)) (by rw [eLenV_ap]; show lenOf (.str b) = _; exact lenOf_s hl), Out.bind_ok]
          dsimp only
          rw [if_pos (by have := hwd.1; omega), cutS_z]
        show bOf (eOp oEq (eSlS (eVar 4) oNo (oPart (eLenV (rVar 3)))) (rVar 3)) [some (.bw (ws.map PyData.str)), some (.fz (.str b0)), some (.fz d), some (.fz (.str b)), some (.fz (.str w))] = _
        rw [bOf_ap, eOp_ap, hs, Out.bind_ok, show rVar 3 [some (.bw (ws.map PyData.str)), some (.fz (.str b0)), some (.fz d), some (.fz (.str b)), some (.fz (.str w))] = .ok (.str b) from rfl, Out.bind_ok, oEq_s (strOk_take (okWd_ok hwd) _) hb, Out.bind_ok]
        show Out.ok (decide ((⟨(w.cps.toList.take b.length).toArray⟩ : Str) = b)) = Out.ok (Txt.startswith w b)
        congr 1
        have hbl : b.length = b.cps.toList.length := by simp; rfl
        rw [Bool.eq_iff_iff, decide_eq_true_iff, starts_pre, List.prefix_iff_eq_take, ← hbl]
        constructor
        · intro e
          have := congrArg (fun s : Str => s.cps.toList) e
          dsimp only at this
          exact this.symm
        · intro e
          rw [← e])]
    rw [List.map_id', List.filter_map]
    rfl
  unfold noneOn4
  rw [bOf_ap, eOp_ap, eOfL_ap, hc, Out.bind_ok, Out.bind_ok, eOfL_ap, lLst_ap, aAll_nil, Out.bind_ok, Out.bind_ok, oEq_nil (shp_strs 0 fun s hs => okWd_ok (g.wd s (List.mem_filter.mp hs).1)), Out.bind_ok]
  show Out.ok (((ws.filter fun w => Txt.startswith w b).map PyData.str).isEmpty) = Out.ok (!ws.any fun w => Txt.startswith w b)
  congr 1
  rw [Bool.eq_iff_iff, List.isEmpty_iff, List.map_eq_nil_iff, List.filter_eq_nil_iff, Bool.not_eq_true', Bool.eq_false_iff, ne_eq, List.any_eq_true]
  exact ⟨fun h ⟨w, hw, e⟩ => h w hw e, fun h w hw e => h ⟨w, hw, e⟩⟩
theorem inL_01 {ρ : Env} {s : Str} (h : eVar 2 ρ = .ok (.str s)) : bOf (eInL true (eVar 2) (lLst [(eC (.str (Str.ofString "0"))), (eC (.str (Str.ofString "1")))])) ρ = .ok (decide (s ≠ "0" ∧ s ≠ "1")) := by
  have : eInL true (eVar 2) (lLst [(eC (.str (Str.ofString "0"))), (eC (.str (Str.ofString "1")))]) ρ = .ok (.bool (!decide (s ∈ [Str.ofString "0", Str.ofString "1"]))) := by
    unfold eInL
    rw [h, Out.bind_ok]
    show (match PyData.str s, allStr ([Str.ofString "0", Str.ofString "1"].map PyData.str) with
      | .str x, some ss => Out.ok (PyData.bool (if true = true then !decide (x ∈ ss) else decide (x ∈ ss)))
      | _, _ => .stuck) = _
    rw [allStr_map]
    rfl
  rw [bOf_ap, this, Out.bind_ok]
  show Out.ok (!decide (s ∈ [Str.ofString "0", Str.ofString "1"])) = _
  congr 1
  rw [Bool.eq_iff_iff, Bool.not_eq_true', decide_eq_false_iff_not, decide_eq_true_iff, List.mem_cons, List.mem_singleton, not_or]
theorem M_law_due_4_ok {ws : List Str} {b : Str} {d : PyData} (g : GoodW ws) (hb : PyData.strOk b = true) (hl : b.length ≤ 100000) (hd : okE d) : M_law_due_4 [.bw (ws.map PyData.str), .fz (.str b), .fz d] = .ok (.val (.tuple [(dueO ws b d).1, .str (dueO ws b d).2])) := by
  rw [M_law_due_4_eq]
  unfold F_law_due_4
  have hi : eIsI (rVar 2) "str" (envDu ws b d none) = .ok (.bool (isStrD d)) := eIsI_ok rfl (kit_str d hd.1)
  have bad : dueO ws b d = (refD "BadBits", b) → bOr (bNot (bOf (eIsI (rVar 2) "str"))) (bOf (eInL true (eVar 2) (lLst [(eC (.str (Str.ofString "0"))), (eC (.str (Str.ofString "1")))]))) (envDu ws b d none) = .ok true → runF 3 5 g_law_due_4 [.bw (ws.map PyData.str), .fz (.str b), .fz d] = .ok (.val (.tuple [(dueO ws b d).1, .str (dueO ws b d).2])) := fun e h => by
    rw [e]
    refine runF_rt (envDu ws b d none) rfl rfl (ρ' := envDu ws b d none) ?_
    rw [g_law_due_4_eq]
    refine seq_rt ?_
    rw [sIf_ap, h]
    rfl
  cases d with
  | str s =>
    have hok := hd.2.2 s rfl
    have hbs := strOk_cat hb hok.1
    have hlen : (b ++ s).length = b.length + s.length := len_cat _ _
    have hin := inL_01 (ρ := envDu ws b (.str s) none) (s := s) rfl
    by_cases h01 : s ≠ "0" ∧ s ≠ "1"
    · have ht : takeO ws b s = .bad := by unfold takeO; rw [if_pos h01]
      refine bad (by unfold dueO; dsimp only; rw [ht]) ?_
      rw [bOr_ap, bNot_ap, bOf_ap, hi, Out.bind_ok, Out.bind_ok, Out.bind_ok, if_neg (by rw [show isStrD (.str s) = true from rfl]; decide), hin, decide_eq_true h01]
    · have i0 : sIf (bOr (bNot (bOf (eIsI (rVar 2) "str"))) (bOf (eInL true (eVar 2) (lLst [(eC (.str (Str.ofString "0"))), (eC (.str (Str.ofString "1")))])))) retBad4 sNext (envDu ws b (.str s) none) = .nx (envDu ws b (.str s) none) := by
        rw [sIf_ap, bOr_ap, bNot_ap, bOf_ap, hi, Out.bind_ok, Out.bind_ok, Out.bind_ok, if_neg (by rw [show isStrD (.str s) = true from rfl]; decide), hin, decide_eq_false h01]
        rfl
      have i1 : sSet 3 (eOp oCatS (eVar 1) (eVar 2)) (envDu ws b (.str s) none) = .nx (envDu ws b (.str s) (some (.fz (.str (b ++ s))))) := by
        rw [sSet_ap, eOp_ap]
        show wOut (oCatS (.str b) (.str s)) _ _ = _
        rw [oCatS_k (by omega)]
        rfl
      have i2 : bOf (eInL false (eVar 3) (lVar 0)) (envDu ws b (.str s) (some (.fz (.str (b ++ s))))) = .ok (decide (b ++ s ∈ ws)) := by
        have : eInL false (eVar 3) (lVar 0) (envDu ws b (.str s) (some (.fz (.str (b ++ s))))) = .ok (.bool (decide (b ++ s ∈ ws))) := by
          show (match PyData.str (b ++ s), allStr (ws.map PyData.str) with
            | .str x, some ss => Out.ok (PyData.bool (if false = true then !decide (x ∈ ss) else decide (x ∈ ss)))
            | _, _ => .stuck) = _
          rw [allStr_map]
          rfl
        rw [bOf_ap, this]
        rfl
      by_cases hm : b ++ s ∈ ws
      · have ht : takeO ws b s = .got (ws.findIdx fun y => decide (y = b ++ s)) := by unfold takeO; rw [if_neg h01, if_pos hm]
        have hx : eIndex (lVar 0) (eVar 3) (envDu ws b (.str s) (some (.fz (.str (b ++ s))))) = .ok (.int ((ws.findIdx fun y => decide (y = b ++ s) : Nat) : Int)) := by
          show (match PyData.str (b ++ s), allStr (ws.map PyData.str) with
            | .str x, some ss => if x ∈ ss then Out.ok (PyData.int ((ss.findIdx fun y => decide (y = x) : Nat) : Int)) else .stuck
            | _, _ => .stuck) = _
          rw [allStr_map]
          dsimp only
          rw [if_pos hm]
        unfold dueO
        dsimp only
        rw [ht]
        refine runF_rt (envDu ws b (.str s) none) rfl rfl (ρ' := envDu ws b (.str s) (some (.fz (.str (b ++ s))))) ?_
        rw [g_law_due_4_eq, seq_nx i0, seq_nx i1]
        refine seq_rt ?_
        rw [sIf_ap, i2, decide_eq_true hm, wOut_ok, if_pos rfl, sRet_ap, eTup_ap, aAll_cons, hx]
        rfl
      · have i3 : sIf (bOf (eInL false (eVar 3) (lVar 0))) (sRet (eTup [(eIndex (lVar 0) (eVar 3)), (eC (.str (Str.ofString "")))])) sNext (envDu ws b (.str s) (some (.fz (.str (b ++ s))))) = .nx (envDu ws b (.str s) (some (.fz (.str (b ++ s))))) := by
          rw [sIf_ap, i2, decide_eq_false hm]
          rfl
        have hno := noneOn4_ok (b0 := b) (d := .str s) g hbs (by omega)
        cases hy : (ws.any fun w => Txt.startswith w (b ++ s)) with
        | true =>
          have ht : takeO ws b s = .more := by unfold takeO; rw [if_neg h01, if_neg hm, if_pos hy]
          unfold dueO
          dsimp only
          rw [ht]
          refine runF_rt (envDu ws b (.str s) none) rfl rfl (ρ' := envDu ws b (.str s) (some (.fz (.str (b ++ s))))) ?_
          rw [g_law_due_4_eq, seq_nx i0, seq_nx i1, seq_nx i3, seq_nx (ρ' := envDu ws b (.str s) (some (.fz (.str (b ++ s))))) (by rw [sIf_ap, hno, hy]; rfl)]
          rfl
        | false =>
          have ht : takeO ws b s = .bad := by unfold takeO; rw [if_neg h01, if_neg hm, if_neg (by rw [hy]; decide)]
          unfold dueO
          dsimp only
          rw [ht]
          refine runF_rt (envDu ws b (.str s) none) rfl rfl (ρ' := envDu ws b (.str s) (some (.fz (.str (b ++ s))))) ?_
          rw [g_law_due_4_eq, seq_nx i0, seq_nx i1, seq_nx i3]
          refine seq_rt ?_
          rw [sIf_ap, hno, hy]
          rfl
  | dict _ => exact absurd hd.1 (by simp [noDict])
  | _ =>
    refine bad rfl ?_
    rw [bOr_ap, bNot_ap, bOf_ap, hi, Out.bind_ok, Out.bind_ok, Out.bind_ok]
    rfl

/-! law_alike: slots 0:_law_found 1:_law_due_here -/
def g_law_alike : SE := (sSeq (sIf (bOf (eIsN (rVar 1))) (sRet (eIsN (rVar 0))) sNext)
  (sSeq (sIf (bOf (eIsI (rVar 1) "tuple")) (sRet (eOfB (bAnd (bOf (eIsI (rVar 0) "tuple")) (bOf (eOp oEq (rVar 0) (rVar 1)))))) sNext)
  (sRet (eOfB (bAnd (bOf (eIsI (rVar 0) "int")) (bAnd (bNot (bOf (eIsI (rVar 0) "bool"))) (bOf (eOp oEq (rVar 0) (rVar 1)))))))))
def F_law_alike : FN := runF 2 2 g_law_alike
theorem ex_law_alike : ∃ M : FN, M = F_law_alike := ⟨_, rfl⟩
def M_law_alike : FN := ex_law_alike.choose
theorem M_law_alike_eq : M_law_alike = F_law_alike := ex_law_alike.choose_spec
theorem ok_law_alike : ∀ as : List SL, as.length = 2 → M_law_alike as ≠ .stuck → F_law_alike as = M_law_alike as := fun _ _ _ => by rw [M_law_alike_eq]
theorem M_law_alike_none : M_law_alike [.fz .none, .fz .none] = .ok (.val (.bool true)) := by
  rw [M_law_alike_eq]
  exact runF_rt [some (.fz .none), some (.fz .none)] rfl rfl (ρ' := [some (.fz .none), some (.fz .none)]) rfl
theorem kit_tupA (ds : List PyData) : kitB (tyName (.tuple ds)) "tuple" = some true := by
  show kitB "tuple" "tuple" = some true
  decide +kernel
theorem kit_inttup (k : Int) : kitB (tyName (.int k)) "tuple" = some false := by
  show kitB "int" "tuple" = some false
  decide +kernel
theorem M_law_alike_int (k : Int) : M_law_alike [.fz (.int k), .fz (.int k)] = .ok (.val (.bool true)) := by
  rw [M_law_alike_eq]
  unfold F_law_alike
  refine runF_rt [some (.fz (.int k)), some (.fz (.int k))] rfl rfl (ρ' := [some (.fz (.int k)), some (.fz (.int k))]) ?_
  have h1 : eIsI (rVar 1) "tuple" [some (.fz (.int k)), some (.fz (.int k))] = .ok (.bool false) := eIsI_ok rfl (kit_inttup k)
  have h2 : eIsI (rVar 0) "int" [some (.fz (.int k)), some (.fz (.int k))] = .ok (.bool true) := eIsI_ok rfl (kit_int (.int k) (fun kvs e => nomatch e))
  have h3 : eIsI (rVar 0) "bool" [some (.fz (.int k)), some (.fz (.int k))] = .ok (.bool false) := eIsI_ok rfl (kit_bool (.int k) (fun kvs e => nomatch e))
  unfold g_law_alike
  simp [h1, h2, h3]
theorem M_law_alike_ref : M_law_alike [.fz (refD "BadBits"), .fz (refD "BadBits")] = .ok (.val (.bool true)) := by
  rw [M_law_alike_eq]
  unfold F_law_alike
  have hq := oEq_refl (shp_two (a := Str.ofString "refused") (b := Str.ofString "BadBits") (by decide +kernel) (by decide +kernel))
  have hr : refD "BadBits" = .tuple [.str (Str.ofString "refused"), .str (Str.ofString "BadBits")] := rfl
  rw [← hr] at hq
  have h1 : ∀ i, i = 0 ∨ i = 1 → eIsI (rVar i) "tuple" [some (.fz (refD "BadBits")), some (.fz (refD "BadBits"))] = .ok (.bool true) := fun i hi => by
    rcases hi with rfl | rfl
    · exact eIsI_ok (d := refD "BadBits") rfl (kit_tupA _)
    · exact eIsI_ok (d := refD "BadBits") rfl (kit_tupA _)
  have h0 := h1 0 (.inl rfl)
  have h1 := h1 1 (.inr rfl)
  have hn : isN (refD "BadBits") = false := rfl
  refine runF_rt [some (.fz (refD "BadBits")), some (.fz (refD "BadBits"))] rfl rfl (ρ' := [some (.fz (refD "BadBits")), some (.fz (refD "BadBits"))]) ?_
  unfold g_law_alike
  generalize refD "BadBits" = D at *
  simp [h0, h1, hn, hq]

/-! law_bit: slots 0:_law_words_here 1:_law_bits 2:_law_cell_here 3:_law_on 4:_law_word -/
def g_law_bit : SE := (sSeq (sIf (bOf (eOp oEq (eOp oMod (eVar 2) (eC (.int 9))) (eC (.int 8)))) (sRet (eIx (lLst [(eC (.str (Str.ofString "2"))), (eC (.str (Str.ofString ""))), (eC (.str (Str.ofString "01"))), (eC (.int 0)), (eC (.int 1)), (eC .none), (eC (.bool true)), (eOfL (lLst [(eC (.str (Str.ofString "1")))])), (eC (.str (Str.ofString "o")))]) (eOp oMod (eOp oFdiv (eVar 2) (eC (.int 9))) (eC (.int 9))))) sNext)
  (sSeq (sIf (bOf (eOp oLt (eOp oMod (eVar 2) (eC (.int 9))) (eC (.int 5)))) (sSeq (sSetL 3 (lComp (lVar 0) (tgN 4) [4] (bAnd (bOf (eOp oEq (eSlS (eVar 4) oNo (oPart (eLenV (rVar 1)))) (rVar 1))) (bOf (eOp oGt (eLenV (rVar 4)) (eLenV (rVar 1))))) (eVar 4)))
  (sIf (bOf (eOp oNe (rVar 3) (eOfL (lLst [])))) (sSeq (sSet 4 (eIx (lVar 3) (eOp oMod (eOp oFdiv (eVar 2) (eC (.int 9))) (eLenV (rVar 3)))))
  (sRet (eIxS (eVar 4) (eLenV (rVar 1))))) sNext)) sNext)
  (sRet (eIxS (eC (.str (Str.ofString "01"))) (eOp oMod (eOp oFdiv (eVar 2) (eC (.int 9))) (eC (.int 2)))))))
def F_law_bit : FN := runF 3 5 g_law_bit
theorem ex_law_bit : ∃ M : FN, M = F_law_bit := ⟨_, rfl⟩
def M_law_bit : FN := ex_law_bit.choose
theorem M_law_bit_eq : M_law_bit = F_law_bit := ex_law_bit.choose_spec
theorem ok_law_bit : ∀ as : List SL, as.length = 3 → M_law_bit as ≠ .stuck → F_law_bit as = M_law_bit as := fun _ _ _ => by rw [M_law_bit_eq]
abbrev envBi (ws : List Str) (b : Str) (c : Int) (x3 x4 : Option SL) : Env := [some (.bw (ws.map PyData.str)), some (.fz (.str b)), some (.fz (.int c)), x3, x4]
abbrev oddL : List VE := [(eC (.str (Str.ofString "2"))), (eC (.str (Str.ofString ""))), (eC (.str (Str.ofString "01"))), (eC (.int 0)), (eC (.int 1)), (eC .none), (eC (.bool true)), (eOfL (lLst [(eC (.str (Str.ofString "1")))])), (eC (.str (Str.ofString "o")))]
abbrev onL : LE := (lComp (lVar 0) (tgN 4) [4] (bAnd (bOf (eOp oEq (eSlS (eVar 4) oNo (oPart (eLenV (rVar 1)))) (rVar 1))) (bOf (eOp oGt (eLenV (rVar 4)) (eLenV (rVar 1))))) (eVar 4))
abbrev thenB : SE := (sSeq (sSetL 3 onL)
  (sIf (bOf (eOp oNe (rVar 3) (eOfL (lLst [])))) (sSeq (sSet 4 (eIx (lVar 3) (eOp oMod (eOp oFdiv (eVar 2) (eC (.int 9))) (eLenV (rVar 3)))))
  (sRet (eIxS (eVar 4) (eLenV (rVar 1))))) sNext))
theorem g_law_bit_eq : g_law_bit = (sSeq (sIf (bOf (eOp oEq (eOp oMod (eVar 2) (eC (.int 9))) (eC (.int 8)))) (sRet (eIx (lLst oddL) (eOp oMod (eOp oFdiv (eVar 2) (eC (.int 9))) (eC (.int 9))))) sNext)
  (sSeq (sIf (bOf (eOp oLt (eOp oMod (eVar 2) (eC (.int 9))) (eC (.int 5)))) thenB sNext)
  (sRet (eIxS (eC (.str (Str.ofString "01"))) (eOp oMod (eOp oFdiv (eVar 2) (eC (.int 9))) (eC (.int 2))))))) := rfl
theorem onL_ok {ws : List Str} {b : Str} {c : Int} (g : GoodW ws) (hb : PyData.strOk b = true) (hl : b.length ≤ 1000000) : onL (envBi ws b c none none) = .ok ((ws.filter fun w => Txt.startswith w b && decide (b.length < w.length)).map PyData.str) := by
  unfold onL
  rw [lComp_filter (fun d => match d with
    | .str w => Txt.startswith w b && decide (b.length < w.length)
    | _ => false) (fun d => d) (ds := ws.map PyData.str) rfl (by rw [List.length_map]; have := g.len; omega) (fun d1 hd => by
      obtain ⟨w, hw, rfl⟩ := List.mem_map.mp hd
      have hwd := g.wd w hw
      refine ⟨_, rfl, ?_, fun _ => rfl⟩
      have hs : eSlS (eVar 4) oNo (oPart (eLenV (rVar 1))) [some (.bw (ws.map PyData.str)), some (.fz (.str b)), some (.fz (.int c)), none, some (.fz (.str w))] = .ok (.str ⟨(w.cps.toList.take b.length).toArray⟩) := by
        unfold eSlS
        rw [show eVar 4 [some (.bw (ws.map PyData.str)), some (.fz (.str b)), some (.fz (.int c)), none, some (.fz (.str w))] = .ok (.str w) from rfl, Out.bind_ok, oNo_ap, Out.bind_ok, oPart_ok (i := ((b.length : Nat) : Int)) (by rw [eLenV_ap]; show lenOf (.str b) = _; exact lenOf_s hl), Out.bind_ok]
        dsimp only
        rw [if_pos (by have := hwd.1; omega), cutS_z]
      have hp : decide ((⟨(w.cps.toList.take b.length).toArray⟩ : Str) = b) = Txt.startswith w b := by
        have hbl : b.length = b.cps.toList.length := by simp; rfl
        rw [Bool.eq_iff_iff, decide_eq_true_iff, starts_pre, List.prefix_iff_eq_take, ← hbl]
        constructor
        · intro e
          have := congrArg (fun s : Str => s.cps.toList) e
          dsimp only at this
          exact this.symm
        · intro e
          rw [← e]
      have hlt : bOf (eOp oGt (eLenV (rVar 4)) (eLenV (rVar 1))) [some (.bw (ws.map PyData.str)), some (.fz (.str b)), some (.fz (.int c)), none, some (.fz (.str w))] = .ok (decide (b.length < w.length)) := by
        have e1 : eLenV (rVar 4) [some (.bw (ws.map PyData.str)), some (.fz (.str b)), some (.fz (.int c)), none, some (.fz (.str w))] = .ok (.int (w.length : Int)) := by
          rw [eLenV_ap]
          exact lenOf_s (by have := hwd.1; omega)
        have e2 : eLenV (rVar 1) [some (.bw (ws.map PyData.str)), some (.fz (.str b)), some (.fz (.int c)), none, some (.fz (.str w))] = .ok (.int (b.length : Int)) := by
          rw [eLenV_ap]
          exact lenOf_s hl
        rw [bOf_ap, eOp_ap, e1, Out.bind_ok, e2, Out.bind_ok, oGt_i, Out.bind_ok]
        show Out.ok (decide ((b.length : Int) < (w.length : Int))) = _
        congr 1
        rw [Bool.eq_iff_iff, decide_eq_true_iff, decide_eq_true_iff]
        omega
      show bAnd _ _ [some (.bw (ws.map PyData.str)), some (.fz (.str b)), some (.fz (.int c)), none, some (.fz (.str w))] = _
      rw [bAnd_ap, bOf_ap, eOp_ap, hs, Out.bind_ok, show rVar 1 [some (.bw (ws.map PyData.str)), some (.fz (.str b)), some (.fz (.int c)), none, some (.fz (.str w))] = .ok (.str b) from rfl, Out.bind_ok, oEq_s (strOk_take (okWd_ok hwd) _) hb, hp, Out.bind_ok, hlt]
      show (if Txt.startswith w b = true then Out.ok (decide (b.length < w.length)) else Out.ok false) = Out.ok (Txt.startswith w b && decide (b.length < w.length))
      cases Txt.startswith w b <;> rfl)]
  rw [List.map_id', List.filter_map]
  rfl
theorem okE_one {w : Str} (h : PyData.strOk w = true) {c : Nat} (hc : c ∈ w.cps.toList) : okE (.str ⟨#[c]⟩) := okE_str (strOk_one h hc) (show (1 : Nat) ≤ 1000 by decide)
theorem M_law_bit_ok {ws : List Str} {b : Str} {c : Int} (g : GoodW ws) (hb : PyData.strOk b = true) (hl : b.length ≤ 100000) : ∃ d, okE d ∧ M_law_bit [.bw (ws.map PyData.str), .fz (.str b), .fz (.int c)] = .ok (.val d) := by
  have m9 : oMod (.int c) (.int 9) = .ok (.int (c % 9)) := oMod_i (by omega)
  have d9 : oFdiv (.int c) (.int 9) = .ok (.int (c / 9)) := oFdiv_i (by omega)
  have m99 : oMod (.int (c / 9)) (.int 9) = .ok (.int (c / 9 % 9)) := oMod_i (by omega)
  have m2 : oMod (.int (c / 9)) (.int 2) = .ok (.int (c / 9 % 2)) := oMod_i (by omega)
  rw [M_law_bit_eq]
  unfold F_law_bit
  by_cases h8 : c % 9 = 8
  · have : ∃ d, okE d ∧ atI [PyData.str (Str.ofString "2"), .str (Str.ofString ""), .str (Str.ofString "01"), .int 0, .int 1, .none, .bool true, .list [.str (Str.ofString "1")], .str (Str.ofString "o")] (c / 9 % 9) = some d := by
      have : c / 9 % 9 = 0 ∨ c / 9 % 9 = 1 ∨ c / 9 % 9 = 2 ∨ c / 9 % 9 = 3 ∨ c / 9 % 9 = 4 ∨ c / 9 % 9 = 5 ∨ c / 9 % 9 = 6 ∨ c / 9 % 9 = 7 ∨ c / 9 % 9 = 8 := by omega
      rcases this with e | e | e | e | e | e | e | e | e <;> rw [e]
      · exact ⟨_, okE_str (s := Str.ofString "2") (by decide +kernel) (by decide), rfl⟩
      · exact ⟨_, okE_str (s := Str.ofString "") (by decide +kernel) (by decide), rfl⟩
      · exact ⟨_, okE_str (s := Str.ofString "01") (by decide +kernel) (by decide), rfl⟩
      · exact ⟨_, ⟨rfl, shp_int _ _, fun s e => nomatch e⟩, rfl⟩
      · exact ⟨_, ⟨rfl, shp_int _ _, fun s e => nomatch e⟩, rfl⟩
      · exact ⟨_, ⟨rfl, shp_none _, fun s e => nomatch e⟩, rfl⟩
      · exact ⟨_, ⟨rfl, shp_bool _ _, fun s e => nomatch e⟩, rfl⟩
      · exact ⟨.list [.str (Str.ofString "1")], ⟨rfl, shp_list fun d hd => by rw [List.mem_singleton.mp hd]; exact shp_str 1 (by decide +kernel), fun s e => nomatch e⟩, rfl⟩
      · exact ⟨_, okE_str (s := Str.ofString "o") (by decide +kernel) (by decide), rfl⟩
    obtain ⟨d, hd1, hd2⟩ := this
    refine ⟨d, hd1, runF_rt (envBi ws b c none none) rfl rfl (ρ' := envBi ws b c none none) ?_⟩
    rw [g_law_bit_eq]
    refine seq_rt ?_
    rw [sIf_ap, show bOf (eOp oEq (eOp oMod (eVar 2) (eC (.int 9))) (eC (.int 8))) (envBi ws b c none none) = .ok true by simp [m9, h8], wOut_ok, if_pos rfl, sRet_ap, eIx_ok (ds := [PyData.str (Str.ofString "2"), .str (Str.ofString ""), .str (Str.ofString "01"), .int 0, .int 1, .none, .bool true, .list [.str (Str.ofString "1")], .str (Str.ofString "o")]) rfl (k := c / 9 % 9) (by simp [d9, m99]) hd2]
    rfl
  · have i0 : sIf (bOf (eOp oEq (eOp oMod (eVar 2) (eC (.int 9))) (eC (.int 8)))) (sRet (eIx (lLst oddL) (eOp oMod (eOp oFdiv (eVar 2) (eC (.int 9))) (eC (.int 9))))) sNext (envBi ws b c none none) = .nx (envBi ws b c none none) := by
      rw [sIf_ap, show bOf (eOp oEq (eOp oMod (eVar 2) (eC (.int 9))) (eC (.int 8))) (envBi ws b c none none) = .ok false by simp [m9, h8], wOut_ok, if_neg (by decide)]
      rfl
    -- a plain bit
    have last : ∀ x3 x4, ∃ d, okE d ∧ sRet (eIxS (eC (.str (Str.ofString "01"))) (eOp oMod (eOp oFdiv (eVar 2) (eC (.int 9))) (eC (.int 2)))) (envBi ws b c x3 x4) = .rt (.val d) (envBi ws b c x3 x4) := fun x3 x4 => by
      obtain ⟨s, t1, t2, t3, t4⟩ := bit01 (k := c / 9 % 2) (by omega) (by omega)
      refine ⟨.str s, okE_str t2 (by omega), ?_⟩
      have : eIxS (eC (.str (Str.ofString "01"))) (eOp oMod (eOp oFdiv (eVar 2) (eC (.int 9))) (eC (.int 2))) (envBi ws b c x3 x4) = .ok (.str s) := by
        unfold eIxS
        rw [eC_ap, Out.bind_ok, show eOp oMod (eOp oFdiv (eVar 2) (eC (.int 9))) (eC (.int 2)) (envBi ws b c x3 x4) = .ok (.int (c / 9 % 2)) by simp [d9, m2], Out.bind_ok]
        dsimp only
        rw [if_pos (by decide), t3, t4]
      rw [sRet_ap, this]
      rfl
    by_cases h5 : c % 9 < 5
    · have hon := onL_ok (c := c) g hb (by omega)
      generalize hL : (ws.filter fun w => Txt.startswith w b && decide (b.length < w.length)) = L at hon
      have hc5 : bOf (eOp oLt (eOp oMod (eVar 2) (eC (.int 9))) (eC (.int 5))) (envBi ws b c none none) = .ok true := by simp [m9, h5]
      have hne : bOf (eOp oNe (rVar 3) (eOfL (lLst []))) (envBi ws b c (some (.ow (L.map PyData.str))) none) = .ok (!(L.map PyData.str).isEmpty) := by
        rw [bOf_ap, eOp_ap, show rVar 3 (envBi ws b c (some (.ow (L.map PyData.str))) none) = .ok (.list (L.map PyData.str)) from rfl, Out.bind_ok, eOfL_ap, lLst_ap, aAll_nil, Out.bind_ok, Out.bind_ok, oNe_nil (shp_strs 0 fun s hs => by rw [← hL] at hs; exact okWd_ok (g.wd s (List.mem_filter.mp hs).1)), Out.bind_ok]
      by_cases hn : L = []
      · obtain ⟨d, hd1, hd2⟩ := last (some (.ow (L.map PyData.str))) none
        refine ⟨d, hd1, runF_rt (envBi ws b c none none) rfl rfl (ρ' := envBi ws b c (some (.ow (L.map PyData.str))) none) ?_⟩
        rw [g_law_bit_eq, seq_nx i0, seq_nx (ρ' := envBi ws b c (some (.ow (L.map PyData.str))) none) (by
          rw [sIf_ap, hc5, wOut_ok, if_pos rfl]
          unfold thenB
          rw [seq_nx (ρ' := envBi ws b c (some (.ow (L.map PyData.str))) none) (by rw [sSetL_ap, hon]; rfl), sIf_ap, hne, hn]
          rfl)]
        exact hd2
      · have hpos : 0 < L.length := List.length_pos_iff.mpr hn
        have e0 := Int.emod_nonneg (c / 9) (b := (L.length : Int)) (by omega)
        have e1 := Int.emod_lt_of_pos (c / 9) (b := (L.length : Int)) (by omega)
        have hq : (c / 9 % (L.length : Int)).toNat < L.length := by omega
        have hwm : L[(c / 9 % (L.length : Int)).toNat] ∈ ws.filter fun w => Txt.startswith w b && decide (b.length < w.length) := by rw [hL]; exact List.getElem_mem hq
        generalize hw : L[(c / 9 % (L.length : Int)).toNat] = w at hwm
        rw [List.mem_filter, Bool.and_eq_true, decide_eq_true_iff] at hwm
        obtain ⟨hwm, _, hlt⟩ := hwm
        have hwd := g.wd w hwm
        have hat : atI (L.map PyData.str) (c / 9 % (L.length : Int)) = some (.str w) := by
          have := atI_nat (xs := L.map PyData.str) (j := (c / 9 % (L.length : Int)).toNat) (v := .str w) (by rw [List.getElem?_map, List.getElem?_eq_getElem hq, hw]; rfl)
          rw [show (((c / 9 % (L.length : Int)).toNat : Nat) : Int) = c / 9 % (L.length : Int) by omega] at this
          exact this
        have hwl : w.length = w.cps.toList.length := by rw [Array.length_toList]; rfl
        have hb2 : b.length < w.cps.toList.length := by omega
        have hat2 : atI w.cps.toList (b.length : Int) = some (w.cps.toList[b.length]) := atI_nat (List.getElem?_eq_getElem hb2)
        have hLl : (L.map PyData.str).length = L.length := List.length_map _
        have hmod : oMod (.int (c / 9)) (.int (L.length : Int)) = .ok (.int (c / 9 % (L.length : Int))) := oMod_i (by omega)
        refine ⟨.str ⟨#[w.cps.toList[b.length]]⟩, okE_one (okWd_ok hwd) (List.getElem_mem hb2), runF_rt (envBi ws b c none none) rfl rfl (ρ' := envBi ws b c (some (.ow (L.map PyData.str))) (some (.fz (.str w)))) ?_⟩
        rw [g_law_bit_eq, seq_nx i0]
        refine seq_rt ?_
        rw [sIf_ap, hc5, wOut_ok, if_pos rfl]
        unfold thenB
        rw [seq_nx (ρ' := envBi ws b c (some (.ow (L.map PyData.str))) none) (by rw [sSetL_ap, hon]; rfl), sIf_ap, hne, show (L.map PyData.str).isEmpty = false by cases L with | nil => exact absurd rfl hn | cons _ _ => rfl, wOut_ok]
        have hx : eIx (lVar 3) (eOp oMod (eOp oFdiv (eVar 2) (eC (.int 9))) (eLenV (rVar 3))) (envBi ws b c (some (.ow (L.map PyData.str))) none) = .ok (.str w) := by
          refine eIx_ok rfl (k := c / 9 % (L.length : Int)) ?_ hat
          rw [eOp_ap, eOp_ap, show eVar 2 (envBi ws b c (some (.ow (L.map PyData.str))) none) = .ok (.int c) from rfl, Out.bind_ok, eC_ap, Out.bind_ok, d9, Out.bind_ok, show eLenV (rVar 3) (envBi ws b c (some (.ow (L.map PyData.str))) none) = .ok (.int ((L.map PyData.str).length : Int)) from rfl, Out.bind_ok, hLl, hmod]
        show sSeq (sSet 4 _) (sRet _) _ = _
        rw [seq_nx (ρ' := envBi ws b c (some (.ow (L.map PyData.str))) (some (.fz (.str w)))) (by rw [sSet_ap, hx]; rfl), sRet_ap]
        have hxs : eIxS (eVar 4) (eLenV (rVar 1)) (envBi ws b c (some (.ow (L.map PyData.str))) (some (.fz (.str w)))) = .ok (.str ⟨#[w.cps.toList[b.length]]⟩) := by
          unfold eIxS
          rw [show eVar 4 (envBi ws b c (some (.ow (L.map PyData.str))) (some (.fz (.str w)))) = .ok (.str w) from rfl, Out.bind_ok, eLenV_ap, show rVar 1 (envBi ws b c (some (.ow (L.map PyData.str))) (some (.fz (.str w)))) = .ok (.str b) from rfl, Out.bind_ok, lenOf_s (by omega), Out.bind_ok]
          dsimp only
          rw [if_pos (by have := hwd.1; omega), hat2]
        rw [hxs]
        rfl
    · obtain ⟨d, hd1, hd2⟩ := last none none
      refine ⟨d, hd1, runF_rt (envBi ws b c none none) rfl rfl (ρ' := envBi ws b c none none) ?_⟩
      rw [g_law_bit_eq, seq_nx i0, seq_nx (ρ' := envBi ws b c none none) (by
        rw [sIf_ap, show bOf (eOp oLt (eOp oMod (eVar 2) (eC (.int 9))) (eC (.int 5))) (envBi ws b c none none) = .ok false by simp [m9, h5], wOut_ok, if_neg (by decide)]
        rfl)]
      exact hd2


end
end PL
namespace PL.L
open PySem L2 PL
def topS (i : Nat) : Stmt := PySem.Challenge.pw_shortlimit_k13_a_reader.main.body.getD i (.Pass ⟨0, 0, 0, 0⟩)
structure Tops (K : PySem.W.Frag) (mg : Str → Option Value) : Prop where
  z_ValueError : mg "ValueError" = none
  z_all : mg "all" = none
  z_any : mg "any" = none
  z_bool : mg "bool" = none
  z_int : mg "int" = none
  z_isinstance : mg "isinstance" = none
  z_len : mg "len" = none
  z_list : mg "list" = none
  z_min : mg "min" = none
  z_range : mg "range" = none
  z_str : mg "str" = none
  z_tuple : mg "tuple" = none
  c_MOST_BOUND : ∃ t, mg "MOST_BOUND" = some (.int 12 t)
  c_MOST_SIGNS : ∃ t, mg "MOST_SIGNS" = some (.int 24 t)
  e_BadBits : ∃ A, XCls K mg "BadBits" A
  e_BadWords : ∃ A, XCls K mg "BadWords" A
  h8 : Is8 K mg
  t_BadBits : IsT K mg "BadBits"
  t_BadBound : IsT K mg "BadBound"
  t_BadLengths : IsT K mg "BadLengths"
  t_BadWeight : IsT K mg "BadWeight"
  t_BadWords : IsT K mg "BadWords"
  t_NoRoom : IsT K mg "NoRoom"
  t_NoSign : IsT K mg "NoSign"
  t_NoWeights : IsT K mg "NoWeights"
  c_all : Cat K mg "CodeError" ct8

section
variable {P : Program} {w : World} {K : PySem.W.Frag} {mg : Str → Option Value} {base : Heap} {tb : List (Addr × Str)}
theorem Tops.x_BadBits (T : Tops K mg) : XCls K mg "BadBits" T.e_BadBits.choose := T.e_BadBits.choose_spec
theorem Tops.x_BadWords (T : Tops K mg) : XCls K mg "BadWords" T.e_BadWords.choose := T.e_BadWords.choose_spec
abbrev s_is_word : Stmt := topS 13
abbrev N_is_word : List Str := ["thing", "bit"]
theorem sc_is_word : FnScope N_is_word ["thing"] (defScope s_is_word) := ⟨rfl, rfl, rfl, by decide +kernel, rfl, by decide +kernel, by decide +kernel⟩
theorem d_is_word (T : Tops K mg) {f : Addr} {fd : FuncData} (F : Fun K "is_word" "is_word" s_is_word f fd) (hmg : mg "is_word" = some (.ref f)) : Dfn P w K mg base tb (cvOf mg) 1 "is_word" 1 M_is_word := by
  refine (mk_def (N := N_is_word) (ps := ["thing"]) (g := g_is_word) F sc_is_word hmg (F.binds fun _ _ _ _ _ _ us hl => match us, hl with | [_], _ => rfl) (fun cdv A outer s H O E hr hx tk hp => ?_)).imp ok_is_word
  exact (ss_cons (s_if (PW.pt (w_or (t_not (t_val (v_isI (T := "str") (by rfl) T.z_isinstance (by rfl) T.z_str (by decide +kernel) (r_var 0)))) (w_or (t_cmp d_lt (v_len (by rfl) T.z_len (r_var 0)) v_int) (w_or1 (t_cmp d_gt (v_len (by rfl) T.z_len (r_var 0)) (v_glob (by rfl) T.c_MOST_BOUND.choose_spec)))))) (ss_one (s_ret v_bl)) ss_nil)
      (ss_one (s_ret (v_all rfl (by rfl) T.z_all (l_F (f_lc (own := [("bit", 1)]) rfl sc_is_word.nd (wE_W (w_str (v_var 0))) (tg_name 1) (blkOk_by (own := [("bit", 1)]) (N := N_is_word) (sc := defScope s_is_word) (by decide +kernel)) (by decide) (fun _ _ _ _ _ => (pg_name (i := 1) sc_is_word.nd rfl (Or.inl rfl))) (fun _ _ _ _ _ => ts_nil) (fun _ _ _ _ _ => (v_cmp d_inS (v_var 1) v_str))))))))
abbrev s_need_words : Stmt := topS 14
abbrev N_need_words : List Str := ["words", "one", "at", "here"]
theorem sc_need_words : FnScope N_need_words ["words"] (defScope s_need_words) := ⟨rfl, rfl, rfl, by decide +kernel, rfl, by decide +kernel, by decide +kernel⟩
theorem d_need_words (T : Tops K mg) {f : Addr} {fd : FuncData} (F : Fun K "need_words" "need_words" s_need_words f fd) (hmg : mg "need_words" = some (.ref f)) (D_is_word : Dfn P w K mg base tb (cvOf mg) 1 "is_word" 1 M_is_word) : Dfn P w K mg base tb (cvOf mg) 2 "need_words" 1 M_need_words := by
  refine (mk_def (N := N_need_words) (ps := ["words"]) (g := g_need_words) F sc_need_words hmg (F.binds fun _ _ _ _ _ _ us hl => match us, hl with | [_], _ => rfl) (fun cdv A outer s H O E hr hx tk hp => ?_)).imp ok_need_words
  exact (ss_cons (s_if (t_cmp d_gt (v_len (by rfl) T.z_len (r_var 0)) (v_glob (by rfl) T.c_MOST_SIGNS.choose_spec)) (ss_one (s_raiseC (n := "BadWords") T.x_BadWords rfl rfl rfl tk (by rfl))) ss_nil)
      (ss_cons (s_for (ws := [1]) hp rfl (w_var 0) (tg_name 1) (pg_name (i := 1) sc_need_words.nd rfl (Or.inl rfl)) (ss_one (s_if (t_not (t_val (v_X (x_call D_is_word (hr.mono (by decide)) hx (by rfl) (ar_V (v_var 1) ar_nil) (rV_len rNil_len))))) (ss_one (s_raiseC (n := "BadWords") T.x_BadWords rfl rfl rfl tk (by rfl))) ss_nil)))
      (ss_one (s_for (ws := [2, 3]) hp rfl (w_range1 (by rfl) T.z_range (v_len (by rfl) T.z_len (r_var 0))) (tg_name 2) (pg_name (i := 2) sc_need_words.nd rfl (Or.inl rfl)) (ss_one (s_for (ws := [3]) hp rfl (w_range1 (by rfl) T.z_range (v_len (by rfl) T.z_len (r_var 0))) (tg_name 3) (pg_name (i := 3) sc_need_words.nd rfl (Or.inl rfl)) (ss_one (s_if (PW.pt (w_and (t_cmpR (d_ne hr.units) (r_var 2) (r_var 3)) (w_and1 (t_val (v_startswith (v_ix (l_var 0) (v_var 3)) (v_ix (l_var 0) (v_var 2))))))) (ss_one (s_raiseC (n := "BadWords") T.x_BadWords rfl rfl rfl tk (by rfl))) ss_nil))))))))
abbrev s_rInit : Stmt := inClass (topS 15) 0
abbrev s_rTake : Stmt := inClass (topS 15) 1
abbrev s_rHeld : Stmt := inClass (topS 15) 2
abbrev s_rDone : Stmt := inClass (topS 15) 3
abbrev N_rTake : List Str := ["self", "bit", "bits", "sign", "word"]
theorem sc_rInit : FnScope ["self", "words"] ["self", "words"] (defScope s_rInit) := ⟨rfl, rfl, rfl, by decide +kernel, rfl, by decide +kernel, by decide +kernel⟩
theorem sc_rTake : FnScope N_rTake ["self", "bit"] (defScope s_rTake) := ⟨rfl, rfl, rfl, by decide +kernel, rfl, by decide +kernel, by decide +kernel⟩
theorem sc_rHeld : FnScope ["self"] ["self"] (defScope s_rHeld) := ⟨rfl, rfl, rfl, by decide +kernel, rfl, by decide +kernel, by decide +kernel⟩
theorem sc_rDone : FnScope ["self"] ["self"] (defScope s_rDone) := ⟨rfl, rfl, rfl, by decide +kernel, rfl, by decide +kernel, by decide +kernel⟩
def spRInit (K : PySem.W.Frag) (tb : List (Addr × Str)) (cv : String → Value) (C : Addr) (nw : FN) : Sp := fun vs H Q E => ∃ (O : List Addr) (p dx a : Addr) (us : List V) (ds : List PyData), vs = [.ref p, .ref a] ∧ H p = some (.ins C dx []) ∧ LamX.Tabs tb H ∧ (∀ b ∈ O, H b ≠ none) ∧ SqL K H a us ∧ DpAll K (hid O H) us ds ∧ match nw [.bw ds] with
  | .ok _ => ∃ ws : List Str, us = ws.map V.str ∧ ∀ H' q1 q2, H q1 = none → H q2 = none → RdAt C H' p q1 q2 ws Str.empty [] → ExM tb [p] H H' → Q .non H'
  | .exc n => ∀ H', Gx tb H H' → E (cv n) none H'
  | .stuck => False
def spRTake (K : PySem.W.Frag) (tb : List (Addr × Str)) (cv : String → Value) (C : Addr) : Sp := fun vs H Q E => ∃ (p q1 q2 : Addr) (ws : List Str) (b s : Str) (ss : List Int), vs = [.ref p, .str s] ∧ RdAt C H p q1 q2 ws b ss ∧ LamX.Tabs tb H ∧ ws.length ≤ 1000 ∧ b.length + s.length ≤ 1000000 ∧ ss.length < 1000000 ∧ match takeO ws b s with
  | .got k => ∀ H', RdAt C H' p q1 q2 ws Str.empty (ss ++ [(k : Int)]) → ExM tb [p, q2] H H' → Q (.int (k : Int)) H'
  | .more => ∀ H', RdAt C H' p q1 q2 ws (b ++ s) ss → ExM tb [p, q2] H H' → Q .non H'
  | .bad => ∀ H', Gx tb H H' → E (cv "BadBits") none H'
def spRHeld (C : Addr) : Sp := fun vs H Q _ => ∃ (p q1 q2 : Addr) (ws : List Str) (b : Str) (ss : List Int), vs = [.ref p] ∧ RdAt C H p q1 q2 ws b ss ∧ Q (.str b) H
def spRDone (C : Addr) : Sp := fun vs H Q _ => ∃ (p q1 q2 : Addr) (ws : List Str) (b : Str) (ss : List Int), vs = [.ref p] ∧ RdAt C H p q1 q2 ws b ss ∧ ∀ l, H l = none → Q (.ref l) (upd H l (.lst (ss.map V.int)))
section
variable {C fI fT fH fD : Addr} {fd : FuncData} {k : Nat} {nw : FN}
theorem d_rInit (zl : mg "list" = none) (T : RdTxt K mg C fI fT fH fD) (F : Fun K "__init__" "Reader.__init__" s_rInit fI fd) (D : Dfn P w K mg base tb (cvOf mg) k "need_words" 1 nw) :
    FnOk P w K mg base (L2.CX P w) (k + 1) fI fd ["self", "words"] (spRInit K tb (cvOf mg) C nw) := by
  refine F.okX sc_rInit (fun vs H Q E h => by obtain ⟨_, p, dx, a, _, _, rfl, _⟩ := h; rfl) (fun cdv A outer s H vs Q E hr h => ?_)
  obtain ⟨O, p, dx, a, us, ds, rfl, hp, hT, al, hs, ha, h⟩ := h
  obtain ⟨fN, fdN, psN, FN0, mgN, kpN, bN⟩ := D.ex
  have tk : Takes (cxOf (L2.CX P w) P w K mg base ["self", "words"] "Reader.__init__" (defScope s_rInit) fI cdv A outer s H E) (fun cls d _ H => E cls d H) := takes_of rfl rfl rfl rfl
  refine ⟨_, pss_cons (ps_expr (pe_callS FN0 hr (by rfl) mgN kpN bN (fun σ => passAt tk σ) (pa_cons (pv 1) pa_nil)) (by rfl)) (pss_cons (ps_fld (pv 0) (pe_callTy call_list_of (by rfl) zl (by decide +kernel) (pa_cons (pv 1) pa_nil) (by decide) (by decide) (by rfl)) rfl) (pss_cons (ps_fld (pv 0) pe_str rfl) (pss_one (ps_fld (pv 0) (pe_lst pa_nil) rfl)))), ?_⟩
  refine ⟨_, rfl, O, [.bw ds], rfl, hT, al, .cons ⟨a, us, rfl, hs, ha⟩ .nil, ?_⟩
  cases z : nw [.bw ds] with
  | stuck => rw [z] at h; exact h.elim
  | exc n => rw [z] at h; exact fun H' x => h H' x
  | ok r =>
    rw [z] at h
    obtain ⟨ws, rfl, q⟩ := h
    intro v H1 x1 _
    refine ⟨_, rfl, a, _, rfl, .inl (ex_l x1.ex hs), fun q1 n1 => ?_⟩
    have hp1 : H1 p = some (.ins C dx []) := x1.ex _ _ hp rfl
    have np1 : p ≠ q1 := ne_of_none hp1 n1
    refine ⟨_, rfl, p, C, dx, [], rfl, (by rw [upd_ne np1]; exact hp1), T.cl, T.nW, (by show 0 < 1000; decide), ?_⟩
    refine ⟨_, rfl, p, C, dx, _, rfl, upd_same, T.cl, T.nB, (by show 1 < 1000; decide), ?_⟩
    refine ⟨Nat.zero_le _, fun q2 n2 => ?_⟩
    have np2 : p ≠ q2 := fun z => by subst z; rw [upd_same] at n2; cases n2
    rw [upd_ne np2.symm, upd_ne np2.symm] at n2
    have n12 : q1 ≠ q2 := fun z => by subst z; rw [upd_same] at n2; cases n2
    have n2' : H1 q2 = none := by rw [upd_ne n12.symm] at n2; exact n2
    refine ⟨_, rfl, p, C, dx, _, rfl, (by rw [upd_ne np2]; exact upd_same), T.cl, T.nS, (by rw [rdF_two]; show 2 < 1000; decide), ?_⟩
    refine q _ q1 q2 (fresh_back x1 n1) (fresh_back x1 n2') ⟨⟨dx, by rw [upd_same, rdF_make, str0]⟩, by rw [upd_ne np1.symm, upd_ne n12, upd_ne np1.symm, upd_ne np1.symm, upd_same], by rw [upd_ne np2.symm, upd_same]; rfl, n12⟩ ?_
    have e1 := (ExM.refl (τ := tb) [p] H).grow x1
    have e2 := e1.grow (Gx.new n1 (o := .lst (ws.map V.str)))
    have e3 := e2.put (o := .ins C dx []) (o' := .ins C dx (putF "words" (.ref q1) [])) (.inr List.mem_cons_self) (by rw [upd_ne np1]; exact hp1) rfl nofun
    have e4 := e3.put (o := .ins C dx (putF "words" (.ref q1) [])) (o' := .ins C dx (putF "bits" (.str "") (putF "words" (.ref q1) []))) (.inr List.mem_cons_self) upd_same rfl nofun
    have e5 := e4.grow (Gx.new (o := .lst []) (show _ = none by rw [upd_ne np2.symm, upd_ne np2.symm]; exact n2))
    exact e5.put (o := .ins C dx (putF "bits" (.str "") (putF "words" (.ref q1) []))) (.inr List.mem_cons_self) (by rw [upd_ne np2]; exact upd_same) rfl nofun
theorem d_rHeld (T : RdTxt K mg C fI fT fH fD) (F : Fun K "held" "Reader.held" s_rHeld fH fd) : FnOk P w K mg base (L2.CX P w) 1 fH fd ["self"] (spRHeld C) := by
  refine F.okX sc_rHeld (fun vs H Q E h => by obtain ⟨p, q1, q2, ws, b, ss, rfl, _⟩ := h; rfl) (fun cdv A outer s H vs Q E hr h => ?_)
  obtain ⟨p, q1, q2, ws, b, ss, rfl, ⟨⟨dx, h1⟩, h2, h3, h4⟩, q⟩ := h
  exact ⟨_, pss_one (ps_ret (pe_fld (pv 0) rfl)), _, rfl, p, C, dx, _, _, rfl, h1, T.cl, T.nB, rdF_bits _ _ _, q⟩
theorem d_rDone (zl : mg "list" = none) (T : RdTxt K mg C fI fT fH fD) (F : Fun K "done" "Reader.done" s_rDone fD fd) : FnOk P w K mg base (L2.CX P w) 1 fD fd ["self"] (spRDone C) := by
  refine F.okX sc_rDone (fun vs H Q E h => by obtain ⟨p, q1, q2, ws, b, ss, rfl, _⟩ := h; rfl) (fun cdv A outer s H vs Q E hr h => ?_)
  obtain ⟨p, q1, q2, ws, b, ss, rfl, ⟨⟨dx, h1⟩, h2, h3, h4⟩, q⟩ := h
  exact ⟨_, pss_one (ps_ret (pe_callTy call_list_of (by rfl) zl (by decide +kernel) (pa_cons (pe_fld (pv 0) rfl) pa_nil) (by decide) (by decide) (by rfl))), _, rfl, p, C, dx, _, _, rfl, h1, T.cl, T.nS, rdF_signs _ _ _, q2, _, rfl, .inl (SqL.of h3), q⟩
theorem inV_strs (x : Str) (ws : List Str) : inV (.str x) (ws.map V.str) = decide (x ∈ ws) := by
  unfold inV
  rw [List.any_map, Bool.eq_iff_iff, List.any_eq_true, decide_eq_true_iff]
  constructor
  · rintro ⟨y, hy, e⟩
    have : y = x := beq_iff_eq.mp e
    subst this
    exact hy
  · exact fun h => ⟨x, h, beq_iff_eq.mpr rfl⟩
theorem flat_strs (ws : List Str) : (ws.map V.str).all flatV = true := by
  rw [List.all_map, List.all_eq_true]
  intro y _
  rfl
theorem idx_strs {x : Str} {ws : List Str} (h : x ∈ ws) : ∃ z, (ws.map V.str)[ws.findIdx fun y => decide (y = x)]? = some z ∧ eqV z (.str x) = true ∧ ∀ m z', m < (ws.findIdx fun y => decide (y = x)) → (ws.map V.str)[m]? = some z' → eqV z' (.str x) = false := by
  have hl : (ws.findIdx fun y => decide (y = x)) < ws.length := List.findIdx_lt_length_of_exists ⟨x, h, decide_eq_true rfl⟩
  refine ⟨.str ws[ws.findIdx fun y => decide (y = x)], by rw [List.getElem?_map, List.getElem?_eq_getElem hl]; rfl, ?_, fun m z' hm e => ?_⟩
  · have := of_decide_eq_true (List.findIdx_getElem (w := hl))
    exact beq_iff_eq.mpr this
  · have hm2 : m < ws.length := by omega
    rw [List.getElem?_map, List.getElem?_eq_getElem hm2] at e
    cases e
    have := List.not_of_lt_findIdx hm
    exact beq_eq_false_iff_ne.mpr fun z => by rw [z] at this; simp at this
theorem d_rTake (zi : mg "isinstance" = none) (zs : mg "str" = none) (za : mg "any" = none) {A0 : Addr} (xb : XCls K mg "BadBits" A0) (T : RdTxt K mg C fI fT fH fD) (F : Fun K "take" "Reader.take" s_rTake fT fd) :
    FnOk P w K mg base (L2.CX P w) 1 fT fd ["self", "bit"] (spRTake K tb (cvOf mg) C) := by
  refine F.okX sc_rTake (fun vs H Q E h => by obtain ⟨p, q1, q2, ws, b, s, ss, rfl, _⟩ := h; rfl) (fun cdv A outer s0 H vs Q E hr h => ?_)
  obtain ⟨p, q1, q2, ws, b, s, ss, rfl, R, hT, hlw, hlb, hls, h⟩ := h
  obtain ⟨⟨dx, h1⟩, h2, h3, h4⟩ := id R
  have tk : Takes (cxOf (L2.CX P w) P w K mg base N_rTake "Reader.take" (defScope s_rTake) fT cdv A outer s0 H E) (fun cls d _ H => E cls d H) := takes_of rfl rfl rfl rfl
  have nd := sc_rTake.nd
  have bad : ∀ (σ : L2.St) (H' : Hp), σ.length = 5 → Gx tb H H' → (∀ H'', Gx tb H H'' → E (cvOf mg "BadBits") none H'') → tS K (PC.of tb (cvOf mg) H [] E) (sRaise "BadBits") { nx := fun _ H' => Q .non H', rt := Q } σ H' := fun σ H' hl x e => by
    refine ⟨[], List.replicate 5 none, ⟨(ExM.refl _ _).grow x, ⟨fun b hb => (List.not_mem_nil hb).elim, hT⟩, fun b hb => hb, fun b hb => (List.not_mem_nil hb).elim, by rw [hl, List.length_replicate], fun i s e => ?_, fun i j s t q _ e _ _ _ _ _ => ?_⟩, fun σ' O' H'' R' _ => e H'' (show ExM _ [] H H'' from R'.ex).gx⟩
    · rw [List.getElem?_replicate] at e; split at e <;> cases e
    · rw [List.getElem?_replicate] at e; split at e <;> cases e
  -- behind the first test
  have rest : ¬ (s ≠ "0" ∧ s ≠ "1") → ∃ t, PSs (cxOf (L2.CX P w) P w K mg base N_rTake "Reader.take" (defScope s_rTake) fT cdv A outer s0 H E) ((defBody s_rTake).drop 1) t ∧ t { nx := fun _ H' => Q .non H', rt := Q } [some (.ref p), some (.str s), none, none, none] H := fun hb => by
    refine ⟨_, (pss_cons (ps_set (i := 2) nd rfl (Or.inr rfl) (pe_op op_add_str (pe_fld (pv 0) rfl) (pv 1)))
      (pss_cons (ps_if (pt_cmpR op_in_seq (pv 2) (pe_fld (pv 0) rfl) (by rfl))
        (pss_cons (ps_set (i := 3) nd rfl (Or.inl rfl) (pe_bm PySem.F.plainAttrs_list PySem.F.slot_list_index PySem.F.type_list_index mt_index (pe_fld (pv 0) rfl) (pa_cons (pv 2) pa_nil)))
        (pss_cons (ps_expr (pe_bm PySem.F.plainAttrs_list PySem.F.slot_list_append PySem.F.type_list_append mt_append (pe_fld (pv 0) rfl) (pa_cons (pv 3) pa_nil)))
        (pss_cons (ps_fld (pv 0) pe_str rfl) (pss_one (ps_ret (pv 3)))))) pss_nil)
      (pss_cons (ps_if (pt_not (pt_val (pe_callB (cr_any rfl) (by rfl) za (by decide +kernel) (pa_cons (pe_lc (own := [("word", 4)]) (g := gName 4) (tt := tYes) rfl nd (pi_list (pe_fld (pv 0) rfl)) (blkOk_by (own := [("word", 4)]) (N := N_rTake) (sc := defScope s_rTake) (by decide +kernel)) (fun _ _ _ _ _ => pg_name (i := 4) nd rfl (Or.inl rfl)) (fun _ _ _ _ _ => pts_nil)
          (fun _ _ _ _ _ => pe_m1 PySem.F.slot_str_startswith PySem.F.type_str_startswith mt_startswith (pv 4) (pv 2) (by rfl) (by rfl) (by rfl))) pa_nil) (by decide) (by decide) (by rfl))))
        (pss_one (s_raiseC (C := PC.of tb (cvOf mg) H [] E) (n := "BadBits") xb rfl rfl rfl tk (by rfl))) pss_nil)
      (pss_cons (ps_fld (pv 0) (pv 2) rfl) (pss_one (ps_ret pe_non))))) : PSs _ ((defBody s_rTake).drop 1) _), ?_⟩
    refine ⟨_, rfl, p, C, dx, _, _, rfl, h1, T.cl, T.nB, rdF_bits _ _ _, _, rfl, _, _, rfl, rfl, line_le hlb, ?_⟩
    refine ⟨_, rfl, _, rfl, p, C, dx, _, _, rfl, h1, T.cl, T.nW, rdF_words _ _ _, q1, _, rfl, .inl (SqL.of h2), rfl, flat_strs ws, _, rfl, ?_⟩
    have hin : (if false = true then !inV (V.str (b ++ s)) (ws.map V.str) else inV (V.str (b ++ s)) (ws.map V.str)) = decide (b ++ s ∈ ws) := by rw [if_neg (by decide), inV_strs]
    by_cases hm : b ++ s ∈ ws
    · refine iteTc (by rw [hin, decide_eq_true hm]) ?_
      have ht : takeO ws b s = .got (ws.findIdx fun y => decide (y = b ++ s)) := by unfold takeO; rw [if_neg hb, if_pos hm]
      rw [ht] at h
      obtain ⟨z, g1, g2, g3⟩ := idx_strs hm
      have hl : (ss.map V.int).length < sizeLine := by rw [List.length_map]; exact line_lt hls
      refine ⟨_, rfl, p, C, dx, _, _, rfl, h1, T.cl, T.nW, rdF_words _ _ _, .inl ⟨rfl, _, SqL.of h2⟩, _, rfl, q1, _, .str (b ++ s), _, z, rfl, rfl, SqL.of h2, rfl, flat_strs ws, g1, g2, g3, ?_⟩
      refine ⟨_, rfl, p, C, dx, _, _, rfl, h1, T.cl, T.nS, rdF_signs _ _ _, .inl ⟨rfl, _, SqL.of h3⟩, _, rfl, q2, _, _, rfl, rfl, h3, hl, ?_⟩
      have np2 : p ≠ q2 := ne_of h1 h3 (by intro z; cases z)
      have np1 : p ≠ q1 := ne_of h1 h2 (by intro z; cases z)
      refine ⟨_, rfl, p, C, dx, _, rfl, (by rw [upd_ne np2]; exact h1), T.cl, T.nB, (by show 3 < 1000; decide), ?_⟩
      refine ⟨_, rfl, ?_⟩
      refine h _ ⟨⟨dx, by rw [upd_same, rdF_put, str0]⟩, by rw [upd_ne np1.symm, upd_ne h4]; exact h2, by rw [upd_ne np2.symm, upd_same, List.map_append]; rfl, h4⟩ ?_
      have e1 := (ExM.refl (τ := tb) [p, q2] H).put (o' := .lst (ss.map V.int ++ [V.int ((ws.findIdx fun y => decide (y = b ++ s) : Nat) : Int)])) (.inr (List.mem_cons_of_mem _ List.mem_cons_self)) h3 rfl nofun
      exact e1.put (o := .ins C dx (rdF q1 b q2)) (.inr List.mem_cons_self) (by rw [upd_ne np2]; exact h1) rfl nofun
    · refine iteFc (by rw [hin, decide_eq_false hm]) ?_
      refine ⟨_, rfl, p, C, dx, _, _, rfl, h1, T.cl, T.nW, rdF_words _ _ _, q1, rfl, ⟨_, SqL.of h2⟩, fun D nD => ?_⟩
      have n1 : q1 ≠ D := ne_of_none h2 nD
      have n2 : q2 ≠ D := ne_of_none h3 nD
      have npD : p ≠ D := ne_of_none h1 nD
      refine lc_list (K := K) (a := q1) (xs := ws.map V.str) (fun i H' => H' = upd H D (.lst ((ws.take i).map fun y => V.bl (Txt.startswith y (b ++ s))))) rfl (fun i H' _ e => by rw [e]; exact SqL.of (by rw [upd_ne n1]; exact h2)) ?_ ?_
      · rintro i x H' hx rfl
        rw [List.getElem?_map] at hx
        cases ey : ws[i]? with
        | none => rw [ey] at hx; cases hx
        | some y =>
          rw [ey] at hx
          cases hx
          have hi := (List.getElem?_eq_some_iff.mp ey).1
          refine ⟨rfl, ?_⟩
          unfold tYes
          dsimp only
          rw [if_pos rfl]
          refine ⟨_, rfl, ⟨_, rfl⟩, _, rfl, _, _, rfl, rfl, _, upd_same, line_lt (by rw [List.length_map, List.length_take]; omega), ?_⟩
          show upd (upd H D _) D _ = upd H D _
          rw [List.take_add_one, ey, List.map_append, upd_upd]
          rfl
      · rintro H' rfl
        rw [List.length_map, List.take_length]
        have hk : ws.map (fun y => V.bl (Txt.startswith y (b ++ s))) = (ws.map fun y => Txt.startswith y (b ++ s)).map V.bl := by rw [List.map_map]; rfl
        refine ⟨D, _, rfl, SqL.of (by rw [upd_same, hk]), ?_⟩
        have ha : (ws.map fun y => Txt.startswith y (b ++ s)).any id = ws.any fun y => Txt.startswith y (b ++ s) := by rw [List.any_map]; rfl
        refine ⟨_, rfl, ?_⟩
        have x1 : Gx tb H (upd H D (.lst (ws.map fun y => V.bl (Txt.startswith y (b ++ s))))) := Gx.new nD
        by_cases hy : (ws.any fun y => Txt.startswith y (b ++ s)) = true
        · have ht : takeO ws b s = .more := by unfold takeO; rw [if_neg hb, if_neg hm, if_pos hy]
          rw [ht] at h
          refine iteFc (by rw [ha, hy]; rfl) ?_
          have np1 : p ≠ q1 := ne_of h1 h2 (by intro z; cases z)
          have np2 : p ≠ q2 := ne_of h1 h3 (by intro z; cases z)
          refine ⟨_, rfl, _, rfl, p, C, dx, _, rfl, (by rw [upd_ne npD]; exact h1), T.cl, T.nB, (by show 3 < 1000; decide), ?_⟩
          refine h _ ⟨⟨dx, by rw [upd_same, rdF_put]⟩, by rw [upd_ne np1.symm, upd_ne n1]; exact h2, by rw [upd_ne np2.symm, upd_ne n2]; exact h3, h4⟩ ?_
          exact ((ExM.refl (τ := tb) [p, q2] H).grow x1).put (o := .ins C dx (rdF q1 b q2)) (.inr List.mem_cons_self) (by rw [upd_ne npD]; exact h1) rfl nofun
        · have ht : takeO ws b s = .bad := by unfold takeO; rw [if_neg hb, if_neg hm, if_neg hy]
          rw [ht] at h
          refine iteTc (by rw [ha, Bool.eq_false_iff.mpr hy]; rfl) ?_
          exact bad _ _ rfl x1 h
  by_cases hb : s ≠ "0" ∧ s ≠ "1"
  · have ht : takeO ws b s = .bad := by unfold takeO; rw [if_pos hb]
    rw [ht] at h
    obtain ⟨t, ht, _⟩ : ∃ t, PSs (cxOf (L2.CX P w) P w K mg base N_rTake "Reader.take" (defScope s_rTake) fT cdv A outer s0 H E) ((defBody s_rTake).drop 1) t ∧ True := ⟨_, (pss_cons (ps_set (i := 2) nd rfl (Or.inr rfl) (pe_op op_add_str (pe_fld (pv 0) rfl) (pv 1)))
      (pss_cons (ps_if (pt_cmpR op_in_seq (pv 2) (pe_fld (pv 0) rfl) (by rfl))
        (pss_cons (ps_set (i := 3) nd rfl (Or.inl rfl) (pe_bm PySem.F.plainAttrs_list PySem.F.slot_list_index PySem.F.type_list_index mt_index (pe_fld (pv 0) rfl) (pa_cons (pv 2) pa_nil)))
        (pss_cons (ps_expr (pe_bm PySem.F.plainAttrs_list PySem.F.slot_list_append PySem.F.type_list_append mt_append (pe_fld (pv 0) rfl) (pa_cons (pv 3) pa_nil)))
        (pss_cons (ps_fld (pv 0) pe_str rfl) (pss_one (ps_ret (pv 3)))))) pss_nil)
      (pss_cons (ps_if (pt_not (pt_val (pe_callB (cr_any rfl) (by rfl) za (by decide +kernel) (pa_cons (pe_lc (own := [("word", 4)]) (g := gName 4) (tt := tYes) rfl nd (pi_list (pe_fld (pv 0) rfl)) (blkOk_by (own := [("word", 4)]) (N := N_rTake) (sc := defScope s_rTake) (by decide +kernel)) (fun _ _ _ _ _ => pg_name (i := 4) nd rfl (Or.inl rfl)) (fun _ _ _ _ _ => pts_nil)
          (fun _ _ _ _ _ => pe_m1 PySem.F.slot_str_startswith PySem.F.type_str_startswith mt_startswith (pv 4) (pv 2) (by rfl) (by rfl) (by rfl))) pa_nil) (by decide) (by decide) (by rfl))))
        (pss_one (s_raiseC (C := PC.of tb (cvOf mg) H [] E) (n := "BadBits") xb rfl rfl rfl tk (by rfl))) pss_nil)
      (pss_cons (ps_fld (pv 0) (pv 2) rfl) (pss_one (ps_ret pe_non))))) : PSs _ ((defBody s_rTake).drop 1) _), trivial⟩
    refine ⟨_, pss_cons (ps_if (PW.pt (pw_or (pt_not (pt_val (pe_callB call_isi (by rfl) zi (by decide +kernel) (pa_cons (pv 1) (pa_cons (pe_bltn (v := .ty "str") (by rfl) zs (by decide +kernel) rfl (by decide) (by decide)) pa_nil)) (by decide) (by decide) (by rfl)))) (pw_or1 (PW.pt (pw_and (pt_cmpR op_ne (pv 1) pe_str (nomark _)) (pw_and1 (pt_cmpR op_ne (pv 1) pe_str (nomark _))))))))
      (pss_one (s_raiseC (C := PC.of tb (cvOf mg) H [] E) (n := "BadBits") xb rfl rfl rfl tk (by rfl))) pss_nil) ht, ?_⟩
    refine ⟨_, rfl, .str s, .ty "str", .type "str", .type "str", true, rfl, .ty _, dp_ty (K := K) (H := H) (Dp.str s), kit_ty (by decide +kernel), ?_⟩
    refine ⟨_, rfl, iteF ?_⟩
    refine ⟨_, rfl, rfl, _, rfl, ?_⟩
    refine iteTc (by simpa using hb.1) ?_
    refine ⟨_, rfl, rfl, _, rfl, ?_⟩
    exact iteTc (by simpa using hb.2) (bad _ _ rfl (Gx.refl H) h)
  · obtain ⟨t, ht, qt⟩ := rest hb
    refine ⟨_, pss_cons (ps_if (PW.pt (pw_or (pt_not (pt_val (pe_callB call_isi (by rfl) zi (by decide +kernel) (pa_cons (pv 1) (pa_cons (pe_bltn (v := .ty "str") (by rfl) zs (by decide +kernel) rfl (by decide) (by decide)) pa_nil)) (by decide) (by decide) (by rfl)))) (pw_or1 (PW.pt (pw_and (pt_cmpR op_ne (pv 1) pe_str (nomark _)) (pw_and1 (pt_cmpR op_ne (pv 1) pe_str (nomark _))))))))
      (pss_one (s_raiseC (C := PC.of tb (cvOf mg) H [] E) (n := "BadBits") xb rfl rfl rfl tk (by rfl))) pss_nil) ht, ?_⟩
    refine ⟨_, rfl, .str s, .ty "str", .type "str", .type "str", true, rfl, .ty _, dp_ty (K := K) (H := H) (Dp.str s), kit_ty (by decide +kernel), ?_⟩
    refine ⟨_, rfl, iteF ?_⟩
    refine ⟨_, rfl, rfl, _, rfl, ?_⟩
    by_cases e0 : s = "0"
    · refine iteFc (by rw [e0]; simp) ?_
      exact iteF qt
    · have e1 : s = "1" := Classical.byContradiction fun z => hb ⟨e0, z⟩
      refine iteTc (by simpa using e0) ?_
      refine ⟨_, rfl, rfl, _, rfl, ?_⟩
      exact iteFc (by rw [e1]; simp) qt
theorem exm_gx {M : List Addr} {H H1 H' : Hp} (g : Gx tb H H1) (x : ExM tb M H1 H') (hM : ∀ m ∈ M, H m = none) : Gx tb H H' := by
  refine ⟨fun b o e n => x.st b o (fun hb => by rw [hM b hb] at e; cases e) (g.ex b o e n) n, fun b o e => ?_, fun p hp t => x.tab p hp (g.tab p hp t)⟩
  cases z : H1 b with
  | none => exact absurd z (g.tb b o e)
  | some u => exact x.tb b u z
theorem rep_none {H H' : Hp} {σ : L2.St} {n : Nat} {E : XK} (hT : LamX.Tabs tb H) (hl : σ.length = n) (x : Gx tb H H') : Rep K (PC.of tb (cvOf mg) H [] E) [] H' σ (List.replicate n none) := by
  refine ⟨(ExM.refl _ _).grow x, ⟨fun b hb => (List.not_mem_nil hb).elim, hT⟩, fun b hb => hb, fun b hb => (List.not_mem_nil hb).elim, by rw [hl, List.length_replicate], fun i s e => ?_, fun i j s t q _ e _ _ _ _ _ => ?_⟩
  · rw [List.getElem?_replicate] at e; split at e <;> cases e
  · rw [List.getElem?_replicate] at e; split at e <;> cases e
theorem readGo_snoc (ws : List Str) : ∀ (cs : List Nat) (c : Nat) (b : Str) (ss : List Int), readGo ws (cs ++ [c]) b ss = match readGo ws cs b ss with
    | some (b', ss') => readGo ws [c] b' ss'
    | none => none
  | [], c, b, ss => rfl
  | d :: r, c, b, ss => by
    show (match takeO ws b ⟨#[d]⟩ with
      | .got k => readGo ws (r ++ [c]) Str.empty (ss ++ [(k : Int)])
      | .more => readGo ws (r ++ [c]) (b ++ ⟨#[d]⟩) ss
      | .bad => none) = match (match takeO ws b ⟨#[d]⟩ with
      | .got k => readGo ws r Str.empty (ss ++ [(k : Int)])
      | .more => readGo ws r (b ++ ⟨#[d]⟩) ss
      | .bad => none) with
      | some (b', ss') => readGo ws [c] b' ss'
      | none => none
    cases takeO ws b ⟨#[d]⟩ with
    | got k => exact readGo_snoc ws r c _ _
    | more => exact readGo_snoc ws r c _ _
    | bad => rfl
theorem readGo_stop (ws : List Str) : ∀ (cs ds : List Nat) (b : Str) (ss : List Int), readGo ws cs b ss = none → readGo ws (cs ++ ds) b ss = none
  | [], _, _, _, h => by cases h
  | d :: r, ds, b, ss, h => by
    have h' : (match takeO ws b ⟨#[d]⟩ with
      | .got k => readGo ws r Str.empty (ss ++ [(k : Int)])
      | .more => readGo ws r (b ++ ⟨#[d]⟩) ss
      | .bad => none) = none := h
    show (match takeO ws b ⟨#[d]⟩ with
      | .got k => readGo ws (r ++ ds) Str.empty (ss ++ [(k : Int)])
      | .more => readGo ws (r ++ ds) (b ++ ⟨#[d]⟩) ss
      | .bad => none) = none
    cases e : takeO ws b ⟨#[d]⟩ with
    | got k => rw [e] at h'; exact readGo_stop ws r ds _ _ h'
    | more => rw [e] at h'; exact readGo_stop ws r ds _ _ h'
    | bad => rfl
theorem str_len1 (b : Str) (c : Nat) : (b ++ (⟨#[c]⟩ : Str)).length = b.length + 1 := by
  show (b.cps ++ #[c]).size = b.cps.size + 1
  simp
theorem readGo_len (ws : List Str) : ∀ (cs : List Nat) (b : Str) (ss : List Int) (b' : Str) (ss' : List Int), readGo ws cs b ss = some (b', ss') → b'.length ≤ b.length + cs.length ∧ ss'.length ≤ ss.length + cs.length
  | [], b, ss, b', ss', h => by cases h; exact ⟨Nat.le_refl _, Nat.le_refl _⟩
  | d :: r, b, ss, b', ss', h => by
    have h' : (match takeO ws b ⟨#[d]⟩ with
      | .got k => readGo ws r Str.empty (ss ++ [(k : Int)])
      | .more => readGo ws r (b ++ ⟨#[d]⟩) ss
      | .bad => none) = some (b', ss') := h
    cases e : takeO ws b ⟨#[d]⟩ with
    | got k =>
      rw [e] at h'
      have := readGo_len ws r _ _ _ _ h'
      rw [List.length_append, List.length_singleton, show Str.empty.length = 0 from rfl] at this
      rw [List.length_cons]
      omega
    | more =>
      rw [e] at h'
      have := readGo_len ws r _ _ _ _ h'
      rw [str_len1] at this
      rw [List.length_cons]
      omega
    | bad => rw [e] at h'; cases h'
/-- a new Reader -/
theorem make_rd {H : Hp} {O : List Addr} {a : Addr} {us : List V} {ds : List PyData} {Q : Hp → Prop} {E : XK} {y dx : Addr} (ny : H y = none) (ndx : H dx = none) (ne : dx ≠ y) (hT : LamX.Tabs tb H) (al : ∀ b ∈ O, H b ≠ none) (hs : SqL K H a us) (ha : DpAll K (hid O H) us ds)
    (h : match nw [.bw ds] with
      | .ok _ => (∃ ws, allStr ds = some ws) ∧ ∀ ws H' q1 q2, allStr ds = some ws → H q2 = none → RdAt C H' y q1 q2 ws Str.empty [] → Gx tb H H' → Q H'
      | .exc n => ∀ H', Gx tb H H' → E (cvOf mg n) none H'
      | .stuck => False) :
    spRInit K tb (cvOf mg) C nw [.ref y, .ref a] (upd (upd H dx (.own y)) y (.ins C dx [])) (fun v H2 => v = .non ∧ Q H2) E := by
  have g1 : Gx tb H (upd H dx (.own y)) := Gx.new ndx
  have ny' : upd H dx (.own y) y = none := by rw [upd_ne (Ne.symm ne)]; exact ny
  have g : Gx tb H (upd (upd H dx (.own y)) y (.ins C dx [])) := g1.trans (Gx.new ny')
  refine ⟨O, y, dx, a, us, ds, rfl, upd_same, fun p hp => g.tab p hp (hT p hp), fun b hb e => al b hb (fresh_back g e), ex_l g.ex hs, DpAll.mono (hid_mono g) ha, ?_⟩
  cases z : nw [.bw ds] with
  | stuck => rw [z] at h; exact h.elim
  | exc n => rw [z] at h; exact fun H' x => h H' (g.trans x)
  | ok r =>
    rw [z] at h
    obtain ⟨⟨ws, hw⟩, q⟩ := h
    refine ⟨ws, ha.strs hw, fun H' q1 q2 n1 n2 R x => ⟨rfl, q ws H' q1 q2 hw (fresh_back g n2) R (exm_gx g x fun m hm => by rw [List.mem_singleton.mp hm]; exact ny)⟩⟩
end
abbrev s_rAgain : Stmt := inClass (topS 15) 4
theorem sc_rAgain : FnScope ["self"] ["self"] (defScope s_rAgain) := ⟨rfl, rfl, rfl, by decide +kernel, rfl, by decide +kernel, by decide +kernel⟩
/-- what a thing does -/
def takeD (ws : List Str) (b : Str) : PyData → TakeO
  | .str s => takeO ws b s
  | _ => .bad
def txtOf : PyData → Str
  | .str s => s
  | _ => Str.empty
def spRAgain (C : Addr) : Sp := fun vs H Q _ => ∃ (p q1 q2 : Addr) (ws : List Str) (b : Str) (ss : List Int), vs = [.ref p] ∧ RdAt C H p q1 q2 ws b ss ∧ ∀ H' q, H q = none → RdAt C H' p q1 q ws Str.empty [] → (∀ x o, x ≠ p → H x = some o → H' x = some o) → (∀ x, H x ≠ none → H' x ≠ none) → Q .non H'
def spRTakeO (K : PySem.W.Frag) (cv : String → Value) : Sp := fun vs H Q E => ∃ (p : Addr) (v : V) (d : PyData), vs = [.ref p, v] ∧ Dp K H v d ∧ kitB (tyName d) "str" = some false ∧ E (cv "BadBits") none H
section
variable {C fI fT fH fD fA : Addr} {fd : FuncData} {k : Nat} {nw : FN}
theorem rdF_sg (q1 : Addr) (b : Str) (q2 q3 : Addr) : putF "signs" (.ref q3) (rdF q1 b q2) = rdF q1 b q3 := by
  show (if ("words" : Str) = "signs" then _ else _ :: (if ("bits" : Str) = "signs" then _ else _ :: (if ("signs" : Str) = "signs" then _ else _))) = _
  rw [if_neg ne_ws, if_neg ne_bs, if_pos rfl]
  rfl
theorem d_rAgain (T : RdTxt K mg C fI fT fH fD) (F : Fun K "again" "Reader.again" s_rAgain fA fd) : FnOk P w K mg base (L2.CX P w) 1 fA fd ["self"] (spRAgain C) := by
  refine F.okX sc_rAgain (fun vs H Q E h => by obtain ⟨p, q1, q2, ws, b, ss, rfl, _⟩ := h; rfl) (fun cdv A outer s H vs Q E hr h => ?_)
  obtain ⟨p, q1, q2, ws, b, ss, rfl, ⟨⟨dx, h1⟩, h2, h3, h4⟩, q⟩ := h
  refine ⟨_, pss_cons (ps_fld (pv 0) pe_str rfl) (pss_one (ps_fld (pv 0) (pe_lst pa_nil) rfl)), ?_⟩
  refine ⟨_, rfl, p, C, dx, _, rfl, h1, T.cl, T.nB, (by show 3 < 1000; decide), ?_⟩
  refine ⟨Nat.zero_le _, fun q3 n3 => ?_⟩
  have np3 : p ≠ q3 := fun z => by subst z; rw [upd_same] at n3; cases n3
  have n3' : H q3 = none := by rw [upd_ne np3.symm] at n3; exact n3
  have np1 : p ≠ q1 := ne_of h1 h2 (by intro z; cases z)
  have n13 : q1 ≠ q3 := ne_of_none h2 n3'
  refine ⟨_, rfl, p, C, dx, _, rfl, (by rw [upd_ne np3]; exact upd_same), T.cl, T.nS, (by rw [rdF_put]; show 3 < 1000; decide), ?_⟩
  refine q _ q3 n3' ⟨⟨dx, by rw [upd_same, rdF_put, rdF_sg, str0]⟩, by rw [upd_ne np1.symm, upd_ne n13, upd_ne np1.symm]; exact h2, by rw [upd_ne np3.symm, upd_same]; rfl, n13⟩ (fun x o hx e => by rw [upd_ne hx, upd_ne (ne_of_none e n3'), upd_ne hx]; exact e) (fun x hx => ?_)
  by_cases e1 : x = p
  · subst e1; rw [upd_same]; nofun
  · by_cases e2 : x = q3
    · subst e2; rw [upd_ne e1, upd_same]; nofun
    · rw [upd_ne e1, upd_ne e2, upd_ne e1]; exact hx
theorem d_rTakeO (zi : mg "isinstance" = none) (zs : mg "str" = none) (za : mg "any" = none) {A0 : Addr} (xb : XCls K mg "BadBits" A0) (T : RdTxt K mg C fI fT fH fD) (F : Fun K "take" "Reader.take" s_rTake fT fd) :
    FnOk P w K mg base (L2.CX P w) 1 fT fd ["self", "bit"] (spRTakeO K (cvOf mg)) := by
  refine F.okX sc_rTake (fun vs H Q E h => by obtain ⟨p, v, d, rfl, _⟩ := h; rfl) (fun cdv A outer s0 H vs Q E hr h => ?_)
  obtain ⟨p, v, d, rfl, hd, hk, h⟩ := h
  have tk : Takes (cxOf (L2.CX P w) P w K mg base N_rTake "Reader.take" (defScope s_rTake) fT cdv A outer s0 H E) (fun cls d _ H => E cls d H) := takes_of rfl rfl rfl rfl
  have nd := sc_rTake.nd
  obtain ⟨t, ht, _⟩ : ∃ t, PSs (cxOf (L2.CX P w) P w K mg base N_rTake "Reader.take" (defScope s_rTake) fT cdv A outer s0 H E) ((defBody s_rTake).drop 1) t ∧ True := ⟨_, (pss_cons (ps_set (i := 2) nd rfl (Or.inr rfl) (pe_op op_add_str (pe_fld (pv 0) rfl) (pv 1)))
      (pss_cons (ps_if (pt_cmpR op_in_seq (pv 2) (pe_fld (pv 0) rfl) (by rfl))
        (pss_cons (ps_set (i := 3) nd rfl (Or.inl rfl) (pe_bm PySem.F.plainAttrs_list PySem.F.slot_list_index PySem.F.type_list_index mt_index (pe_fld (pv 0) rfl) (pa_cons (pv 2) pa_nil)))
        (pss_cons (ps_expr (pe_bm PySem.F.plainAttrs_list PySem.F.slot_list_append PySem.F.type_list_append mt_append (pe_fld (pv 0) rfl) (pa_cons (pv 3) pa_nil)))
        (pss_cons (ps_fld (pv 0) pe_str rfl) (pss_one (ps_ret (pv 3)))))) pss_nil)
      (pss_cons (ps_if (pt_not (pt_val (pe_callB (cr_any rfl) (by rfl) za (by decide +kernel) (pa_cons (pe_lc (own := [("word", 4)]) (g := gName 4) (tt := tYes) rfl nd (pi_list (pe_fld (pv 0) rfl)) (blkOk_by (own := [("word", 4)]) (N := N_rTake) (sc := defScope s_rTake) (by decide +kernel)) (fun _ _ _ _ _ => pg_name (i := 4) nd rfl (Or.inl rfl)) (fun _ _ _ _ _ => pts_nil)
          (fun _ _ _ _ _ => pe_m1 PySem.F.slot_str_startswith PySem.F.type_str_startswith mt_startswith (pv 4) (pv 2) (by rfl) (by rfl) (by rfl))) pa_nil) (by decide) (by decide) (by rfl))))
        (pss_one (s_raiseC (C := PC.of [] (cvOf mg) H [] E) (n := "BadBits") xb rfl rfl rfl tk (by rfl))) pss_nil)
      (pss_cons (ps_fld (pv 0) (pv 2) rfl) (pss_one (ps_ret pe_non))))) : PSs _ ((defBody s_rTake).drop 1) _), trivial⟩
  refine ⟨_, pss_cons (ps_if (PW.pt (pw_or (pt_not (pt_val (pe_callB call_isi (by rfl) zi (by decide +kernel) (pa_cons (pv 1) (pa_cons (pe_bltn (v := .ty "str") (by rfl) zs (by decide +kernel) rfl (by decide) (by decide)) pa_nil)) (by decide) (by decide) (by rfl)))) (pw_or1 (PW.pt (pw_and (pt_cmpR op_ne (pv 1) pe_str (nomark _)) (pw_and1 (pt_cmpR op_ne (pv 1) pe_str (nomark _))))))))
      (pss_one (ps_raise rfl tk (pmk_own PySem.F.excBase_ValueError xb.x xb.g xb.k (raises_own xb.b xb.t) rfl))) pss_nil) ht, ?_⟩
  refine ⟨_, rfl, v, .ty "str", .type (tyName d), .type "str", false, rfl, .ty _, dp_ty hd, kit_ty hk, ?_⟩
  refine ⟨_, rfl, iteT ?_⟩
  refine iteT ?_
  have e : cvOf mg "BadBits" = .ref A0 := cv_of xb.g
  rw [e] at h
  exact h
end
/-- a Reader's class and methods as they stand -/
def RdOk (P : Program) (w : World) (K : PySem.W.Frag) (mg : Str → Option Value) (base : Heap) (tb : List (Addr × Str)) (k : Nat) (nw : FN) : Prop := ∃ (C fI fT fH fD fA : Addr) (fdI fdT fdH fdD fdA : FuncData), (RdTxt K mg C fI fT fH fD ∧ Meth K C "again" fA) ∧
  (FnOk P w K mg base (L2.CX P w) (k + 1) fI fdI ["self", "words"] (spRInit K tb (cvOf mg) C nw) ∧ Binds K fdI ["self", "words"] []) ∧
  (FnOk P w K mg base (L2.CX P w) 1 fT fdT ["self", "bit"] (spRTake K tb (cvOf mg) C) ∧ FnOk P w K mg base (L2.CX P w) 1 fT fdT ["self", "bit"] (spRTakeO K (cvOf mg)) ∧ Binds K fdT ["self", "bit"] []) ∧
  (FnOk P w K mg base (L2.CX P w) 1 fH fdH ["self"] (spRHeld C) ∧ Binds K fdH ["self"] []) ∧
  (FnOk P w K mg base (L2.CX P w) 1 fD fdD ["self"] (spRDone C) ∧ Binds K fdD ["self"] []) ∧
  (FnOk P w K mg base (L2.CX P w) 1 fA fdA ["self"] (spRAgain C) ∧ Binds K fdA ["self"] [])
/-- where they stand -/
structure HereR (K : PySem.W.Frag) : Prop where
  ex : ∃ (C fI fT fH fD fA : Addr) (fdI fdT fdH fdD fdA : FuncData), PySem.W.nsIn K mainGlobals "Reader" = some (some (.ref C)) ∧ Cls K C ∧ (NoAttr K C "words" ∧ NoAttr K C "bits" ∧ NoAttr K C "signs") ∧ (Mk K C fI ∧ Meth K C "take" fT ∧ Meth K C "held" fH ∧ Meth K C "done" fD ∧ Meth K C "again" fA) ∧
    Fun K "__init__" "Reader.__init__" s_rInit fI fdI ∧ Fun K "take" "Reader.take" s_rTake fT fdT ∧ Fun K "held" "Reader.held" s_rHeld fH fdH ∧ Fun K "done" "Reader.done" s_rDone fD fdD ∧ Fun K "again" "Reader.again" s_rAgain fA fdA
theorem HereR.ok {P : Program} {w : World} {K : PySem.W.Frag} {mg : Str → Option Value} {base h : Heap} {tb : List (Addr × Str)} {k : Nat} {nw : FN} (R : HereR K) (T : Tops K mg) (X : K.In h) (G : h.Ns mainGlobals mg) (D : Dfn P w K mg base tb (cvOf mg) k "need_words" 1 nw) : RdOk P w K mg base tb k nw := by
  obtain ⟨C, fI, fT, fH, fD, fA, fdI, fdT, fdH, fdD, fdA, aC, cl, ⟨n1, n2, n3⟩, ⟨m1, m2, m3, m4, m5⟩, F1, F2, F3, F4, F5⟩ := R.ex
  have t : RdTxt K mg C fI fT fH fD := ⟨cl, n1, n2, n3, PySem.W.mg_of X G aC, m1, m2, m3, m4⟩
  have b2 : Binds K fdT ["self", "bit"] [] := F2.binds (ps := ["self", "bit"]) fun _ _ _ _ _ _ us hl => match us, hl with | [_, _], _ => rfl
  exact ⟨C, fI, fT, fH, fD, fA, fdI, fdT, fdH, fdD, fdA, ⟨t, m5⟩, ⟨d_rInit T.z_list t F1 D, F1.binds (ps := ["self", "words"]) fun _ _ _ _ _ _ us hl => match us, hl with | [_, _], _ => rfl⟩,
    ⟨d_rTake T.z_isinstance T.z_str T.z_any T.x_BadBits t F2, d_rTakeO T.z_isinstance T.z_str T.z_any T.x_BadBits t F2, b2⟩,
    ⟨d_rHeld t F3, F3.binds (ps := ["self"]) fun _ _ _ _ _ _ us hl => match us, hl with | [_], _ => rfl⟩,
    ⟨d_rDone T.z_list t F4, F4.binds (ps := ["self"]) fun _ _ _ _ _ _ us hl => match us, hl with | [_], _ => rfl⟩,
    ⟨d_rAgain t F5, F5.binds (ps := ["self"]) fun _ _ _ _ _ _ us hl => match us, hl with | [_], _ => rfl⟩⟩
open PySem.W in
theorem hereR_of {K : Frag} {C f1 f2 f3 f4 f5 : Addr} {od1 an1 od2 an2 od3 an3 od4 an4 od5 an5 : Option Addr} {sl1 sl2 sl3 sl4 sl5 : Array (Option Value)} {oc1 kV1 dc1 pm1 cd1 ct1 oc2 kV2 dc2 pm2 cd2 ct2 oc3 kV3 dc3 pm3 cd3 ct3 oc4 kV4 dc4 pm4 cd4 ct4 oc5 kV5 dc5 pm5 cd5 ct5 : Value}
    (aC : nsIn K mainGlobals "Reader" = some (some (.ref C)))
    (a1 : findIn K (.ref C) "__init__" = some (some (.ref f1))) (i1 : isFn K (.ref f1) = true) (l1 : K.lookup f1 = some ⟨oc1, od1, .func (fnOf "__init__" "Reader.__init__" (defArgs s_rInit) (defBody s_rInit) (defScope s_rInit) .none kV1 dc1 pm1 an1 cd1 ct1), sl1⟩) (c1 : codeIn K cd1 "Reader.__init__" = true) (k1 : keepIn K (.ref f1) = true)
    (a2 : findIn K (.ref C) "take" = some (some (.ref f2))) (i2 : isFn K (.ref f2) = true) (l2 : K.lookup f2 = some ⟨oc2, od2, .func (fnOf "take" "Reader.take" (defArgs s_rTake) (defBody s_rTake) (defScope s_rTake) .none kV2 dc2 pm2 an2 cd2 ct2), sl2⟩) (c2 : codeIn K cd2 "Reader.take" = true) (k2 : keepIn K (.ref f2) = true)
    (a3 : findIn K (.ref C) "held" = some (some (.ref f3))) (i3 : isFn K (.ref f3) = true) (l3 : K.lookup f3 = some ⟨oc3, od3, .func (fnOf "held" "Reader.held" (defArgs s_rHeld) (defBody s_rHeld) (defScope s_rHeld) .none kV3 dc3 pm3 an3 cd3 ct3), sl3⟩) (c3 : codeIn K cd3 "Reader.held" = true) (k3 : keepIn K (.ref f3) = true)
    (a4 : findIn K (.ref C) "done" = some (some (.ref f4))) (i4 : isFn K (.ref f4) = true) (l4 : K.lookup f4 = some ⟨oc4, od4, .func (fnOf "done" "Reader.done" (defArgs s_rDone) (defBody s_rDone) (defScope s_rDone) .none kV4 dc4 pm4 an4 cd4 ct4), sl4⟩) (c4 : codeIn K cd4 "Reader.done" = true) (k4 : keepIn K (.ref f4) = true)
    (a5 : findIn K (.ref C) "again" = some (some (.ref f5))) (i5 : isFn K (.ref f5) = true) (l5 : K.lookup f5 = some ⟨oc5, od5, .func (fnOf "again" "Reader.again" (defArgs s_rAgain) (defBody s_rAgain) (defScope s_rAgain) .none kV5 dc5 pm5 an5 cd5 ct5), sl5⟩) (c5 : codeIn K cd5 "Reader.again" = true) (k5 : keepIn K (.ref f5) = true)
    (pg : plainGet K C Str.empty = true) (hd : hasDictIn K C = true) (po : plainOver K C = true) (sa : findIn K (.ref C) "__setattr__" = some (some (.builtin "object.__setattr__"))) (mk : makesIn K C = true) (kc : keepIn K (.ref C) = true)
    (nW : findIn K (.ref C) "words" = some none) (nB : findIn K (.ref C) "bits" = some none) (nS : findIn K (.ref C) "signs" = some none) : HereR K :=
  ⟨C, f1, f2, f3, f4, f5, _, _, _, _, _, aC, ⟨pg, hd, po, sa⟩, ⟨nW, nB, nS⟩, ⟨⟨mk, a1, i1, kc⟩, ⟨a2, i2, k2⟩, ⟨a3, i3, k3⟩, ⟨a4, i4, k4⟩, ⟨a5, i5, k5⟩⟩, fun_mk l1 c1 k1, fun_mk l2 c2 k2, fun_mk l3 c3 k3, fun_mk l4 c4 k4, fun_mk l5 c5 k5⟩
/-- the suite of a def whose body is a try -/
def defSuite (st : Stmt) : List Stmt := match defBody st with
  | [.Try _ [.ExceptHandler _ _ su _] _ _ _] => su
  | _ => []

abbrev s__law_cell : Stmt := topS 17
abbrev N__law_cell : List Str := ["_law_script", "_law_k", "_law_number"]
theorem sc__law_cell : FnScope N__law_cell ["_law_script", "_law_k"] (defScope s__law_cell) := ⟨rfl, rfl, rfl, by decide +kernel, rfl, by decide +kernel, by decide +kernel⟩
theorem d__law_cell (T : Tops K mg) {f : Addr} {fd : FuncData} (F : Fun K "_law_cell" "_law_cell" s__law_cell f fd) (hmg : mg "_law_cell" = some (.ref f)) : Dfn P w K mg base tb (cvOf mg) 1 "_law_cell" 2 M_law_cell := by
  refine (mk_def (N := N__law_cell) (ps := ["_law_script", "_law_k"]) (g := g_law_cell) F sc__law_cell hmg (F.binds fun _ _ _ _ _ _ us hl => match us, hl with | [_, _], _ => rfl) (fun cdv A outer s H O E hr hx tk hp => ?_)).imp ok_law_cell
  exact (ss_cons (s_if (t_cmp d_lt (v_var 1) (v_len (by rfl) T.z_len (r_var 0))) (ss_one (s_ret (v_ix (l_var 0) (v_var 1)))) ss_nil)
      (ss_cons (s_set (i := 2) sc__law_cell.nd rfl (.inl rfl) (v_op d_add (v_op d_mul (v_var 1) v_int) v_int))
      (ss_cons (s_if (t_cmp d_gt (v_len (by rfl) T.z_len (r_var 0)) v_int) (ss_one (s_set (i := 2) sc__law_cell.nd rfl (.inl rfl) (v_op d_mod (v_op d_add (v_op d_mul (v_ix (l_var 0) (v_op d_mod (v_op d_mul (v_var 1) v_int) (v_len (by rfl) T.z_len (r_var 0)))) v_int) (v_op d_mul (v_var 1) v_int)) v_int))) ss_nil)
      (ss_one (s_ret (v_op d_mod (v_op d_mul (v_var 2) (v_var 2)) v_int))))))
abbrev s__law_word_of : Stmt := topS 18
abbrev N__law_word_of : List Str := ["_law_error", "_law_found"]
theorem sc__law_word_of : FnScope N__law_word_of ["_law_error"] (defScope s__law_word_of) := ⟨rfl, rfl, rfl, by decide +kernel, rfl, by decide +kernel, by decide +kernel⟩
theorem d__law_word_of (T : Tops K mg) {f : Addr} {fd : FuncData} (F : Fun K "_law_word_of" "_law_word_of" s__law_word_of f fd) (hmg : mg "_law_word_of" = some (.ref f)) : DfnE P w K mg base tb 1 "_law_word_of" M_law_word_of := by
  refine (mk_defE (cv := cvOf mg) (N := N__law_word_of) (y := "_law_error") (g := g_law_word_of) F sc__law_word_of hmg (F.binds fun _ _ _ _ _ _ us hl => match us, hl with | [_], _ => rfl) (fun p cdv A outer s H O hr hE => ?_)).imp ok_law_word_of
  exact (ss_cons (s_setL (i := 1) (fun _ h => nomatch h) sc__law_word_of.nd rfl (.inl rfl) (f_lst a_nil))
      (ss_cons (s_if (t_val (v_isEx 0 T.h8 T.t_NoWeights hE (by rfl) (by rfl) T.z_isinstance)) (ss_one (s_app 1 v_str)) ss_nil)
      (ss_cons (s_if (t_val (v_isEx 0 T.h8 T.t_BadWeight hE (by rfl) (by rfl) T.z_isinstance)) (ss_one (s_app 1 v_str)) ss_nil)
      (ss_cons (s_if (t_val (v_isEx 0 T.h8 T.t_BadBound hE (by rfl) (by rfl) T.z_isinstance)) (ss_one (s_app 1 v_str)) ss_nil)
      (ss_cons (s_if (t_val (v_isEx 0 T.h8 T.t_NoRoom hE (by rfl) (by rfl) T.z_isinstance)) (ss_one (s_app 1 v_str)) ss_nil)
      (ss_cons (s_if (t_val (v_isEx 0 T.h8 T.t_BadLengths hE (by rfl) (by rfl) T.z_isinstance)) (ss_one (s_app 1 v_str)) ss_nil)
      (ss_cons (s_if (t_val (v_isEx 0 T.h8 T.t_BadWords hE (by rfl) (by rfl) T.z_isinstance)) (ss_one (s_app 1 v_str)) ss_nil)
      (ss_cons (s_if (t_val (v_isEx 0 T.h8 T.t_BadBits hE (by rfl) (by rfl) T.z_isinstance)) (ss_one (s_app 1 v_str)) ss_nil)
      (ss_cons (s_if (t_val (v_isEx 0 T.h8 T.t_NoSign hE (by rfl) (by rfl) T.z_isinstance)) (ss_one (s_app 1 v_str)) ss_nil)
      (ss_cons (s_if (PW.pt (w_or (t_cmpR (d_ne hr.units) (r_V (v_len (by rfl) T.z_len (r_var 1))) (r_V v_int)) (w_or1 (t_not (t_val (v_isExV 0 T.h8 hE (by rfl) T.z_ValueError (by rfl) T.z_isinstance)))))) (ss_one (s_frz (i := 1) rfl (s_ret (v_tup (a_cons v_str (a_cons (v_var 1) a_nil)))))) ss_nil)
      (ss_one (s_ret (v_tup (a_cons v_str (a_cons (v_ix (l_var 1) v_int) a_nil)))))))))))))))
abbrev s__law_words : Stmt := topS 19
abbrev N__law_words : List Str := ["_law_script", "_law_first", "_law_many", "_law_words_here", "_law_k", "_law_found", "_law_shallow", "_law_word", "_law_at"]
theorem sc__law_words : FnScope N__law_words ["_law_script", "_law_first"] (defScope s__law_words) := ⟨rfl, rfl, rfl, by decide +kernel, rfl, by decide +kernel, by decide +kernel⟩
theorem d__law_words (T : Tops K mg) {f : Addr} {fd : FuncData} (F : Fun K "_law_words" "_law_words" s__law_words f fd) (hmg : mg "_law_words" = some (.ref f)) (D__law_cell : Dfn P w K mg base tb (cvOf mg) 1 "_law_cell" 2 M_law_cell) : Dfn P w K mg base tb (cvOf mg) 2 "_law_words" 2 M_law_words := by
  refine (mk_def (N := N__law_words) (ps := ["_law_script", "_law_first"]) (g := g_law_words) F sc__law_words hmg (F.binds fun _ _ _ _ _ _ us hl => match us, hl with | [_, _], _ => rfl) (fun cdv A outer s H O E hr hx tk hp => ?_)).imp ok_law_words
  exact (ss_cons (s_set (i := 2) sc__law_words.nd rfl (.inl rfl) (v_op d_mod (v_X (x_call D__law_cell (hr.mono (by decide)) hx (by rfl) (ar_L (l_var 0) (ar_V (v_var 1) ar_nil)) (rL_len (rV_len rNil_len)))) v_int))
      (ss_cons (s_if (t_cmpR (d_eq hr.units) (r_V (v_op d_mod (v_op d_fdiv (v_X (x_call D__law_cell (hr.mono (by decide)) hx (by rfl) (ar_L (l_var 0) (ar_V (v_var 1) ar_nil)) (rL_len (rV_len rNil_len)))) v_int) v_int)) (r_V v_int)) (ss_one (s_set (i := 2) sc__law_words.nd rfl (.inl rfl) (v_op d_mod (v_op d_fdiv (v_X (x_call D__law_cell (hr.mono (by decide)) hx (by rfl) (ar_L (l_var 0) (ar_V (v_var 1) ar_nil)) (rL_len (rV_len rNil_len)))) v_int) v_int))) ss_nil)
      (ss_cons (s_if (t_cmpR (d_eq hr.units) (r_var 2) (r_V v_int)) (ss_one (s_retL (fun _ h => nomatch h) (f_lst a_nil))) ss_nil)
      (ss_cons (s_setL (i := 3) (fun _ h => nomatch h) sc__law_words.nd rfl (.inl rfl) (f_lst (a_cons v_str a_nil)))
      (ss_cons (s_for (ws := [4, 6, 7, 8]) hp rfl (w_range1 (by rfl) T.z_range (v_op d_add (v_op d_sub (v_var 2) v_int) (v_op d_mod (v_X (x_call D__law_cell (hr.mono (by decide)) hx (by rfl) (ar_L (l_var 0) (ar_V (v_op d_add (v_var 1) v_int) ar_nil)) (rL_len (rV_len rNil_len)))) v_int))) (tg_name 4) (pg_name (i := 4) sc__law_words.nd rfl (Or.inl rfl)) (ss_cons (s_setLc (i := 6) (own := [("_law_word", 7)]) (fun _ h => nomatch h) rfl sc__law_words.nd rfl rfl (sw_true rfl rfl rfl (by decide +kernel)) (wE_L (l_var 3)) (tg_name 7) (blkOk_by (own := [("_law_word", 7)]) (N := N__law_words) (sc := defScope s__law_words) (by decide +kernel)) (by decide) (fun _ _ _ _ _ => (pg_name (i := 7) sc__law_words.nd rfl (Or.inl rfl))) (fun _ _ _ _ _ => (ts_one (t_cmp d_lt (v_len (by rfl) T.z_len (r_var 7)) v_int))) (fun _ _ _ _ _ => (v_var 7)))
      (ss_cons (s_set (i := 7) sc__law_words.nd rfl (.inl rfl) (v_ix (l_var 6) (v_op d_mod (v_X (x_call D__law_cell (hr.mono (by decide)) hx (by rfl) (ar_L (l_var 0) (ar_V (v_op d_add (v_op d_add (v_var 1) v_int) (v_var 4)) ar_nil)) (rL_len (rV_len rNil_len)))) (v_len (by rfl) T.z_len (r_var 6)))))
      (ss_cons (s_set (i := 8) sc__law_words.nd rfl (.inl rfl) (v_index (l_var 3) (v_var 7)))
      (ss_one (s_setL (i := 3) (fun _ h => nomatch h) sc__law_words.nd rfl (.inl rfl) (f_cat (o_F (f_cat (o_F (f_sl (l_var 3) p_none (p_some (v_var 8)))) (o_F (f_lst (a_cons (v_op d_catS (v_var 7) v_str) (a_cons (v_op d_catS (v_var 7) v_str) a_nil)))))) (o_F (f_sl (l_var 3) (p_some (v_op d_add (v_var 8) v_int)) p_none)))))))))
      (ss_cons (s_if (t_cmpR (d_eq hr.units) (r_var 3) (r_V (v_F (f_lst (a_cons v_str a_nil))))) (ss_one (s_setL (i := 3) (fun _ h => nomatch h) sc__law_words.nd rfl (.inl rfl) (f_lst (a_cons v_str (a_cons v_str a_nil))))) ss_nil)
      (ss_cons (s_setL (i := 5) (fun _ h => nomatch h) sc__law_words.nd rfl (.inl rfl) (f_lst a_nil))
      (ss_cons (s_for (ws := [4]) hp rfl (w_range1 (by rfl) T.z_range (v_min2 rfl (by rfl) T.z_min (v_var 2) (v_len (by rfl) T.z_len (r_var 3)))) (tg_name 4) (pg_name (i := 4) sc__law_words.nd rfl (Or.inl rfl)) (ss_one (s_appPop 5 3 (v_op d_mod (v_X (x_call D__law_cell (hr.mono (by decide)) hx (by rfl) (ar_L (l_var 0) (ar_V (v_op d_add (v_op d_add (v_var 1) v_int) (v_var 4)) ar_nil)) (rL_len (rV_len rNil_len)))) (v_len (by rfl) T.z_len (r_var 3))))))
      (ss_one (s_retO 5 rfl))))))))))
abbrev s__law_due : Stmt := topS 20
abbrev N__law_due : List Str := ["_law_words_here", "_law_bits", "_law_bit_here", "_law_more", "_law_word"]
theorem sc__law_due : FnScope N__law_due ["_law_words_here", "_law_bits", "_law_bit_here"] (defScope s__law_due) := ⟨rfl, rfl, rfl, by decide +kernel, rfl, by decide +kernel, by decide +kernel⟩
theorem d__law_due (T : Tops K mg) {f : Addr} {fd : FuncData} (F : Fun K "_law_due" "_law_due" s__law_due f fd) (hmg : mg "_law_due" = some (.ref f)) : Dfn P w K mg base tb (cvOf mg) 1 "_law_due" 3 M_law_due_4 := by
  refine (mk_def (N := N__law_due) (ps := ["_law_words_here", "_law_bits", "_law_bit_here"]) (g := g_law_due_4) F sc__law_due hmg (F.binds fun _ _ _ _ _ _ us hl => match us, hl with | [_, _, _], _ => rfl) (fun cdv A outer s H O E hr hx tk hp => ?_)).imp ok_law_due_4
  exact (ss_cons (s_if (PW.pt (w_or (t_not (t_val (v_isI (T := "str") (by rfl) T.z_isinstance (by rfl) T.z_str (by decide +kernel) (r_var 2)))) (w_or1 (t_inLN (v_var 2) (l_F (f_lst (a_cons v_str (a_cons v_str a_nil)))))))) (ss_one (s_ret (v_tup (a_cons (v_tup (a_cons v_str (a_cons v_str a_nil))) (a_cons (v_var 1) a_nil))))) ss_nil)
      (ss_cons (s_set (i := 3) sc__law_due.nd rfl (.inr rfl) (v_op d_catS (v_var 1) (v_var 2)))
      (ss_cons (s_if (t_inL (v_var 3) (l_var 0)) (ss_one (s_ret (v_tup (a_cons (v_index (l_var 0) (v_var 3)) (a_cons v_str a_nil))))) ss_nil)
      (ss_cons (s_if (t_cmpR (d_eq hr.units) (r_V (v_F (f_lc (own := [("_law_word", 4)]) rfl sc__law_due.nd (wE_L (l_var 0)) (tg_name 4) (blkOk_by (own := [("_law_word", 4)]) (N := N__law_due) (sc := defScope s__law_due) (by decide +kernel)) (by decide) (fun _ _ _ _ _ => (pg_name (i := 4) sc__law_due.nd rfl (Or.inl rfl))) (fun _ _ _ _ _ => (ts_one (t_cmpR (d_eq hr.units) (r_V (v_slS (v_var 4) p_none (p_some (v_len (by rfl) T.z_len (r_var 3))))) (r_var 3)))) (fun _ _ _ _ _ => (v_var 4))))) (r_V (v_F (f_lst a_nil)))) (ss_one (s_ret (v_tup (a_cons (v_tup (a_cons v_str (a_cons v_str a_nil))) (a_cons (v_var 1) a_nil))))) ss_nil)
      (ss_one (s_ret (v_tup (a_cons v_non (a_cons (v_var 3) a_nil)))))))))
abbrev s__law_told : Stmt := topS 21
abbrev N__law_told : List Str := ["_law_reader", "_law_bit_here", "_law_error"]
theorem sc__law_told : FnScope N__law_told ["_law_reader", "_law_bit_here"] (defScope s__law_told) := ⟨rfl, rfl, rfl, by decide +kernel, rfl, by decide +kernel, by decide +kernel⟩
/-- _law_told -/
def spTold (K : PySem.W.Frag) (C : Addr) : Sp := fun vs H Q E => ∃ (O : List Addr) (p q1 q2 : Addr) (ws : List Str) (b : Str) (ss : List Int) (v : V) (d : PyData), vs = [.ref p, v] ∧ RdAt C H p q1 q2 ws b ss ∧ (∀ x ∈ O, H x ≠ none) ∧ Dp K H v d ∧ noDict d = true ∧ (∀ s, d = .str s → s.length ≤ 1000) ∧ ws.length ≤ 1000 ∧ b.length ≤ 100000 ∧ ss.length < 1000000 ∧ match takeD ws b d with
  | .got k => ∀ H', RdAt C H' p q1 q2 ws Str.empty (ss ++ [(k : Int)]) → ExM [] [p, q2] H H' → Q (.int (k : Int)) H'
  | .more => ∀ H', RdAt C H' p q1 q2 ws (b ++ txtOf d) ss → ExM [] [p, q2] H H' → Q .non H'
  | .bad => ∀ v' H', Gx [] H H' → Dp K (hid O H') v' (refD "BadBits") → Q v' H'
section
variable {C : Addr} {k : Nat} {nw : FN}
theorem d__law_told (T : Tops K mg) {f : Addr} {fd : FuncData} (F : Fun K "_law_told" "_law_told" s__law_told f fd) {fI fT fH fD : Addr} {fdT : FuncData} (t : RdTxt K mg C fI fT fH fD) (FT : FnOk P w K mg base (L2.CX P w) 1 fT fdT ["self", "bit"] (spRTake K [] (cvOf mg) C)) (FO : FnOk P w K mg base (L2.CX P w) 1 fT fdT ["self", "bit"] (spRTakeO K (cvOf mg))) (bT : Binds K fdT ["self", "bit"] [])
    (D_word : DfnE P w K mg base [] 1 "_law_word_of" M_law_word_of) : FnOk P w K mg base (L2.CX P w) 3 f fd ["_law_reader", "_law_bit_here"] (spTold K C) := by
  refine F.okX sc__law_told (fun vs H Q E h => by obtain ⟨O, p, q1, q2, ws, b, ss, v, d, rfl, _⟩ := h; rfl) (fun cdv A outer s0 H vs Q E hr h => ?_)
  obtain ⟨O, p, q1, q2, ws, b, ss, v, d, rfl, R, al, hd, hnd, hsl, hlw, hlb, hls, h⟩ := h
  obtain ⟨⟨dx, h1⟩, h2, h3, h4⟩ := id R
  have tk : Takes (cxOf (L2.CX P w) P w K mg base N__law_told "_law_told" (defScope s__law_told) f cdv A outer s0 H E) (fun cls d _ H => E cls d H) := takes_of rfl rfl rfl rfl
  have nd := sc__law_told.nd
  obtain ⟨G, hG, hct⟩ := T.c_all.is
  obtain ⟨Dd, hDd, hx⟩ := hct "BadBits" (by decide)
  have hcm : cvOf mg "BadBits" = .ref Dd := cv_of hDd
  -- what the suite is given
  have sui : ∀ (a : Addr) (H' : Hp) (σ : L2.St) (D : Ends), σ.length = 3 → Gx [] H H' → (∀ v' H'', Gx [] H H'' → Dp K (hid O H'') v' (refD "BadBits") → D.rt v' H'') → tS K ((PC.of [] (cvOf mg) H O E).sui mg a Dd) (sRetX (xCallE M_law_word_of 2)) D (σ.set 2 (some (.ref a))) H' := fun a H' σ D hl x hD => by
    have R0 : Rep K (PC.of [] (cvOf mg) H O E) O H' σ (List.replicate 3 none) := by
      refine ⟨(ExM.refl _ _).grow x, ⟨fun b hb => al b hb, fun p hp => (List.not_mem_nil hp).elim⟩, fun b hb => hb, fun b hb e => al b hb (fresh_back x e), by rw [hl, List.length_replicate], fun i s e => ?_, fun i j s t q _ e _ _ _ _ _ => ?_⟩
      · rw [List.getElem?_replicate] at e; split at e <;> cases e
      · rw [List.getElem?_replicate] at e; split at e <;> cases e
    refine ⟨O, _, R0.setE (i := 2) (a := a) (m := "BadBits") (fun a n z => z) hDd, ?_⟩
    have e : sRetX (xCallE M_law_word_of 2) ((List.replicate 3 none).set 2 (some (.er "BadBits"))) = .rt (.val (refD "BadBits")) ((List.replicate 3 none).set 2 (some (.er "BadBits"))) := by
      rw [sRetX_ap]
      show wOut (match M_law_word_of [.er "BadBits"] with
        | .ok r => Out.ok r
        | _ => .stuck) _ _ = _
      have : M_law_word_of [.er "BadBits"] = .ok (.val (refD "BadBits")) := by
        unfold M_law_word_of
        dsimp only
        rw [if_pos (by decide)]
        rfl
      rw [this]
      rfl
    rw [e]
    exact fun v' σ' O' H'' R' _ rv => hD v' H'' (show ExM _ [] H H'' from R'.ex).gx (Dp.mono (hid_sub R'.sub) rv)
  have suite : ∀ (a : Addr) (oe : Obj) (cls : Value) (d : Option Addr) (pn : List (Addr × Obj)), Zc cls d oe → (∃ vs, oe.data = .fields vs) → PSs ((cxOf (L2.CX P w) P w K mg base N__law_told "_law_told" (defScope s__law_told) f cdv A outer s0 H E).suite a ((a, oe) :: pn)) (defSuite s__law_told) (fun D σ H' => ∃ Dd, cls = .ref Dd ∧ d = none ∧ tS K ((PC.of [] (cvOf mg) H O E).sui mg a Dd) (sRetX (xCallE M_law_word_of 2)) D σ H') := fun a oe cls d pn hz hfd => ⟨fun pins s1 σ H1 D I ⟨Dd, e1, e2, h⟩ => by
    subst e1 e2
    have hE : ∀ a' m, ((PC.of [] (cvOf mg) H O E).sui mg a Dd).EX a' m → ExP ((cxOf (L2.CX P w) P w K mg base N__law_told "_law_told" (defScope s__law_told) f cdv A outer s0 H E).suite a ((a, oe) :: pn)) a' m := fun a' m ⟨h1, h2⟩ => ⟨oe, Dd, by rw [h1]; exact List.mem_cons_self, h2, hz, hfd⟩
    exact (ss_one (s_retX (fun _ h => (List.not_mem_nil h).elim) (x_callE 2 D_word (roomH_mark hr (by decide)) hE (by rfl)))).run pins s1 σ H1 D I h⟩
  have exm : PySem.W.exmOne K (cvOf mg "BadBits") (.ref G) = some true := by rw [hcm]; exact hx
  by_cases hs : ∃ s, d = .str s
  · obtain ⟨s, rfl⟩ := hs
    have ev : v = .str s := dp_str hd
    subst ev
    refine ⟨_, pss_one (ps_try_as (i := 2) (c := .ref G) (ts := fun a cls d D σ H' => ∃ Dd, cls = .ref Dd ∧ d = none ∧ tS K ((PC.of [] (cvOf mg) H O E).sui mg a Dd) (sRetX (xCallE M_law_word_of 2)) D σ H') (Wout := fun cls d _ H => E cls d H) rfl rfl nd rfl (by rfl) ⟨by rfl, by decide, .inl hG⟩ tk
      (fun W pn xe tk' hp' => pss_one (ps_ret (pe_methS (pv 0) t.cl t.mT FT (hr.mono (by decide)) bT (fun σ => passAt tk' σ) (pa_cons (pv 1) pa_nil)))) suite), ?_⟩
    refine ⟨_, rfl, p, dx, _, rfl, h1, rdF_no _ _ _ (by decide +kernel) (by decide +kernel) (by decide +kernel), _, rfl, p, q1, q2, ws, b, s, ss, rfl, R, (fun p hp => (List.not_mem_nil hp).elim), hlw, (by have := hsl s rfl; omega), hls, ?_⟩
    have h' : (match takeO ws b s with
      | .got k => ∀ H', RdAt C H' p q1 q2 ws Str.empty (ss ++ [(k : Int)]) → ExM [] [p, q2] H H' → Q (.int (k : Int)) H'
      | .more => ∀ H', RdAt C H' p q1 q2 ws (b ++ s) ss → ExM [] [p, q2] H H' → Q .non H'
      | .bad => ∀ v' H', Gx [] H H' → Dp K (hid O H') v' (refD "BadBits") → Q v' H') := h
    cases et : takeO ws b s with
    | got k => rw [et] at h'; exact h'
    | more => rw [et] at h'; exact h'
    | bad =>
      rw [et] at h'
      exact fun H' x => ⟨true, exm, fun _ a ha => ⟨Dd, hcm, rfl, sui a H' _ _ rfl x fun v' H'' x' r => h' v' H'' x' r⟩, fun z => nomatch z⟩
  · have hk : kitB (tyName d) "str" = some false := by
      rw [kit_str d hnd]
      cases d with
      | str s => exact absurd ⟨s, rfl⟩ hs
      | _ => rfl
    have h' : ∀ v' H', Gx [] H H' → Dp K (hid O H') v' (refD "BadBits") → Q v' H' := by
      have e : takeD ws b d = .bad := by
        cases d with
        | str s => exact absurd ⟨s, rfl⟩ hs
        | _ => rfl
      rw [e] at h
      exact h
    refine ⟨_, pss_one (ps_try_as (i := 2) (c := .ref G) (ts := fun a cls d D σ H' => ∃ Dd, cls = .ref Dd ∧ d = none ∧ tS K ((PC.of [] (cvOf mg) H O E).sui mg a Dd) (sRetX (xCallE M_law_word_of 2)) D σ H') (Wout := fun cls d _ H => E cls d H) rfl rfl nd rfl (by rfl) ⟨by rfl, by decide, .inl hG⟩ tk
      (fun W pn xe tk' hp' => pss_one (ps_ret (pe_methS (pv 0) t.cl t.mT FO (hr.mono (by decide)) bT (fun σ => passAt tk' σ) (pa_cons (pv 1) pa_nil)))) suite), ?_⟩
    refine ⟨_, rfl, p, dx, _, rfl, h1, rdF_no _ _ _ (by decide +kernel) (by decide +kernel) (by decide +kernel), _, rfl, p, v, d, rfl, hd, hk, ?_⟩
    exact ⟨true, exm, fun _ a ha => ⟨Dd, hcm, rfl, sui a H _ _ rfl (Gx.refl H) fun v' H'' x' r => h' v' H'' x' r⟩, fun z => nomatch z⟩
end

abbrev s__law_alike : Stmt := topS 22
abbrev N__law_alike : List Str := ["_law_found", "_law_due_here"]
theorem sc__law_alike : FnScope N__law_alike ["_law_found", "_law_due_here"] (defScope s__law_alike) := ⟨rfl, rfl, rfl, by decide +kernel, rfl, by decide +kernel, by decide +kernel⟩
theorem d__law_alike (T : Tops K mg) {f : Addr} {fd : FuncData} (F : Fun K "_law_alike" "_law_alike" s__law_alike f fd) (hmg : mg "_law_alike" = some (.ref f)) : Dfn P w K mg base tb (cvOf mg) 1 "_law_alike" 2 M_law_alike := by
  refine (mk_def (N := N__law_alike) (ps := ["_law_found", "_law_due_here"]) (g := g_law_alike) F sc__law_alike hmg (F.binds fun _ _ _ _ _ _ us hl => match us, hl with | [_, _], _ => rfl) (fun cdv A outer s H O E hr hx tk hp => ?_)).imp ok_law_alike
  exact (ss_cons (s_if (t_isN (r_var 1)) (ss_one (s_ret (v_isN (r_var 0)))) ss_nil)
      (ss_cons (s_if (t_val (v_isI (T := "tuple") (by rfl) T.z_isinstance (by rfl) T.z_tuple (by decide +kernel) (r_var 1))) (ss_one (s_ret (v_BV (v_and (bv_V (v_isI (T := "tuple") (by rfl) T.z_isinstance (by rfl) T.z_tuple (by decide +kernel) (r_var 0))) (v_one (bv_V (v_cmpR (d_eq hr.units) (r_var 0) (r_var 1)))))))) ss_nil)
      (ss_one (s_ret (v_BV (v_and (bv_V (v_isI (T := "int") (by rfl) T.z_isinstance (by rfl) T.z_int (by decide +kernel) (r_var 0))) (v_and (v_not (bv_V (v_isI (T := "bool") (by rfl) T.z_isinstance (by rfl) T.z_bool (by decide +kernel) (r_var 0)))) (v_one (bv_V (v_cmpR (d_eq hr.units) (r_var 0) (r_var 1)))))))))))
abbrev s__law_bit : Stmt := topS 23
abbrev N__law_bit : List Str := ["_law_words_here", "_law_bits", "_law_cell_here", "_law_on", "_law_word"]
theorem sc__law_bit : FnScope N__law_bit ["_law_words_here", "_law_bits", "_law_cell_here"] (defScope s__law_bit) := ⟨rfl, rfl, rfl, by decide +kernel, rfl, by decide +kernel, by decide +kernel⟩
theorem d__law_bit (T : Tops K mg) {f : Addr} {fd : FuncData} (F : Fun K "_law_bit" "_law_bit" s__law_bit f fd) (hmg : mg "_law_bit" = some (.ref f)) : Dfn P w K mg base tb (cvOf mg) 1 "_law_bit" 3 M_law_bit := by
  refine (mk_def (N := N__law_bit) (ps := ["_law_words_here", "_law_bits", "_law_cell_here"]) (g := g_law_bit) F sc__law_bit hmg (F.binds fun _ _ _ _ _ _ us hl => match us, hl with | [_, _, _], _ => rfl) (fun cdv A outer s H O E hr hx tk hp => ?_)).imp ok_law_bit
  exact (ss_cons (s_if (t_cmpR (d_eq hr.units) (r_V (v_op d_mod (v_var 2) v_int)) (r_V v_int)) (ss_one (s_ret (v_ix (l_F (f_lst (a_cons v_str (a_cons v_str (a_cons v_str (a_cons v_int (a_cons v_int (a_cons v_non (a_cons v_bl (a_cons (v_F (f_lst (a_cons v_str a_nil))) (a_cons v_str a_nil))))))))))) (v_op d_mod (v_op d_fdiv (v_var 2) v_int) v_int)))) ss_nil)
      (ss_cons (s_if (t_cmp d_lt (v_op d_mod (v_var 2) v_int) v_int) (ss_cons (s_setLc (i := 3) (own := [("_law_word", 4)]) (fun _ h => nomatch h) rfl sc__law_bit.nd rfl rfl (sw_true rfl rfl rfl (by decide +kernel)) (wE_L (l_var 0)) (tg_name 4) (blkOk_by (own := [("_law_word", 4)]) (N := N__law_bit) (sc := defScope s__law_bit) (by decide +kernel)) (by decide) (fun _ _ _ _ _ => (pg_name (i := 4) sc__law_bit.nd rfl (Or.inl rfl))) (fun _ _ _ _ _ => (ts_one (PW.pt (w_and (t_cmpR (d_eq hr.units) (r_V (v_slS (v_var 4) p_none (p_some (v_len (by rfl) T.z_len (r_var 1))))) (r_var 1)) (w_and1 (t_cmp d_gt (v_len (by rfl) T.z_len (r_var 4)) (v_len (by rfl) T.z_len (r_var 1)))))))) (fun _ _ _ _ _ => (v_var 4)))
      (ss_one (s_if (t_cmpR (d_ne hr.units) (r_var 3) (r_V (v_F (f_lst a_nil)))) (ss_cons (s_set (i := 4) sc__law_bit.nd rfl (.inl rfl) (v_ix (l_var 3) (v_op d_mod (v_op d_fdiv (v_var 2) v_int) (v_len (by rfl) T.z_len (r_var 3)))))
      (ss_one (s_ret (v_ixS (v_var 4) (v_len (by rfl) T.z_len (r_var 1)))))) ss_nil))) ss_nil)
      (ss_one (s_ret (v_ixS v_str (v_op d_mod (v_op d_fdiv (v_var 2) v_int) v_int))))))
abbrev s__law_stands : Stmt := topS 24
abbrev N__law_stands : List Str := ["_law_reader", "_law_bits", "_law_signs", "_law_cell_here", "_law_held", "_law_told_here", "_law_sign"]
theorem sc__law_stands : FnScope N__law_stands ["_law_reader", "_law_bits", "_law_signs", "_law_cell_here", "_law_held"] (defScope s__law_stands) := ⟨rfl, rfl, rfl, by decide +kernel, rfl, by decide +kernel, by decide +kernel⟩
theorem spP_of {K : PySem.W.Frag} {cv : String → Value} {n : Nat} {F : FN} {vs : List V} {H : Hp} {Q : VK} {E : XK} {O : List Addr} {args : List SL} {r : RV} (hl : args.length = n) (al : ∀ b ∈ O, H b ≠ none) (ha : ArgsOk K O H vs args) (e : F args = .ok r) (q : ∀ v H', Gx [] H H' → RetC K O H H' v r → Q v H') : spP K [] cv n F vs H Q E :=
  ⟨O, args, hl, (fun p hp => (List.not_mem_nil hp).elim), al, ha, by rw [e]; exact q⟩
theorem ite_both {c : Bool} {X Y : Prop} (h : X) (hy : X → Y) : if c = true then Y else X := by split; exact hy h; exact h
theorem ite_two {c : Bool} {X Y : Prop} (h : X) (h' : Y) : if c = true then X else Y := by split; exact h; exact h'
/-- a pair of lists told, one of them a copy -/
def HeldP (H H' : Hp) (v : V) (xs : List Int) : Prop := ∃ (t : Addr) (o : Obj) (l1 l2 : Addr), v = .ref t ∧ H t = none ∧ H l1 = none ∧ H l2 = none ∧ o.dict = none ∧ H' t = some (.frz o (.tup [.ref l1, .ref l2])) ∧ H' l1 = some (.lst (xs.map V.int)) ∧ H' l2 = some (.lst (xs.map V.int))
def spStands (C : Addr) : Sp := fun vs H Q _ => ∃ (p q1 q2 qs qh : Addr) (ws : List Str) (b : Str) (ss : List Int) (c : Int) (hs : List V), vs = [.ref p, .str b, .ref qs, .int c, .ref qh] ∧ RdAt C H p q1 q2 ws b ss ∧ H qs = some (.lst (ss.map V.int)) ∧ H qh = some (.lst hs) ∧ hs.length < 1000000 ∧ ss.length < 1000000 ∧
  ∀ H' hs', H' qh = some (.lst (hs ++ hs')) → (hs' = [] ∨ ∃ v, hs' = [v] ∧ HeldP H H' v ss) → ExM [] [qh] H H' → Q (.bl true) H'
theorem d__law_stands {C : Addr} (T : Tops K mg) {f : Addr} {fd : FuncData} (F : Fun K "_law_stands" "_law_stands" s__law_stands f fd) {fI fT fH fD : Addr} {fdH fdD : FuncData} (t : RdTxt K mg C fI fT fH fD) (FH : FnOk P w K mg base (L2.CX P w) 1 fH fdH ["self"] (spRHeld C)) (bH : Binds K fdH ["self"] []) (FD : FnOk P w K mg base (L2.CX P w) 1 fD fdD ["self"] (spRDone C)) (bD : Binds K fdD ["self"] [])
    (D_alike : Dfn P w K mg base [] (cvOf mg) 1 "_law_alike" 2 M_law_alike) : FnOk P w K mg base (L2.CX P w) 3 f fd ["_law_reader", "_law_bits", "_law_signs", "_law_cell_here", "_law_held"] (spStands C) := by
  refine F.okX sc__law_stands (fun vs H Q E h => by obtain ⟨p, q1, q2, qs, qh, ws, b, ss, c, hs, rfl, _⟩ := h; rfl) (fun cdv A outer s0 H vs Q E hr h => ?_)
  obtain ⟨p, q1, q2, qs, qh, ws, b, ss, c, hs, rfl, R, hqs, hqh, hlh, hls, h⟩ := h
  obtain ⟨⟨dx, h1⟩, h2, h3, h4⟩ := id R
  obtain ⟨fA, fdA, psA, FA, mgA, kpA, bA⟩ := D_alike.ex
  have tk : Takes (cxOf (L2.CX P w) P w K mg base N__law_stands "_law_stands" (defScope s__law_stands) f cdv A outer s0 H E) (fun cls d _ H => E cls d H) := takes_of rfl rfl rfl rfl
  have nd := sc__law_stands.nd
  have hr1 := hr.mono (show 1 ≤ 2 by decide)
  refine ⟨_, pss_cons (ps_if (PW.pt (pw_and (pt_cmpR op_eq (pe_op op_mod (pe_op op_fdiv (pv 3) pe_int) pe_int) pe_int (nomark _)) (pw_and1 (pt_cmpR op_ne (pe_meth0S (pv 0) t.cl t.mH FH hr1 bH (fun σ => passAt tk σ)) (pv 1) (nomark _))))) (pss_one (ps_ret pe_bl)) pss_nil)
    (pss_cons (ps_set (i := 5) nd rfl (Or.inl rfl) (pe_meth0S (pv 0) t.cl t.mD FD hr1 bD (fun σ => passAt tk σ)))
    (pss_cons (ps_if (PW.pt (pw_or (pt_not (pt_val (pe_callB call_isi (by rfl) T.z_isinstance (by decide +kernel) (pa_cons (pv 5) (pa_cons (pe_bltn (v := .ty "list") (by rfl) T.z_list (by decide +kernel) rfl (by decide) (by decide)) pa_nil)) (by decide) (by decide) (by rfl))))
        (pw_or1 (pt_cmpR (op_neD hr.units) (pe_lc (own := [("_law_sign", 6)]) (g := gName 6) rfl nd (pi_list (pv 5)) (blkOk_by (own := [("_law_sign", 6)]) (N := N__law_stands) (sc := defScope s__law_stands) (by decide +kernel)) (fun _ _ _ _ _ => pg_name (i := 6) nd rfl (Or.inl rfl))
          (fun _ _ _ _ _ => pts_one (pt_not (pt_val (pe_callS FA hr1 (by rfl) mgA kpA bA (fun σ => wk_blk (C := PC.of [] (cvOf mg) H [] E) σ) (pa_cons (pv 6) (pa_cons (pv 6) pa_nil)))))) (fun _ _ _ _ _ => pv 6)) (pe_lst pa_nil) (nomark _))))) (pss_one (ps_ret pe_bl)) pss_nil)
    (pss_cons (ps_if (PW.pt (pw_or (pt_cmpR (op_neD hr.units) (pv 5) (pv 2) (nomark _)) (pw_or (pt_cmpR op_ne (pe_meth0S (pv 0) t.cl t.mH FH hr1 bH (fun σ => passAt tk σ)) (pv 1) (nomark _))
        (pw_or1 (pt_not (pt_val (pe_callB call_isi (by rfl) T.z_isinstance (by decide +kernel) (pa_cons (pe_meth0S (pv 0) t.cl t.mH FH hr1 bH (fun σ => passAt tk σ)) (pa_cons (pe_bltn (v := .ty "str") (by rfl) T.z_str (by decide +kernel) rfl (by decide) (by decide)) pa_nil)) (by decide) (by decide) (by rfl)))))))) (pss_one (ps_ret pe_bl)) pss_nil)
    (pss_cons (ps_if (pt_cmpR op_eq (pe_op op_mod (pe_op op_fdiv (pv 3) pe_int) pe_int) pe_int (nomark _)) 
        (pss_one (ps_expr (pe_bm PySem.F.plainAttrs_list PySem.F.slot_list_append PySem.F.type_list_append mt_append (pv 4) (pa_cons (pe_tupF (pa_cons (pv 5) (pa_cons (pe_callTy call_list_of (by rfl) T.z_list (by decide +kernel) (pa_cons (pv 5) pa_nil) (by decide) (by decide) (by rfl)) pa_nil))) pa_nil))))
        (pss_one (ps_expr (pe_bm PySem.F.plainAttrs_list PySem.F.slot_list_append PySem.F.type_list_append mt_append (pv 5) (pa_cons pe_int pa_nil)))))
    (pss_one (ps_ret pe_bl)))))), ?_⟩
  refine ⟨_, rfl, _, _, rfl, rfl, ⟨by decide, by decide⟩, _, _, rfl, rfl, (by show (0 : Int) < 2; decide), rfl, _, rfl, ?_⟩
  refine ite_both ?_ fun rest => ?_
  rotate_left
  · refine ⟨_, rfl, p, dx, _, rfl, h1, rdF_no _ _ _ (by decide +kernel) (by decide +kernel) (by decide +kernel), p, q1, q2, ws, b, ss, rfl, R, _, rfl, rfl, _, rfl, ?_⟩
    exact iteFc (by simp) rest
  refine ⟨_, rfl, p, dx, _, rfl, h1, rdF_no _ _ _ (by decide +kernel) (by decide +kernel) (by decide +kernel), p, q1, q2, ws, b, ss, rfl, R, fun l nl => ?_⟩
  have dl : ∀ G : Hp, G l = some (.lst (ss.map V.int)) → Dp K G (.ref l) (.list (ss.map PyData.int)) := fun G e => .lst (SqL.of e) (dp_ints ss)
  refine ⟨_, rfl, .ref l, .ty "list", .type "list", .type "list", true, rfl, .ty _, dp_ty (dl _ upd_same), kit_ty (by decide +kernel), ?_⟩
  refine ⟨_, rfl, iteF ?_⟩
  refine ⟨_, rfl, l, rfl, ⟨_, SqL.of upd_same⟩, fun D nD => ?_⟩
  refine lc_list (K := K) (a := l) (xs := ss.map V.int) (fun i H' => Gx [] (upd (upd H l (.lst (ss.map V.int))) D (.lst [])) H' ∧ H' D = some (.lst [])) ⟨Gx.refl _, upd_same⟩ (fun i H' _ e => SqL.of (e.1.ex _ _ (by rw [upd_ne (ne_of_none upd_same nD)]; exact upd_same) rfl)) ?_ ?_
  · rintro i x H' hx ⟨g, eD⟩
    rw [List.getElem?_map] at hx
    cases ey : ss[i]? with
    | none => rw [ey] at hx; cases hx
    | some y =>
      rw [ey] at hx
      cases hx
      refine ⟨rfl, ?_⟩
      refine ⟨_, rfl, _, rfl, spP_of (O := []) (args := [.fz (.int y), .fz (.int y)]) rfl (fun _ h => (List.not_mem_nil h).elim) (.cons (.int y) (.cons (.int y) .nil)) (M_law_alike_int y) fun v H3 x3 rv => ?_⟩
      cases (show Dp K (hid [] H3) v (.bool true) from rv)
      refine ⟨true, rfl, ?_⟩
      exact ⟨g.trans x3, x3.ex _ _ eD rfl⟩
  · rintro H3 ⟨g, eD⟩
    have nlD : l ≠ D := ne_of_none upd_same nD
    refine ⟨Nat.zero_le _, fun D2 nD2 => ?_⟩
    refine ⟨.list [], .list [], .lst (SqL.of (by rw [upd_ne (ne_of_none eD nD2)]; exact eD)) .nil, .lst (SqL.of upd_same) .nil, rfl, rfl, ?_⟩
    refine ⟨_, rfl, iteFc rfl ?_⟩
    have g4 : Gx [] H (upd H3 D2 (.lst [])) := (((Gx.new nl).trans (Gx.new nD)).trans g).trans (Gx.new nD2)
    have el : upd H3 D2 (.lst []) l = some (.lst (ss.map V.int)) := by
      have : H3 l = some (.lst (ss.map V.int)) := g.ex _ _ (by rw [upd_ne nlD]; exact upd_same) rfl
      rw [upd_ne (ne_of_none this nD2)]; exact this
    generalize upd H3 D2 (.lst []) = H4 at g4 el
    have R4 := R.mono g4.ex
    have h14 := g4.ex _ _ h1 rfl
    have hqs4 := g4.ex _ _ hqs rfl
    have hqh4 := g4.ex _ _ hqh rfl
    refine ⟨_, rfl, _, rfl, .list (ss.map PyData.int), .list (ss.map PyData.int), dl _ el, .lst (SqL.of hqs4) (dp_ints ss), shaped_of (shp_ints 0 ss), shaped_of (shp_ints 0 ss), ?_⟩
    refine ⟨_, rfl, iteFc (by rw [SeqAt.eqv_refl _ (shp_ints 0 ss).1]; rfl) ?_⟩
    refine ⟨_, rfl, p, dx, _, rfl, h14, rdF_no _ _ _ (by decide +kernel) (by decide +kernel) (by decide +kernel), p, q1, q2, ws, b, ss, rfl, R4, _, rfl, rfl, _, rfl, iteFc (by simp) ?_⟩
    refine ⟨_, rfl, p, dx, _, rfl, h14, rdF_no _ _ _ (by decide +kernel) (by decide +kernel) (by decide +kernel), p, q1, q2, ws, b, ss, rfl, R4, .str b, .ty "str", .type "str", .type "str", true, rfl, .ty _, dp_ty (K := K) (H := H4) (Dp.str b), kit_ty (by decide +kernel), ?_⟩
    refine ⟨_, rfl, iteF ?_⟩
    refine ⟨_, rfl, _, _, rfl, rfl, ⟨by decide, by decide⟩, _, _, rfl, rfl, (by show (0 : Int) < 2; decide), rfl, _, rfl, ?_⟩
    refine ite_two ?_ ?_
    · refine ⟨_, rfl, .inl ⟨rfl, _, SqL.of hqh4⟩, _, rfl, _, rfl, l, _, rfl, .inl (SqL.of el), fun l2 n2 => ?_⟩
      refine ⟨line_le (by show 2 ≤ 1000000; decide), fun tt o nt hd => ?_⟩
      have g6 : Gx [] H (upd (upd H4 l2 (.lst (ss.map V.int))) tt (.frz o (.tup [.ref l, .ref l2]))) := (g4.trans (Gx.new n2)).trans (Gx.new nt)
      have n2' : H l2 = none := fresh_back g4 n2
      have nt4 : H4 tt = none := by
        have : tt ≠ l2 := fun z => by subst z; rw [upd_same] at nt; cases nt
        rw [upd_ne this] at nt; exact nt
      have nt' : H tt = none := fresh_back g4 nt4
      have ntl : tt ≠ l := (ne_of_none el nt4).symm
      have ntl2 : l2 ≠ tt := ne_of_none upd_same nt
      have nll : l ≠ l2 := ne_of_none el n2
      have hqh6 := g6.ex _ _ hqh rfl
      have nq1 : tt ≠ qh := (ne_of_none hqh nt').symm
      have nq2 : l ≠ qh := (ne_of_none hqh nl).symm
      have nq3 : l2 ≠ qh := (ne_of_none hqh n2').symm
      refine ⟨qh, _, _, rfl, rfl, hqh6, line_lt hlh, ?_⟩
      refine h _ [.ref tt] upd_same (.inr ⟨_, rfl, tt, o, l, l2, rfl, nt', nl, n2', hd, ?_, ?_, ?_⟩) ?_
      · rw [upd_ne nq1, upd_same]
      · rw [upd_ne nq2, upd_ne ntl.symm, upd_ne nll]; exact el
      · rw [upd_ne nq3, upd_ne ntl2, upd_same]
      · exact ((ExM.refl (τ := []) [qh] H).grow g6).put (.inr List.mem_cons_self) hqh6 rfl nofun
    · refine ⟨_, rfl, .inl ⟨rfl, _, SqL.of el⟩, l, _, _, rfl, rfl, el, line_lt (by rw [List.length_map]; exact hls), ?_⟩
      have nq2 : qh ≠ l := ne_of_none hqh nl
      refine h _ [] (by rw [upd_ne nq2, List.append_nil]; exact hqh4) (.inl rfl) ?_
      exact ((ExM.refl (τ := []) [qh] H).grow g4).put (.inl nl) el rfl nofun

abbrev s_law : Stmt := topS 25
abbrev N_law : List Str := ["_law_script", "_law_words_here", "_law_handed", "_law_reader", "_law_beside", "_law_bits", "_law_signs", "_law_held", "_law_cell_here", "_law_bit_here", "_law_due_here", "_law_told_here", "_law_copy"]
theorem sc_law : FnScope N_law ["_law_script"] (defScope s_law) := ⟨rfl, rfl, rfl, by decide +kernel, rfl, by decide +kernel, by decide +kernel⟩
theorem exm_hid {M O : List Addr} {H H' : Hp} (x : ExM [] M H H') (h : ∀ m ∈ M, m ∈ O) : Ex (hid O H) (hid O H') := fun b o e n => by
  obtain ⟨hb, e', hn⟩ := hid_of3 e
  exact hid_out hb (x.st b o (fun z => hb (h b z)) e' n) hn
theorem exm_trans {M M' : List Addr} {H H1 H2 : Hp} (x : ExM [] M H H1) (y : ExM [] M' H1 H2) (h : ∀ m ∈ M', m ∈ M ∨ H m = none) : ExM [] M H H2 := by
  refine ⟨fun b o hb e n => y.st b o (fun z => ?_) (x.st b o hb e n) n, fun b o e => ?_, fun p hp t => (List.not_mem_nil hp).elim⟩
  · rcases h b z with h | h
    · exact hb h
    · rw [h] at e; cases e
  · cases z : H1 b with
    | none => exact absurd z (x.tb b o e)
    | some u => exact y.tb b u z
theorem rdAt_hid {C : Addr} {H : Hp} {O : List Addr} {p q1 q2 : Addr} {ws : List Str} {b : Str} {ss : List Int} (R : RdAt C H p q1 q2 ws b ss) (h1 : p ∉ O) (h2 : q1 ∉ O) (h3 : q2 ∉ O) : RdAt C (hid O H) p q1 q2 ws b ss := by
  obtain ⟨⟨dx, e1⟩, e2, e3, e4⟩ := R
  exact ⟨⟨dx, hid_out h1 e1⟩, hid_out h2 e2, hid_out h3 e3, e4⟩
theorem rdAt_un {C : Addr} {H : Hp} {O : List Addr} {p q1 q2 : Addr} {ws : List Str} {b : Str} {ss : List Int} (R : RdAt C (hid O H) p q1 q2 ws b ss) : RdAt C H p q1 q2 ws b ss := R.mono hid_ex
theorem rdAt_x {C : Addr} {H H' : Hp} {M : List Addr} {p q1 q2 : Addr} {ws : List Str} {b : Str} {ss : List Int} (x : ExM [] M H H') (R : RdAt C H p q1 q2 ws b ss) (h1 : p ∉ M) (h2 : q1 ∉ M) (h3 : q2 ∉ M) : RdAt C H' p q1 q2 ws b ss := rdAt_un ((rdAt_hid R h1 h2 h3).mono (exm_hid x fun _ h => h))
theorem make_rd2 {K : PySem.W.Frag} {mg : Str → Option Value} {C : Addr} {nw : FN} {H : Hp} {O : List Addr} {a : Addr} {us : List V} {ds : List PyData} {ws : List Str} {r : RV} {Q : Hp → Prop} {E : XK} {y dx : Addr} (ny : H y = none) (ndx : H dx = none) (ne : dx ≠ y) (al : ∀ b ∈ O, H b ≠ none) (hs : SqL K H a us) (ha : DpAll K (hid O H) us ds) (hw : allStr ds = some ws) (hn : nw [.bw ds] = .ok r)
    (q : ∀ H' q1 q2, H q1 = none → H q2 = none → RdAt C H' y q1 q2 ws Str.empty [] → Gx [] H H' → Q H') :
    spRInit K [] (cvOf mg) C nw [.ref y, .ref a] (upd (upd H dx (.own y)) y (.ins C dx [])) (fun v H2 => v = .non ∧ Q H2) E := by
  have g1 : Gx [] H (upd H dx (.own y)) := Gx.new ndx
  have ny' : upd H dx (.own y) y = none := by rw [upd_ne (Ne.symm ne)]; exact ny
  have g : Gx [] H (upd (upd H dx (.own y)) y (.ins C dx [])) := g1.trans (Gx.new ny')
  refine ⟨O, y, dx, a, us, ds, rfl, upd_same, (fun p hp => (List.not_mem_nil hp).elim), fun b hb e => al b hb (fresh_back g e), ex_l g.ex hs, DpAll.mono (hid_mono g) ha, ?_⟩
  rw [hn]
  exact ⟨ws, ha.strs hw, fun H' q1 q2 n1 n2 R x => ⟨rfl, q H' q1 q2 (fresh_back g n1) (fresh_back g n2) R (exm_gx g x fun m hm => by rw [List.mem_singleton.mp hm]; exact ny)⟩⟩
abbrev ws2 : List Str := ["0", "10"]
theorem good_010 : GoodW ws2 := ⟨by decide, fun w hw => by
  rcases List.mem_cons.mp hw with rfl | hw
  · exact isW_str.mp (by decide +kernel)
  · rw [List.mem_singleton.mp hw]; exact isW_str.mp (by decide +kernel), far_apart (.cons (fun b hb => by
    rw [List.mem_singleton.mp hb]
    exact ⟨by decide +kernel, by decide +kernel⟩) (.cons (fun b hb => nomatch hb) .nil))⟩
theorem take2_0 : takeO ws2 Str.empty "0" = .got 0 := by
  unfold takeO
  rw [if_neg (by decide +kernel), if_pos (by decide +kernel)]
  have : (ws2.findIdx fun y => decide (y = Str.empty ++ "0")) = 0 := by decide +kernel
  rw [this]
theorem take2_1 : takeO ws2 Str.empty "1" = .more := by
  unfold takeO
  rw [if_neg (by decide +kernel), if_neg (by decide +kernel), if_pos (by decide +kernel)]
theorem cat0 (s : Str) : Str.empty ++ s = s := by
  show (⟨#[] ++ s.cps⟩ : Str) = s
  simp
theorem dp_strs {K : PySem.W.Frag} {G : Hp} : ∀ ws : List Str, DpAll K G (ws.map V.str) (ws.map PyData.str)
  | [] => .nil
  | w :: r => .cons (.str w) (dp_strs r)
theorem takeD_due (ws : List Str) (b : Str) (d : PyData) : dueO ws b d = match takeD ws b d with
  | .got k => (.int (k : Int), Str.empty)
  | .more => (.none, b ++ txtOf d)
  | .bad => (refD "BadBits", b) := by
  cases d <;> rfl
theorem takeD_more {ws : List Str} {b : Str} {d : PyData} (h : takeD ws b d = .more) : ∃ s, d = .str s ∧ takeO ws b s = .more ∧ (s = "0" ∨ s = "1") := by
  cases d with
  | str s =>
    have h' : takeO ws b s = .more := h
    refine ⟨s, rfl, h', ?_⟩
    unfold takeO at h'
    by_cases c : s ≠ "0" ∧ s ≠ "1"
    · rw [if_pos c] at h'; cases h'
    · by_cases c0 : s = "0"
      · exact .inl c0
      · exact .inr (Classical.byContradiction fun z => c ⟨c0, z⟩)
  | _ => cases h
structure At13 (K : PySem.W.Frag) (C : Addr) (H H' : Hp) (qw p pb b1 b2 : Addr) (ws : List Str) (sl : Addr) (xs : List V) (i j : Nat) (b : Str) (ss s0 : List Int) (q1 q2 qs qd : Addr) (us : List V) (ds : List PyData) : Prop where
  g : Gx [] H H'
  R : RdAt C H' p q1 q2 ws b ss
  B : RdAt C (hid [p, q2, qd] H') pb b1 b2 ws2 "1" [0]
  w : hid [p, q2, qd] H' qw = some (.lst (ws.map V.str))
  s : hid [p, q2, qd] H' qs = some (.lst (s0.map V.int))
  l : hid [p, q2, qd] H' sl = some (.lst xs)
  d : H' qd = some (.lst us)
  n1 : q1 ≠ qd
  n2 : q2 ≠ qd
  np : H p = none
  nq : H q2 = none
  nd : H qd = none
  u : DpAll K (hid [p, q2, qd] H') us ds
  pr : ∀ x ∈ ds, ∃ ys : List Int, x = .tuple [.list (ys.map PyData.int), .list (ys.map PyData.int)]
  bl : b.length ≤ i
  bo : PyData.strOk b = true
  sn : ss.length ≤ i
  un : us.length ≤ j
section
variable {K : PySem.W.Frag} {C : Addr} {H H' H2 : Hp} {qw p pb b1 b2 : Addr} {ws : List Str} {sl : Addr} {xs : List V} {i j : Nat} {b : Str} {ss s0 : List Int} {q1 q2 qs qd : Addr} {us : List V} {ds : List PyData}
theorem At13.al (A : At13 K C H H' qw p pb b1 b2 ws sl xs i j b ss s0 q1 q2 qs qd us ds) : ∀ x ∈ [p, q2, qd], H' x ≠ none := fun x hx e => by
  rcases List.mem_cons.mp hx with rfl | hx
  · obtain ⟨dx, h⟩ := A.R.ob; rw [h] at e; cases e
  · rcases List.mem_cons.mp hx with rfl | hx
    · rw [A.R.sg] at e; cases e
    · rw [List.mem_singleton.mp hx, A.d] at e; cases e
theorem At13.pd (A : At13 K C H H' qw p pb b1 b2 ws sl xs i j b ss s0 q1 q2 qs qd us ds) : p ≠ qd := by
  obtain ⟨dx, h⟩ := A.R.ob
  exact ne_of h A.d (by intro z; cases z)
/-- what stands beside stays -/
theorem At13.keep (A : At13 K C H H' qw p pb b1 b2 ws sl xs i j b ss s0 q1 q2 qs qd us ds) {i' j' : Nat} {b' : Str} {ss' : List Int} {q3 : Addr} {us' ds'} (g : Gx [] H H2) (x : Ex (hid [p, q2, qd] H') (hid [p, q3, qd] H2)) (R : RdAt C H2 p q1 q3 ws b' ss') (d : H2 qd = some (.lst us')) (n2 : q3 ≠ qd) (nq : H q3 = none) (u : DpAll K (hid [p, q3, qd] H2) us' ds')
    (pr : ∀ x ∈ ds', ∃ ys : List Int, x = .tuple [.list (ys.map PyData.int), .list (ys.map PyData.int)]) (bl : b'.length ≤ i') (bo : PyData.strOk b' = true) (sn : ss'.length ≤ i') (un : us'.length ≤ j') : At13 K C H H2 qw p pb b1 b2 ws sl xs i' j' b' ss' s0 q1 q3 qs qd us' ds' :=
  ⟨g, R, A.B.mono x, x _ _ A.w rfl, x _ _ A.s rfl, x _ _ A.l rfl, d, A.n1, n2, A.np, nq, A.nd, u, pr, bl, bo, sn, un⟩
theorem At13.grow (A : At13 K C H H' qw p pb b1 b2 ws sl xs i j b ss s0 q1 q2 qs qd us ds) (x : Gx [] H' H2) : At13 K C H H2 qw p pb b1 b2 ws sl xs i j b ss s0 q1 q2 qs qd us ds :=
  A.keep (A.g.trans x) (hid_mono x) (A.R.mono x.ex) (x.ex _ _ A.d rfl) A.n2 A.nq (DpAll.mono (hid_mono x) A.u) A.pr A.bl A.bo A.sn A.un
theorem At13.told (A : At13 K C H H' qw p pb b1 b2 ws sl xs i j b ss s0 q1 q2 qs qd us ds) {i' : Nat} {b' : Str} {ss' : List Int} (R : RdAt C H2 p q1 q2 ws b' ss') (x : ExM [] [p, q2] H' H2) (bl : b'.length ≤ i') (bo : PyData.strOk b' = true) (sn : ss'.length ≤ i') : At13 K C H H2 qw p pb b1 b2 ws sl xs i' j b' ss' s0 q1 q2 qs qd us ds := by
  have hx : Ex (hid [p, q2, qd] H') (hid [p, q2, qd] H2) := exm_hid x fun m hm => by
    rcases List.mem_cons.mp hm with rfl | hm
    · exact List.mem_cons_self
    · rw [List.mem_singleton.mp hm]; exact List.mem_cons_of_mem _ List.mem_cons_self
  refine A.keep (exm_gx A.g x fun m hm => ?_) hx R (x.st _ _ (fun hm => ?_) A.d rfl) A.n2 A.nq (DpAll.mono hx A.u) A.pr bl bo sn A.un
  · rcases List.mem_cons.mp hm with rfl | hm
    · exact A.np
    · rw [List.mem_singleton.mp hm]; exact A.nq
  · rcases List.mem_cons.mp hm with h | hm
    · exact A.pd h.symm
    · exact A.n2 (List.mem_singleton.mp hm).symm
theorem At13.again (A : At13 K C H H' qw p pb b1 b2 ws sl xs i j b ss s0 q1 q2 qs qd us ds) {i' : Nat} {q : Addr} (nq : H' q = none) (R : RdAt C H2 p q1 q ws Str.empty []) (x : ∀ x o, x ≠ p → H' x = some o → H2 x = some o) (y : ∀ x, H' x ≠ none → H2 x ≠ none) : At13 K C H H2 qw p pb b1 b2 ws sl xs i' j Str.empty [] s0 q1 q qs qd us ds := by
  have hx : Ex (hid [p, q2, qd] H') (hid [p, q, qd] H2) := fun c o e n => by
    obtain ⟨hb, e', hn⟩ := hid_of3 e
    have hcp : c ≠ p := fun z => hb (by rw [z]; exact List.mem_cons_self)
    refine hid_out (fun z => ?_) (x _ _ hcp e') hn
    rcases List.mem_cons.mp z with z | z
    · exact hcp z
    · rcases List.mem_cons.mp z with z | z
      · rw [z, nq] at e'; cases e'
      · exact hb (List.mem_cons_of_mem _ (List.mem_cons_of_mem _ z))
  have nqd : q ≠ qd := fun z => by rw [z, A.d] at nq; cases nq
  refine A.keep ⟨fun c o e n => ?_, fun c o e => y c (A.g.tb c o e), fun p hp t => (List.not_mem_nil hp).elim⟩ hx R (x _ _ A.pd.symm A.d) nqd (fresh_back A.g nq) (DpAll.mono hx A.u) A.pr (Nat.zero_le _) (by decide +kernel) (Nat.zero_le _) A.un
  exact x _ _ (fun z => by rw [z, A.np] at e; cases e) (A.g.ex c o e n)
theorem At13.signs (A : At13 K C H H' qw p pb b1 b2 ws sl xs i j b ss s0 q1 q2 qs qd us ds) {q' : Addr} {s1 : List Int} (h : hid [p, q2, qd] H' q' = some (.lst (s1.map V.int))) : At13 K C H H' qw p pb b1 b2 ws sl xs i j b ss s1 q1 q2 q' qd us ds := { A with s := h }
theorem At13.sign_new (A : At13 K C H H' qw p pb b1 b2 ws sl xs i j b ss s0 q1 q2 qs qd us ds) {q' : Addr} {s1 : List Int} (n : H' q' = none) : At13 K C H (upd H' q' (.lst (s1.map V.int))) qw p pb b1 b2 ws sl xs i j b ss s1 q1 q2 q' qd us ds :=
  (A.grow (Gx.new n)).signs (hid_out (fun z => A.al _ z n) upd_same)
/-- behind _law_stands -/
theorem stands_go (A : At13 K C H H' qw p pb b1 b2 ws sl xs i j b ss ss q1 q2 qs qd us ds) {Q : VK} {E : XK} {c : Int} (hi : i < 1000000) (hj : j < 1000000) (q : ∀ H2 us' ds', At13 K C H H2 qw p pb b1 b2 ws sl xs i (j + 1) b ss ss q1 q2 qs qd us' ds' → Q (.bl true) H2) : spStands C [.ref p, .str b, .ref qs, .int c, .ref qd] H' Q E := by
  refine ⟨p, q1, q2, qs, qd, ws, b, ss, c, us, rfl, A.R, hid_ex _ _ A.s rfl, A.d, by have := A.un; omega, by have := A.sn; omega, fun H2 hs' e o x => ?_⟩
  have hx : Ex (hid [p, q2, qd] H') (hid [p, q2, qd] H2) := exm_hid x fun m hm => by
    rw [List.mem_singleton.mp hm]; exact List.mem_cons_of_mem _ (List.mem_cons_of_mem _ List.mem_cons_self)
  have hR : RdAt C H2 p q1 q2 ws b ss := rdAt_x x A.R (fun z => A.pd (List.mem_singleton.mp z)) (fun z => A.n1 (List.mem_singleton.mp z)) (fun z => A.n2 (List.mem_singleton.mp z))
  have hg : Gx [] H H2 := exm_gx A.g x fun m hm => by rw [List.mem_singleton.mp hm]; exact A.nd
  rcases o with rfl | ⟨v, rfl, t, o, l1, l2, rfl, nt, n1, n2, od, et, e1, e2⟩
  · rw [List.append_nil] at e
    exact q H2 us ds (A.keep hg hx hR e A.n2 A.nq (DpAll.mono hx A.u) A.pr A.bl A.bo A.sn (Nat.le_succ_of_le A.un))
  · have al := A.al
    have dl : ∀ l, H' l = none → H2 l = some (.lst (ss.map V.int)) → Dp K (hid [p, q2, qd] H2) (.ref l) (.list (ss.map PyData.int)) := fun l n e => .lst (SqL.of (hid_out (fun z => al _ z n) e)) (dp_ints ss)
    refine q H2 (us ++ [.ref t]) (ds ++ [.tuple [.list (ss.map PyData.int), .list (ss.map PyData.int)]]) (A.keep hg hx hR e A.n2 A.nq ((DpAll.mono hx A.u).append (.cons ?_ .nil)) (fun x hx => ?_) A.bl A.bo A.sn ?_)
    · refine .tup (.inl (.inr ⟨o, hid_out (fun z => al _ z nt) et (by show o.dict.isSome = false; rw [od]; rfl)⟩)) (.cons (dl _ n1 e1) (.cons (dl _ n2 e2) .nil))
    · rcases List.mem_append.mp hx with h | h
      · exact A.pr x h
      · exact ⟨ss, List.mem_singleton.mp h⟩
    · rw [List.length_append, List.length_singleton]
      exact Nat.succ_le_succ A.un
/-- what is told, and what the law says is due -/
def Told13 (ws : List Str) (b : Str) (d : PyData) (ss ss' : List Int) : Prop := (∃ k : Nat, (dueO ws b d).1 = .int (k : Int) ∧ ss' = ss ++ [(k : Int)]) ∨ ((dueO ws b d).1 = .none ∧ ss' = ss) ∨ ((dueO ws b d).1 = refD "BadBits" ∧ ss' = ss)
theorem told_go (A : At13 K C H H' qw p pb b1 b2 ws sl xs i j b ss s0 q1 q2 qs qd us ds) {v : V} {d : PyData} (hd : Dp K (hid [p, q2, qd] H') v d) (he : okE d) (hw : ws.length ≤ 1000) (hi : i ≤ 1000) {Q : VK} {E : XK}
    (q : ∀ v' H2 ss', Dp K (hid [p, q2, qd] H2) v' (dueO ws b d).1 → Ex (hid [p, q2, qd] H') (hid [p, q2, qd] H2) → At13 K C H H2 qw p pb b1 b2 ws sl xs (i + 1) j (dueO ws b d).2 ss' s0 q1 q2 qs qd us ds → Told13 ws b d ss ss' → Q v' H2) : spTold K C [.ref p, v] H' Q E := by
  have hbl := A.bl
  have hsn := A.sn
  refine ⟨[p, q2, qd], p, q1, q2, ws, b, ss, v, d, rfl, A.R, A.al, Dp.mono hid_ex hd, he.1, fun s e => (he.2.2 s e).2, hw, by omega, by omega, ?_⟩
  have hx : ∀ H2, ExM [] [p, q2] H' H2 → Ex (hid [p, q2, qd] H') (hid [p, q2, qd] H2) := fun H2 x => exm_hid x fun m hm => by
    rcases List.mem_cons.mp hm with rfl | hm
    · exact List.mem_cons_self
    · rw [List.mem_singleton.mp hm]; exact List.mem_cons_of_mem _ List.mem_cons_self
  have hdu := takeD_due ws b d
  unfold Told13 at q
  cases et : takeD ws b d with
  | got k =>
    rw [et] at hdu
    dsimp only at hdu
    rw [hdu] at q
    exact fun H2 R x => q _ H2 (ss ++ [(k : Int)]) (.int _) (hx H2 x) (A.told R x (Nat.zero_le _) (show PyData.strOk Str.empty = true by decide +kernel) (by rw [List.length_append, List.length_singleton]; omega)) (.inl ⟨k, rfl, rfl⟩)
  | more =>
    rw [et] at hdu
    dsimp only at hdu
    rw [hdu] at q
    obtain ⟨s, rfl, _, hs⟩ := takeD_more et
    have hl : s.length = 1 := by rcases hs with rfl | rfl <;> rfl
    exact fun H2 R x => q _ H2 ss .non (hx H2 x) (A.told R x (by show (b ++ s).length ≤ i + 1; rw [len_cat]; omega) (strOk_cat A.bo (he.2.2 s rfl).1) (by omega)) (.inr (.inl ⟨rfl, rfl⟩))
  | bad =>
    rw [et] at hdu
    dsimp only at hdu
    rw [hdu] at q
    exact fun v' H2 x r => q v' H2 ss r (hid_mono x) (A.told (A.R.mono x.ex) ((ExM.refl _ _).grow x) (by show b.length ≤ i + 1; omega) A.bo (by omega)) (.inr (.inr ⟨rfl, rfl⟩))
theorem alike_due {ws : List Str} {b : Str} {d : PyData} {ss ss' : List Int} (h : Told13 ws b d ss ss') : M_law_alike [.fz (dueO ws b d).1, .fz (dueO ws b d).1] = .ok (.val (.bool true)) := by
  rcases h with ⟨k, h, _⟩ | ⟨h, _⟩ | ⟨h, _⟩ <;> rw [h]
  · exact M_law_alike_int _
  · exact M_law_alike_none
  · exact M_law_alike_ref
end
theorem at13_start {K : PySem.W.Frag} {C : Addr} {H G : Hp} {qw p pb b1 b2 : Addr} {ws : List Str} {sl : Addr} {xs : List V} {q1 q2 qs qd : Addr} (g : Gx [] H G) (R : RdAt C G p q1 q2 ws Str.empty []) (B : RdAt C G pb b1 b2 ws2 "1" [0]) (hw : G qw = some (.lst (ws.map V.str))) (np : H p = none) (nq : H q2 = none)
    (d1 : pb ∉ [p, q2]) (d2 : b1 ∉ [p, q2]) (d3 : b2 ∉ [p, q2]) (d4 : qw ∉ [p, q2]) (ns : G qs = none) (nd : upd G qs (.lst []) qd = none) (nl : upd (upd G qs (.lst [])) qd (.lst []) sl = none) :
    At13 K C H (upd (upd (upd G qs (.lst [])) qd (.lst [])) sl (.lst xs)) qw p pb b1 b2 ws sl xs 0 0 Str.empty [] [] q1 q2 qs qd [] [] := by
  obtain ⟨dx, hp⟩ := R.ob
  have x1 : Gx [] G (upd G qs (.lst [])) := Gx.new ns
  have x2 : Gx [] G (upd (upd G qs (.lst [])) qd (.lst [])) := x1.trans (Gx.new nd)
  have x3 : Gx [] G (upd (upd (upd G qs (.lst [])) qd (.lst [])) sl (.lst xs)) := x2.trans (Gx.new nl)
  have nd' : G qd = none := fresh_back x1 nd
  have nl' : G sl = none := fresh_back x2 nl
  have nds : qs ≠ qd := ne_of_none (upd_same (H := G) (o := .lst [])) nd
  have nls : qs ≠ sl := ne_of_none (H := upd (upd G qs (.lst [])) qd (.lst [])) (by rw [upd_ne nds]; exact upd_same) nl
  have nld : qd ≠ sl := ne_of_none (upd_same (o := .lst [])) nl
  have al : ∀ x o, G x = some o → x ∉ [p, q2] → x ∉ [p, q2, qd] := fun x o e h z => by
    rcases List.mem_cons.mp z with z | z
    · exact h (by rw [z]; exact List.mem_cons_self)
    · rcases List.mem_cons.mp z with z | z
      · exact h (by rw [z]; exact List.mem_cons_of_mem _ List.mem_cons_self)
      · rw [List.mem_singleton.mp z, nd'] at e; cases e
  have fr : ∀ x, G x = none → x ≠ qd → x ∉ [p, q2, qd] := fun x e h z => by
    rcases List.mem_cons.mp z with z | z
    · rw [z, hp] at e; cases e
    · rcases List.mem_cons.mp z with z | z
      · rw [z, R.sg] at e; cases e
      · exact h (List.mem_singleton.mp z)
  obtain ⟨dy, hb⟩ := B.ob
  refine ⟨g.trans x3, R.mono x3.ex, rdAt_hid (B.mono x3.ex) (al _ _ hb d1) (al _ _ B.wd d2) (al _ _ B.sg d3), hid_out (al _ _ hw d4) (x3.ex _ _ hw rfl), hid_out (fr _ ns nds) (by rw [upd_ne nls, upd_ne nds]; exact upd_same), hid_out (fr _ nl' nld.symm) upd_same, by rw [upd_ne nld]; exact upd_same, (fun z => by have := R.wd; rw [z, nd'] at this; cases this), (fun z => by have := R.sg; rw [z, nd'] at this; cases this), np, nq, fresh_back g nd', .nil, (fun x hx => nomatch hx), Nat.le_refl _, by decide +kernel, Nat.le_refl _, Nat.le_refl _⟩
def spLaw (K : PySem.W.Frag) : Sp := fun vs H Q _ => ∃ (a : Addr) (ns : List Int), vs = [.ref a] ∧ SqL K H a (ns.map V.int) ∧ ns.length ≤ 63 ∧ ∀ H', Q (.bl true) H'
theorem d_law (T : Tops K mg) {f : Addr} {fd : FuncData} (F : Fun K "law" "law" s_law f fd) {f1 : Addr} {fd1 : FuncData} (F1 : Fun K "_law_told" "_law_told" s__law_told f1 fd1) (mg1 : mg "_law_told" = some (.ref f1)) {f2 : Addr} {fd2 : FuncData} (F2 : Fun K "_law_stands" "_law_stands" s__law_stands f2 fd2) (mg2 : mg "_law_stands" = some (.ref f2))
    (D_Reader : RdOk P w K mg base [] 2 M_need_words) (D_word : DfnE P w K mg base [] 1 "_law_word_of" M_law_word_of) (D_words : Dfn P w K mg base [] (cvOf mg) 2 "_law_words" 2 M_law_words) (D_due : Dfn P w K mg base [] (cvOf mg) 1 "_law_due" 3 M_law_due_4) (D_alike : Dfn P w K mg base [] (cvOf mg) 1 "_law_alike" 2 M_law_alike) (D_bit : Dfn P w K mg base [] (cvOf mg) 1 "_law_bit" 3 M_law_bit) : FnOk P w K mg base (L2.CX P w) 8 f fd ["_law_script"] (spLaw K) := by
  obtain ⟨C, fI, fT, fH, fD, fA, fdI, fdT, fdH, fdD, fdA, ⟨t, mA⟩, ⟨FI, bI⟩, ⟨FT, FTO, bT⟩, ⟨FH, bH⟩, ⟨FD, bD⟩, ⟨FA, bA⟩⟩ := D_Reader
  have FS := d__law_stands T F2 t FH bH FD bD D_alike
  have bS : Binds K fd2 ["_law_reader", "_law_bits", "_law_signs", "_law_cell_here", "_law_held"] [] := F2.binds fun _ _ _ _ _ _ us hl => match us, hl with | [_, _, _, _, _], _ => rfl
  have FL := d__law_told T F1 t FT FTO bT D_word
  have bL : Binds K fd1 ["_law_reader", "_law_bit_here"] [] := F1.binds fun _ _ _ _ _ _ us hl => match us, hl with | [_, _], _ => rfl
  obtain ⟨fw, fdw, psw, FW, mgw, kpw, bw⟩ := D_words.ex
  obtain ⟨fb, fdb, psb, FB, mgb, kpb, bb⟩ := D_bit.ex
  obtain ⟨fu, fdu, psu, FU, mgu, kpu, bu⟩ := D_due.ex
  obtain ⟨fk, fdk, psk, FK, mgk, kpk, bk⟩ := D_alike.ex
  refine F.okX sc_law (fun vs H Q E h => by obtain ⟨a, ns, rfl, _⟩ := h; rfl) (fun cdv A outer s0 H vs Q E hr h => ?_)
  obtain ⟨a, ns, rfl, hS, hlen, h⟩ := h
  have tk : Takes (cxOf (L2.CX P w) P w K mg base N_law "law" (defScope s_law) f cdv A outer s0 H E) (fun cls d _ H => E cls d H) := takes_of rfl rfl rfl rfl
  have hp : PassesOwn (model P w) (A.deeper (PyProof.Rows.envOfC "law" (defScope s_law) s0.heap.objs.size f cdv)) (PyProof.Rows.envOfC "law" (defScope s_law) s0.heap.objs.size f cdv) (cxOf (L2.CX P w) P w K mg base N_law "law" (defScope s_law) f cdv A outer s0 H E).xe := passes_of rfl
  have nd := sc_law.nd
  have hr1 := hr.mono (show 1 ≤ 7 by decide)
  have hr2 := hr.mono (show 2 ≤ 7 by decide)
  have hr3 := hr.mono (show 3 ≤ 7 by decide)
  have hr4 := hr.mono (show 4 ≤ 7 by decide)
  refine ⟨_, pss_cons (ps_set (i := 1) nd rfl (Or.inl rfl) (pe_callS FW hr2 (by rfl) mgw kpw bw (fun σ => passAt tk σ) (pa_cons (pv 0) (pa_cons pe_int pa_nil))))
    (pss_cons (ps_set (i := 2) nd rfl (Or.inl rfl) (pe_callTy call_list_of (by rfl) T.z_list (by decide +kernel) (pa_cons (pv 1) pa_nil) (by decide) (by decide) (by rfl)))
    (pss_cons (ps_set (i := 3) nd rfl (Or.inl rfl) (pe_makeS t.mI FI hr4 (by rfl) t.mgC bI (fun σ => passAt tk σ) (pa_cons (pv 2) pa_nil)))
    (pss_cons (ps_set (i := 4) nd rfl (Or.inl rfl) (pe_makeS t.mI FI hr4 (by rfl) t.mgC bI (fun σ => passAt tk σ) (pa_cons (pe_lst (pa_cons pe_str (pa_cons pe_str pa_nil))) pa_nil)))
    (pss_cons (ps_expr (pe_methS (pv 4) t.cl t.mT FT hr1 bT (fun σ => passAt tk σ) (pa_cons pe_str pa_nil)))
    (pss_cons (ps_expr (pe_methS (pv 4) t.cl t.mT FT hr1 bT (fun σ => passAt tk σ) (pa_cons pe_str pa_nil)))
    (pss_cons (ps_expr (pe_bm PySem.F.plainAttrs_list PySem.F.slot_list_append PySem.F.type_list_append mt_append (pv 2) (pa_cons pe_str pa_nil)))
    (pss_cons (ps_expr (pe_bm0 PySem.F.plainAttrs_list PySem.F.slot_list_reverse PySem.F.type_list_reverse mt_reverse (pv 2)))
    (pss_cons (ps_set (i := 5) nd rfl (Or.inl rfl) pe_str)
    (pss_cons (ps_set (i := 6) nd rfl (Or.inl rfl) (pe_lst pa_nil))
    (pss_cons (ps_set (i := 7) nd rfl (Or.inl rfl) (pe_lst pa_nil))
    (pss_cons (ps_for hp rfl (pi_list (pe_slice sl_list (pv 0) (po_some pe_int) po_none)) (pg_name (i := 8) nd rfl (Or.inl rfl))
      (pss_cons (ps_if (pt_cmpR op_eq (pe_op op_mod (pv 8) pe_int) pe_int (nomark _))
          (pss_cons (ps_if (pt_cmpR op_notN (pe_meth0S (pv 3) t.cl mA FA hr1 bA (fun σ => passAt tk σ)) pe_non (nomark _)) (pss_one (ps_ret pe_bl)) pss_nil)
          (pss_cons (ps_set (i := 5) nd rfl (Or.inl rfl) pe_str)
          (pss_one (ps_set (i := 6) nd rfl (Or.inl rfl) (pe_lst pa_nil)))))
          (pss_cons (ps_set (i := 9) nd rfl (Or.inl rfl) (pe_callS FB hr1 (by rfl) mgb kpb bb (fun σ => passAt tk σ) (pa_cons (pv 1) (pa_cons (pv 5) (pa_cons (pv 8) pa_nil)))))
          (pss_cons (ps_set (i := 10) nd rfl (Or.inl rfl) (pe_callS FU hr1 (by rfl) mgu kpu bu (fun σ => passAt tk σ) (pa_cons (pv 1) (pa_cons (pv 5) (pa_cons (pv 9) pa_nil)))))
          (pss_cons (ps_if (pt_not (pt_val (pe_callS FK hr1 (by rfl) mgk kpk bk (fun σ => passAt tk σ) (pa_cons (pe_callS FL hr3 (by rfl) mg1 F1.kp bL (fun σ => passAt tk σ) (pa_cons (pv 3) (pa_cons (pv 9) pa_nil))) (pa_cons (pe_ix ix_tup (pv 10) pe_int (fun _ _ => rfl)) pa_nil))))) (pss_one (ps_ret pe_bl)) pss_nil)
          (pss_cons (ps_set (i := 5) nd rfl (Or.inl rfl) (pe_ix ix_tup (pv 10) pe_int (fun _ _ => rfl)))
          (pss_one (ps_if (pt_val (pe_callB call_isi (by rfl) T.z_isinstance (by decide +kernel) (pa_cons (pe_ix ix_tup (pv 10) pe_int (fun _ _ => rfl)) (pa_cons (pe_bltn (v := .ty "int") (by rfl) T.z_int (by decide +kernel) rfl (by decide) (by decide)) pa_nil)) (by decide) (by decide) (by rfl)))
            (pss_one (ps_set (i := 6) nd rfl (Or.inl rfl) (pe_op op_cat (pv 6) (pe_lst (pa_cons (pe_ix ix_tup (pv 10) pe_int (fun _ _ => rfl)) pa_nil))))) pss_nil)))))))
      (pss_one (ps_if (pt_not (pt_val (pe_callS FS hr3 (by rfl) mg2 F2.kp bS (fun σ => passAt tk σ) (pa_cons (pv 3) (pa_cons (pv 5) (pa_cons (pv 6) (pa_cons (pv 8) (pa_cons (pv 7) pa_nil)))))))) (pss_one (ps_ret pe_bl)) pss_nil))))
    (pss_cons (ps_if (pt_cmpR (op_neD hr.units) (pe_lc (own := [("_law_told_here", 11), ("_law_copy", 12)]) (g := gTup K 2 (gCons (gName 11) (gCons (gName 12) gNil))) (tt := tTest (tOp (rNeD K) (tVar 11) (tVar 12))) rfl nd (pi_list (pv 7)) (blkOk_by (own := [("_law_told_here", 11), ("_law_copy", 12)]) (N := N_law) (sc := defScope s_law) (by decide +kernel)) (fun _ _ _ _ _ => pg_tup rfl (pgs_cons (pg_name (i := 11) nd rfl (Or.inl rfl)) (pgs_cons (pg_name (i := 12) nd rfl (Or.inl rfl)) pgs_nil)))
        (fun _ _ _ _ _ => pts_one (pt_cmpR (op_neD hr.units) (pv 11) (pv 12) (nomark _))) (fun _ _ _ _ _ => pe_int)) (pe_lst pa_nil) (nomark _)) (pss_one (ps_ret pe_bl)) pss_nil)
    (pss_one (ps_ret (pe_and (pe_cmpR op_eq (pe_meth0S (pv 4) t.cl t.mH FH hr1 bH (fun σ => passAt tk σ)) pe_str (nomark _)) (pe_and (pe_cmpR (op_eqD hr.units) (pe_meth0S (pv 4) t.cl t.mD FD hr1 bD (fun σ => passAt tk σ)) (pe_lst (pa_cons pe_int pa_nil)) (nomark _))
        (pe_and (pe_cmpR (op_eqD hr.units) (pe_meth0S (pv 3) t.cl t.mD FD hr1 bD (fun σ => passAt tk σ)) (pv 6) (nomark _)) (pe_one (pe_cmpR op_eq (pe_meth0S (pv 3) t.cl t.mH FH hr1 bH (fun σ => passAt tk σ)) (pv 5) (nomark _)))))))))))))))))))), ?_⟩
  obtain ⟨ws, hwk, hwl, hg, hww⟩ := M_law_words_good ns (first := 0) ⟨by omega, by omega⟩
  have hgd : GoodD (ws.map PyData.str) := ⟨ws, rfl, hg⟩
  refine ⟨_, rfl, spP_of (O := []) (args := [.bw (ns.map PyData.int), .fz (.int 0)]) rfl (fun _ h => (List.not_mem_nil h).elim) (.cons ⟨a, _, rfl, hS, dp_ints ns⟩ (.cons (.int 0) .nil)) hww fun v H1 x1 rv => ?_⟩
  obtain ⟨qw, vs, rfl, nqw, hqw, dqw⟩ := rv
  have ev : vs = ws.map V.str := dqw.strs (allStr_map ws)
  subst ev
  refine ⟨_, rfl, qw, _, rfl, .inl (SqL.of hqw), fun qh nqh => ?_⟩
  have g2 : Gx [] H (upd H1 qh (.lst (ws.map V.str))) := x1.trans (Gx.new nqh)
  have n02 : H qh = none := fresh_back x1 nqh
  have hqh : (upd H1 qh (.lst (ws.map V.str))) qh = some (.lst (ws.map V.str)) := upd_same
  have hqw2 : (upd H1 qh (.lst (ws.map V.str))) qw = some (.lst (ws.map V.str)) := by rw [upd_ne (ne_of_none hqw nqh)]; exact hqw
  have nwh : qw ≠ qh := ne_of_none hqw nqh
  generalize upd H1 qh (.lst (ws.map V.str)) = H2 at g2 hqh hqw2 ⊢
  refine ⟨_, rfl, fun p dx np ndx ne => make_rd2 (mg := mg) (C := C) (nw := M_need_words) (O := []) np ndx ne (fun _ h => (List.not_mem_nil h).elim) (SqL.of hqh) (dp_strs ws) (allStr_map ws) (M_need_words_good hgd) fun H3 q1 q2 nq1 nq2 R3 x3 => ?_⟩
  have nph : p ≠ qh := fun z => by rw [z, hqh] at np; cases np
  have nwp : qw ≠ p := ne_of_none hqw2 np
  have nwq : qw ≠ q2 := ne_of_none hqw2 nq2
  have n1h : q1 ≠ qh := fun z => by rw [z, hqh] at nq1; cases nq1
  have n2h : q2 ≠ qh := fun z => by rw [z, hqh] at nq2; cases nq2
  have hqw3 := x3.ex _ _ hqw2 rfl
  have hqh3 := x3.ex _ _ hqh rfl
  have g3 := g2.trans x3
  have np0 := fresh_back g2 np
  have nq20 := fresh_back g2 nq2
  clear hqw dqw g2 hqh hqw2 x3 ne ndx nqh x1 nqw
  refine ⟨line_le (by show 2 ≤ 1000000; decide), fun lb nlb => fun pb dxb npb ndxb neb => make_rd2 (mg := mg) (C := C) (nw := M_need_words) (us := ws2.map V.str) (O := []) npb ndxb neb (fun _ h => (List.not_mem_nil h).elim) (SqL.of upd_same) (dp_strs ws2) (allStr_map ws2) (M_need_words_good ⟨ws2, rfl, good_010⟩) fun H5 b1 b2 nb1 nb2 R5 x5 => ?_⟩
  have xlb : Gx [] H3 (upd H3 lb (.lst (ws2.map V.str))) := Gx.new nlb
  have x35 : Gx [] H3 H5 := xlb.trans x5
  have npb3 : H3 pb = none := fresh_back xlb npb
  have nb13 : H3 b1 = none := fresh_back xlb nb1
  have nb23 : H3 b2 = none := fresh_back xlb nb2
  clear nlb xlb npb ndxb neb nb1 nb2 x5
  have no : ∀ (τ : List (Addr × Str)) (G : Hp), τ = [] → LamX.Tabs τ G := fun τ G e p hp => by rw [e] at hp; exact (List.not_mem_nil hp).elim
  obtain ⟨dy5, hy5⟩ := R5.ob
  refine ⟨_, rfl, pb, dy5, _, rfl, hy5, rdF_no _ _ _ (by decide +kernel) (by decide +kernel) (by decide +kernel), pb, b1, b2, ws2, Str.empty, "0", [], rfl, R5, no _ _ rfl, by decide, by decide, by decide, ?_⟩
  rw [take2_0]
  intro H6 R6 x6
  obtain ⟨dy6, hy6⟩ := R6.ob
  refine ⟨_, rfl, pb, dy6, _, rfl, hy6, rdF_no _ _ _ (by decide +kernel) (by decide +kernel) (by decide +kernel), pb, b1, b2, ws2, Str.empty, "1", [0], rfl, R6, no _ _ rfl, by decide, by decide, by decide, ?_⟩
  rw [take2_1]
  intro H7 R7 x7
  rw [cat0] at R7
  obtain ⟨dp3, hp3⟩ := R3.ob
  have fr : ∀ x, H3 x = none → x ∉ [p, q2] ∧ x ≠ qh := fun x e => ⟨(fun z => by
    rcases List.mem_cons.mp z with z | z
    · rw [z, hp3] at e; cases e
    · rw [List.mem_singleton.mp z, R3.sg] at e; cases e), (fun z => by rw [z, hqh3] at e; cases e)⟩
  have fM : ∀ m ∈ [pb, b2], m ∈ [qh] ∨ H3 m = none := fun m hm => .inr (by
    rcases List.mem_cons.mp hm with z | z
    · rw [z]; exact npb3
    · rw [List.mem_singleton.mp z]; exact nb23)
  have hM : qh ∉ [pb, b2] := fun z => by
    rcases List.mem_cons.mp z with z | z
    · exact (fr _ npb3).2 z.symm
    · exact (fr _ nb23).2 (List.mem_singleton.mp z).symm
  have x37 : ExM [] [qh] H3 H7 := exm_trans (exm_trans ((ExM.refl (τ := []) [qh] H3).grow x35) x6 fM) x7 fM
  have hqh7 := x7.st _ _ hM (x6.st _ _ hM (x35.ex _ _ hqh3 rfl) rfl) rfl
  refine ⟨_, rfl, .inl ⟨rfl, _, SqL.of hqh7⟩, qh, _, _, rfl, rfl, hqh7, line_lt (by rw [List.length_map]; omega), ?_⟩
  have x78 : ExM [] [qh] H7 (upd H7 qh (.lst (ws.map V.str ++ [V.str "0"]))) := (ExM.refl (τ := []) [qh] H7).put (.inr List.mem_cons_self) hqh7 rfl nofun
  refine ⟨_, rfl, .inl ⟨rfl, _, SqL.of upd_same⟩, qh, _, rfl, rfl, upd_same, ?_⟩
  have x79 := x78.put (o := .lst (ws.map V.str ++ [V.str "0"])) (o' := .lst (ws.map V.str ++ [V.str "0"]).reverse) (.inr List.mem_cons_self) upd_same rfl nofun
  generalize upd (upd H7 qh (.lst (ws.map V.str ++ [V.str "0"]))) qh (.lst (ws.map V.str ++ [V.str "0"]).reverse) = H9 at x79 ⊢
  have x39 : ExM [] [qh] H3 H9 := exm_trans x37 x79 fun m hm => .inl hm
  have nh : ∀ x, x ≠ qh → x ∉ [qh] := fun x e z => e (List.mem_singleton.mp z)
  have R9 := rdAt_x x39 R3 (nh _ nph) (nh _ n1h) (nh _ n2h)
  have B9 := rdAt_x x79 R7 (nh _ (fr _ npb3).2) (nh _ (fr _ nb13).2) (nh _ (fr _ nb23).2)
  have w9 := x39.st _ _ (nh _ nwh) hqw3 rfl
  have g9 : Gx [] H H9 := exm_gx g3 x39 fun m hm => by rw [List.mem_singleton.mp hm]; exact n02
  have nwm : qw ∉ [p, q2] := fun z => by
    rcases List.mem_cons.mp z with z | z
    · exact nwp z
    · exact nwq (List.mem_singleton.mp z)
  refine ⟨Nat.zero_le _, fun qs nqs => ⟨Nat.zero_le _, fun qd nqd => ?_⟩⟩
  refine ⟨_, rfl, _, rfl, a, _, rfl, ex_l ((g9.trans (Gx.new nqs)).trans (Gx.new nqd)).ex hS, fun sl nsl => ?_⟩
  have A0 := at13_start (K := K) (xs := cutV (ns.map V.int) (some 6) none) g9 R9 B9 w9 np0 nq20 (fr _ npb3).1 (fr _ nb13).1 (fr _ nb23).1 nwm nqs nqd nsl
  have hlc : (cutV (ns.map V.int) (some 6) none).length ≤ 63 := by
    unfold cutV
    rw [List.length_take, List.length_drop, List.length_map]
    omega
  have hxi : ∀ x ∈ cutV (ns.map V.int) (some 6) none, ∃ c : Int, x = .int c := fun x hx => by
    obtain ⟨c, _, e⟩ := List.mem_map.mp (List.mem_of_mem_drop (List.mem_of_mem_take hx))
    exact ⟨c, e.symm⟩
  generalize cutV (ns.map V.int) (some 6) none = xs at A0 hlc hxi ⊢
  refine ⟨sl, rfl, ⟨_, SqL.of upd_same⟩, ?_⟩
  generalize upd (upd (upd H9 qs (.lst [])) qd (.lst [])) sl (.lst xs) = G0 at A0 ⊢
  clear x39 x79 x78 x37 x35 R7 R5 R6 x6 x7 fM hM fr nqs nqd nsl
  refine for_list (K := K) (a := sl) (xs := xs) (fun i σ H' => ∃ b ss q2 qs us ds x8 x9 x10, σ = [some (.ref a), some (.ref qw), some (.ref qh), some (.ref p), some (.ref pb), some (.str b), some (.ref qs), some (.ref qd), x8, x9, x10, none, none] ∧ At13 K C H H' qw p pb b1 b2 ws sl xs i i b ss ss q1 q2 qs qd us ds) ⟨Str.empty, [], q2, qs, [], [], none, none, none, rfl, A0⟩ (fun i σ H' _ ⟨b, ss, q2, qs, us, ds, x8, x9, x10, _, A⟩ => SqL.of (hid_ex _ _ A.l rfl)) ?_ ?_
  · rintro i x σ H' hx ⟨b, ss, q2, qs, us, ds, x8, x9, x10, rfl, A⟩
    have hi : i < xs.length := (List.getElem?_eq_some_iff.mp hx).1
    obtain ⟨c, rfl⟩ := hxi x (List.mem_of_getElem? hx)
    obtain ⟨dxp, hxp⟩ := A.R.ob
    refine ⟨_, rfl, _, _, rfl, rfl, (by show (0 : Int) < 40; decide), rfl, _, rfl, ?_⟩
    refine ite_two ?_ ?_
    · refine ⟨_, rfl, p, dxp, _, rfl, hxp, rdF_no _ _ _ (by decide +kernel) (by decide +kernel) (by decide +kernel), p, q1, q2, ws, b, ss, rfl, A.R, fun H2 q nq R2 xa ya => ?_⟩
      refine ⟨rfl, _, rfl, iteFc rfl ?_⟩
      have A2 := A.again (i' := i + 1) nq R2 xa ya
      refine ⟨Nat.zero_le _, fun q' nq' => ?_⟩
      have A3 := A2.sign_new (s1 := []) nq'
      refine ⟨_, rfl, _, rfl, _, rfl, _, rfl, _, rfl, ?_⟩
      dsimp only [tNil]
      refine stands_go A3 (by omega) (by omega) fun H3 us' ds' A4 => ⟨true, rfl, iteF ?_⟩
      exact ⟨Str.empty, [], q, q', us', ds', _, _, _, rfl, A4⟩
    · have hbl := A.bl
      obtain ⟨d, hd, hbi⟩ := M_law_bit_ok (c := c) hg A.bo (by omega)
      refine ⟨_, rfl, _, rfl, _, rfl, ?_⟩
      show spP K [] (cvOf mg) 3 M_law_bit _ _ _ _
      refine spP_of (O := [p, q2, qd]) (args := [.bw (ws.map PyData.str), .fz (.str b), .fz (.int c)]) rfl A.al (.cons ⟨qw, _, rfl, SqL.of (hid_ex _ _ A.w rfl), dp_strs ws⟩ (.cons (.str b) (.cons (.int c) .nil))) hbi fun vb H2 x2 rb => ?_
      have rb : Dp K (hid [p, q2, qd] H2) vb d := rb
      have A2 := A.grow x2
      refine ⟨_, rfl, _, rfl, _, rfl, ?_⟩
      show spP K [] (cvOf mg) 3 M_law_due_4 _ _ _ _
      refine spP_of (O := [p, q2, qd]) (args := [.bw (ws.map PyData.str), .fz (.str b), .fz d]) rfl A2.al (.cons ⟨qw, _, rfl, SqL.of (hid_ex _ _ A2.w rfl), dp_strs ws⟩ (.cons (.str b) (.cons rb .nil))) (M_law_due_4_ok hg A.bo (by omega) hd) fun vu H3 x3 ru => ?_
      have ru : Dp K (hid [p, q2, qd] H3) vu (.tuple [(dueO ws b d).1, .str (dueO ws b d).2]) := ru
      have A3 := A2.grow x3
      obtain ⟨pt, vs, rfl, st, at_⟩ := dp_tup ru
      obtain ⟨v1, rfl, h1⟩ : ∃ v1, vs = [v1, .str (dueO ws b d).2] ∧ Dp K (hid [p, q2, qd] H3) v1 (dueO ws b d).1 := by
        cases at_ with
        | cons h1 r =>
          cases r with
          | cons h2 r =>
            cases r
            have e2 := dp_str h2
            subst e2
            exact ⟨_, rfl, h1⟩
      refine ⟨_, rfl, _, rfl, ?_⟩
      dsimp only [tNil]
      refine told_go A3 (Dp.mono (hid_mono x3) rb) hd (by omega) (by omega) fun v' H4 ss' rt xe A4 td => ?_
      refine ⟨_, rfl, pt, _, _, v1, rfl, rfl, ex_t (xe.trans hid_ex) st, rfl, ?_⟩
      show spP K [] (cvOf mg) 2 M_law_alike _ _ _ _
      refine spP_of (O := [p, q2, qd]) (args := [.fz (dueO ws b d).1, .fz (dueO ws b d).1]) rfl A4.al (.cons rt (.cons (Dp.mono xe h1) .nil)) (alike_due td) fun v H5 x5 rv => ?_
      cases (show Dp K (hid [p, q2, qd] H5) v (.bool true) from rv)
      have A5 := A4.grow x5
      have xe5 : Ex (hid [p, q2, qd] H3) H5 := (xe.trans (hid_mono x5)).trans hid_ex
      have st5 := ex_t xe5 st
      refine ⟨true, rfl, iteF ?_⟩
      refine ⟨_, rfl, pt, _, _, _, rfl, rfl, st5, rfl, ?_⟩
      rcases id td with ⟨k, hk, rfl⟩ | ⟨hk, rfl⟩ | ⟨hk, rfl⟩
      · refine ⟨_, rfl, pt, _, _, v1, rfl, rfl, st5, rfl, v1, .ty "int", .type (tyName (dueO ws b d).1), .type "int", true, rfl, .ty _, dp_ty (Dp.mono xe5 h1), kit_ty (by rw [hk]; show kitB "int" "int" = some true; decide +kernel), ?_⟩
        refine ⟨true, rfl, iteT ?_⟩
        rw [hk] at h1
        cases h1
        have e1 : ss.map V.int ++ [V.int (k : Int)] = (ss ++ [(k : Int)]).map V.int := by rw [List.map_append]; rfl
        have hsn := A5.sn
        refine ⟨_, rfl, _, rfl, pt, _, _, _, rfl, rfl, st5, rfl, line_le (by show 1 ≤ 1000000; decide), fun l nl => ?_⟩
        have A6 := A5.grow (Gx.new (o := .lst [V.int (k : Int)]) nl)
        refine ⟨qs, l, _, _, rfl, rfl, hid_ex _ _ A6.s rfl, upd_same, line_le (by rw [List.length_map, List.length_singleton]; rw [List.length_append, List.length_singleton] at hsn; omega), fun q' nq' => ?_⟩
        rw [e1]
        have A7 := A6.sign_new (s1 := ss ++ [(k : Int)]) nq'
        refine ⟨_, rfl, _, rfl, _, rfl, _, rfl, _, rfl, ?_⟩
        dsimp only [tNil]
        refine stands_go A7 (by omega) (by omega) fun H6 us' ds' A8 => ⟨true, rfl, iteF ?_⟩
        exact ⟨_, _, q2, q', us', ds', _, _, _, rfl, A8⟩
      · refine ⟨_, rfl, pt, _, _, v1, rfl, rfl, st5, rfl, v1, .ty "int", .type (tyName (dueO ws b d).1), .type "int", false, rfl, .ty _, dp_ty (Dp.mono xe5 h1), kit_ty (by rw [hk]; show kitB "NoneType" "int" = some false; decide +kernel), ?_⟩
        refine ⟨false, rfl, iteF ?_⟩
        refine ⟨_, rfl, _, rfl, _, rfl, _, rfl, _, rfl, ?_⟩
        dsimp only [tNil]
        refine stands_go A5 (by omega) (by omega) fun H6 us' ds' A6 => ⟨true, rfl, iteF ?_⟩
        exact ⟨_, _, q2, qs, us', ds', _, _, _, rfl, A6⟩
      · refine ⟨_, rfl, pt, _, _, v1, rfl, rfl, st5, rfl, v1, .ty "int", .type (tyName (dueO ws b d).1), .type "int", false, rfl, .ty _, dp_ty (Dp.mono xe5 h1), kit_ty (by rw [hk]; show kitB "tuple" "int" = some false; decide +kernel), ?_⟩
        refine ⟨false, rfl, iteF ?_⟩
        refine ⟨_, rfl, _, rfl, _, rfl, _, rfl, _, rfl, ?_⟩
        dsimp only [tNil]
        refine stands_go A5 (by omega) (by omega) fun H6 us' ds' A6 => ⟨true, rfl, iteF ?_⟩
        exact ⟨_, _, q2, qs, us', ds', _, _, _, rfl, A6⟩
  · rintro σ H' ⟨b, ss, q2, qs, us, ds, x8, x9, x10, rfl, A⟩
    refine ⟨_, rfl, qd, rfl, ⟨_, SqL.of A.d⟩, fun D nD => ?_⟩
    have hun := A.un
    refine lc_list (K := K) (a := qd) (xs := us) (fun i H2 => Gx [] (upd H' D (.lst [])) H2 ∧ H2 D = some (.lst [])) ⟨Gx.refl _, upd_same⟩ (fun i H2 _ e => SqL.of (e.1.ex _ _ (by rw [upd_ne (ne_of_none A.d nD)]; exact A.d) rfl)) ?_ ?_
    · rintro i x H2 hx ⟨g, eD⟩
      obtain ⟨d, hd, hxd⟩ := A.u.getV hx
      obtain ⟨ys, rfl⟩ := A.pr d (List.mem_of_getElem? hd)
      obtain ⟨t2, vs, rfl, st, at_⟩ := dp_tup hxd
      have xg : Ex (hid [p, q2, qd] H') H2 := Ex.trans hid_ex (((Gx.new nD).trans g).ex)
      cases at_ with
      | cons h1 r =>
        cases r with
        | cons h2 r =>
          cases r
          refine ⟨t2, _, rfl, ex_t xg st, rfl, ?_⟩
          refine ⟨_, _, rfl, _, _, rfl, rfl, rfl, _, rfl, _, rfl, _, _, Dp.mono xg h1, Dp.mono xg h2, shaped_of (shp_ints 0 ys), shaped_of (shp_ints 0 ys), _, rfl, iteFc (by rw [SeqAt.eqv_refl _ (shp_ints 0 ys).1]; rfl) ⟨g, eD⟩⟩
    · rintro H2 ⟨g, eD⟩
      refine ⟨Nat.zero_le _, fun D2 nD2 => ?_⟩
      refine ⟨.list [], .list [], .lst (SqL.of (by rw [upd_ne (ne_of_none eD nD2)]; exact eD)) .nil, .lst (SqL.of upd_same) .nil, rfl, rfl, ?_⟩
      refine ⟨_, rfl, iteFc rfl ?_⟩
      have A2 := A.grow (((Gx.new nD).trans g).trans (Gx.new nD2 (o := .lst [])))
      generalize upd H2 D2 (.lst []) = H3 at A2 ⊢
      have Rb := rdAt_un A2.B
      obtain ⟨dyb, hyb⟩ := Rb.ob
      refine ⟨_, rfl, pb, dyb, _, rfl, hyb, rdF_no _ _ _ (by decide +kernel) (by decide +kernel) (by decide +kernel), pb, b1, b2, ws2, "1", [0], rfl, Rb, rfl, _, rfl, iteTc (by simp) ?_⟩
      refine ⟨_, rfl, pb, dyb, _, rfl, hyb, rdF_no _ _ _ (by decide +kernel) (by decide +kernel) (by decide +kernel), pb, b1, b2, ws2, "1", [0], rfl, Rb, fun l1 nl1 => ?_⟩
      refine ⟨line_le (by show 1 ≤ 1000000; decide), fun l2 nl2 => ?_⟩
      refine ⟨.list ([(0 : Int)].map PyData.int), .list ([(0 : Int)].map PyData.int), .lst (SqL.of (by rw [upd_ne (ne_of_none upd_same nl2)]; exact upd_same)) (dp_ints [0]), .lst (SqL.of upd_same) (dp_ints [0]), shaped_of (shp_ints 0 [0]), shaped_of (shp_ints 0 [0]), _, rfl, iteTc (by rw [SeqAt.eqv_refl _ (shp_ints 0 [0]).1]) ?_⟩
      have A3 := (A2.grow (Gx.new nl1)).grow (Gx.new nl2 (o := .lst [V.int 0]))
      obtain ⟨dyp, hyp⟩ := A3.R.ob
      refine ⟨_, rfl, p, dyp, _, rfl, hyp, rdF_no _ _ _ (by decide +kernel) (by decide +kernel) (by decide +kernel), p, q1, q2, ws, b, ss, rfl, A3.R, fun l3 nl3 => ?_⟩
      have A4 := A3.grow (Gx.new nl3 (o := .lst (ss.map V.int)))
      obtain ⟨dyp, hyp⟩ := A4.R.ob
      refine ⟨_, rfl, .list (ss.map PyData.int), .list (ss.map PyData.int), .lst (SqL.of upd_same) (dp_ints ss), .lst (SqL.of (hid_ex _ _ A4.s rfl)) (dp_ints ss), shaped_of (shp_ints 0 ss), shaped_of (shp_ints 0 ss), _, rfl, iteTc (by rw [SeqAt.eqv_refl _ (shp_ints 0 ss).1]) ?_⟩
      refine ⟨_, rfl, p, dyp, _, rfl, hyp, rdF_no _ _ _ (by decide +kernel) (by decide +kernel) (by decide +kernel), p, q1, q2, ws, b, ss, rfl, A4.R, _, rfl, rfl, ?_⟩
      show Q (.bl (decide (V.str b = V.str b))) _
      rw [decide_eq_true rfl]
      exact h _

end
structure HereF (K : PySem.W.Frag) (x : Str) (st : Stmt) : Prop where
  ex : ∃ f fd, PySem.W.nsIn K mainGlobals x = some (some (.ref f)) ∧ Fun K x x st f fd
theorem here_of {K : PySem.W.Frag} {x : Str} {st : Stmt} {f : Addr} {od an : Option Addr} {sl : Array (Option Value)} {oc kV dc pm cd ct : Value} (a : PySem.W.nsIn K mainGlobals x = some (some (.ref f)))
    (l : K.lookup f = some ⟨oc, od, .func (PySem.W.fnOf x x (defArgs st) (defBody st) (defScope st) .none kV dc pm an cd ct), sl⟩) (c : PySem.W.codeIn K cd x = true) (k : PySem.W.keepIn K (.ref f) = true) : HereF K x st := ⟨f, _, a, fun_mk l c k⟩
theorem hereC_of {K : PySem.W.Frag} {x : Str} {i : Int} {t : Tok} (a : PySem.W.nsIn K mainGlobals x = some (some (.int i t))) : ∃ t, PySem.W.nsIn K mainGlobals x = some (some (.int i t)) := ⟨t, a⟩
structure HereX (K : PySem.W.Frag) (n : String) : Prop where
  ex : ∃ f, PySem.W.nsIn K mainGlobals (Str.ofString n) = some (some (.ref f)) ∧ PySem.W.excIn K f [.type "ValueError", .type "Exception", .type "BaseException", .type "object"] "ValueError.__new__" = true ∧ PySem.W.keepIn K (.ref f) = true ∧ PySem.W.subIn K (.ref f) (.type "BaseException") = some true ∧ PySem.W.typeIn K (.ref f) = some (.type "type")
theorem hereX_of {K : PySem.W.Frag} {n : String} {f : Addr} (a : PySem.W.nsIn K mainGlobals (Str.ofString n) = some (some (.ref f))) (b : PySem.W.excIn K f [.type "ValueError", .type "Exception", .type "BaseException", .type "object"] "ValueError.__new__" = true) (c : PySem.W.keepIn K (.ref f) = true) (d : PySem.W.subIn K (.ref f) (.type "BaseException") = some true) (e : PySem.W.typeIn K (.ref f) = some (.type "type")) : HereX K n := ⟨f, a, b, c, d, e⟩
theorem HereX.cls {K : PySem.W.Frag} {h : Heap} {mg : Str → Option Value} {n : String} (X : K.In h) (G : h.Ns mainGlobals mg) (e : HereX K n) : ∃ A, XCls K mg n A := by
  obtain ⟨f, a, b, c, d, t⟩ := e.ex
  exact ⟨f, PySem.W.mg_of X G a, b, c, d, t⟩
structure TopK (K : PySem.W.Frag) : Prop where
  z_ValueError : PySem.W.nsIn K mainGlobals "ValueError" = some none
  z_all : PySem.W.nsIn K mainGlobals "all" = some none
  z_any : PySem.W.nsIn K mainGlobals "any" = some none
  z_bool : PySem.W.nsIn K mainGlobals "bool" = some none
  z_int : PySem.W.nsIn K mainGlobals "int" = some none
  z_isinstance : PySem.W.nsIn K mainGlobals "isinstance" = some none
  z_len : PySem.W.nsIn K mainGlobals "len" = some none
  z_list : PySem.W.nsIn K mainGlobals "list" = some none
  z_min : PySem.W.nsIn K mainGlobals "min" = some none
  z_range : PySem.W.nsIn K mainGlobals "range" = some none
  z_str : PySem.W.nsIn K mainGlobals "str" = some none
  z_tuple : PySem.W.nsIn K mainGlobals "tuple" = some none
  c_MOST_BOUND : ∃ t, PySem.W.nsIn K mainGlobals "MOST_BOUND" = some (some (.int 12 t))
  c_MOST_SIGNS : ∃ t, PySem.W.nsIn K mainGlobals "MOST_SIGNS" = some (some (.int 24 t))
  e_BadBits : HereX K "BadBits"
  e_BadWords : HereX K "BadWords"
  y_NoWeights : HereE K "NoWeights"
  y_BadWeight : HereE K "BadWeight"
  y_BadBound : HereE K "BadBound"
  y_NoRoom : HereE K "NoRoom"
  y_BadLengths : HereE K "BadLengths"
  y_BadWords : HereE K "BadWords"
  y_BadBits : HereE K "BadBits"
  y_NoSign : HereE K "NoSign"
  p_BadBits_NoWeights : HereP K "BadBits" "NoWeights"
  p_BadBits_BadWeight : HereP K "BadBits" "BadWeight"
  p_BadBits_BadBound : HereP K "BadBits" "BadBound"
  p_BadBits_NoRoom : HereP K "BadBits" "NoRoom"
  p_BadBits_BadLengths : HereP K "BadBits" "BadLengths"
  p_BadBits_BadWords : HereP K "BadBits" "BadWords"
  p_BadBits_BadBits : HereP K "BadBits" "BadBits"
  p_BadBits_NoSign : HereP K "BadBits" "NoSign"
  p_BadBound_NoWeights : HereP K "BadBound" "NoWeights"
  p_BadBound_BadWeight : HereP K "BadBound" "BadWeight"
  p_BadBound_BadBound : HereP K "BadBound" "BadBound"
  p_BadBound_NoRoom : HereP K "BadBound" "NoRoom"
  p_BadBound_BadLengths : HereP K "BadBound" "BadLengths"
  p_BadBound_BadWords : HereP K "BadBound" "BadWords"
  p_BadBound_BadBits : HereP K "BadBound" "BadBits"
  p_BadBound_NoSign : HereP K "BadBound" "NoSign"
  p_BadLengths_NoWeights : HereP K "BadLengths" "NoWeights"
  p_BadLengths_BadWeight : HereP K "BadLengths" "BadWeight"
  p_BadLengths_BadBound : HereP K "BadLengths" "BadBound"
  p_BadLengths_NoRoom : HereP K "BadLengths" "NoRoom"
  p_BadLengths_BadLengths : HereP K "BadLengths" "BadLengths"
  p_BadLengths_BadWords : HereP K "BadLengths" "BadWords"
  p_BadLengths_BadBits : HereP K "BadLengths" "BadBits"
  p_BadLengths_NoSign : HereP K "BadLengths" "NoSign"
  p_BadWeight_NoWeights : HereP K "BadWeight" "NoWeights"
  p_BadWeight_BadWeight : HereP K "BadWeight" "BadWeight"
  p_BadWeight_BadBound : HereP K "BadWeight" "BadBound"
  p_BadWeight_NoRoom : HereP K "BadWeight" "NoRoom"
  p_BadWeight_BadLengths : HereP K "BadWeight" "BadLengths"
  p_BadWeight_BadWords : HereP K "BadWeight" "BadWords"
  p_BadWeight_BadBits : HereP K "BadWeight" "BadBits"
  p_BadWeight_NoSign : HereP K "BadWeight" "NoSign"
  p_BadWords_NoWeights : HereP K "BadWords" "NoWeights"
  p_BadWords_BadWeight : HereP K "BadWords" "BadWeight"
  p_BadWords_BadBound : HereP K "BadWords" "BadBound"
  p_BadWords_NoRoom : HereP K "BadWords" "NoRoom"
  p_BadWords_BadLengths : HereP K "BadWords" "BadLengths"
  p_BadWords_BadWords : HereP K "BadWords" "BadWords"
  p_BadWords_BadBits : HereP K "BadWords" "BadBits"
  p_BadWords_NoSign : HereP K "BadWords" "NoSign"
  p_NoRoom_NoWeights : HereP K "NoRoom" "NoWeights"
  p_NoRoom_BadWeight : HereP K "NoRoom" "BadWeight"
  p_NoRoom_BadBound : HereP K "NoRoom" "BadBound"
  p_NoRoom_NoRoom : HereP K "NoRoom" "NoRoom"
  p_NoRoom_BadLengths : HereP K "NoRoom" "BadLengths"
  p_NoRoom_BadWords : HereP K "NoRoom" "BadWords"
  p_NoRoom_BadBits : HereP K "NoRoom" "BadBits"
  p_NoRoom_NoSign : HereP K "NoRoom" "NoSign"
  p_NoSign_NoWeights : HereP K "NoSign" "NoWeights"
  p_NoSign_BadWeight : HereP K "NoSign" "BadWeight"
  p_NoSign_BadBound : HereP K "NoSign" "BadBound"
  p_NoSign_NoRoom : HereP K "NoSign" "NoRoom"
  p_NoSign_BadLengths : HereP K "NoSign" "BadLengths"
  p_NoSign_BadWords : HereP K "NoSign" "BadWords"
  p_NoSign_BadBits : HereP K "NoSign" "BadBits"
  p_NoSign_NoSign : HereP K "NoSign" "NoSign"
  p_NoWeights_NoWeights : HereP K "NoWeights" "NoWeights"
  p_NoWeights_BadWeight : HereP K "NoWeights" "BadWeight"
  p_NoWeights_BadBound : HereP K "NoWeights" "BadBound"
  p_NoWeights_NoRoom : HereP K "NoWeights" "NoRoom"
  p_NoWeights_BadLengths : HereP K "NoWeights" "BadLengths"
  p_NoWeights_BadWords : HereP K "NoWeights" "BadWords"
  p_NoWeights_BadBits : HereP K "NoWeights" "BadBits"
  p_NoWeights_NoSign : HereP K "NoWeights" "NoSign"
  k_all_NoWeights : HereC K "NoWeights" "CodeError"
  k_all_BadWeight : HereC K "BadWeight" "CodeError"
  k_all_BadBound : HereC K "BadBound" "CodeError"
  k_all_NoRoom : HereC K "NoRoom" "CodeError"
  k_all_BadLengths : HereC K "BadLengths" "CodeError"
  k_all_BadWords : HereC K "BadWords" "CodeError"
  k_all_BadBits : HereC K "BadBits" "CodeError"
  k_all_NoSign : HereC K "NoSign" "CodeError"
  r_Reader : HereR K
  f_is_word : HereF K "is_word" s_is_word
  f_need_words : HereF K "need_words" s_need_words
  f__law_cell : HereF K "_law_cell" s__law_cell
  f__law_word_of : HereF K "_law_word_of" s__law_word_of
  f__law_words : HereF K "_law_words" s__law_words
  f__law_due : HereF K "_law_due" s__law_due
  f__law_told : HereF K "_law_told" s__law_told
  f__law_alike : HereF K "_law_alike" s__law_alike
  f__law_bit : HereF K "_law_bit" s__law_bit
  f__law_stands : HereF K "_law_stands" s__law_stands
  f_law : HereF K "law" s_law
theorem TopK.tops {K : PySem.W.Frag} {h : Heap} {mg : Str → Option Value} (T : TopK K) (X : K.In h) (G : h.Ns mainGlobals mg) : Tops K mg := ⟨PySem.W.mg_none_of X G T.z_ValueError, PySem.W.mg_none_of X G T.z_all, PySem.W.mg_none_of X G T.z_any, PySem.W.mg_none_of X G T.z_bool, PySem.W.mg_none_of X G T.z_int, PySem.W.mg_none_of X G T.z_isinstance, PySem.W.mg_none_of X G T.z_len, PySem.W.mg_none_of X G T.z_list, PySem.W.mg_none_of X G T.z_min, PySem.W.mg_none_of X G T.z_range, PySem.W.mg_none_of X G T.z_str, PySem.W.mg_none_of X G T.z_tuple, T.c_MOST_BOUND.imp fun _ e => PySem.W.mg_of X G e, T.c_MOST_SIGNS.imp fun _ e => PySem.W.mg_of X G e, T.e_BadBits.cls X G, T.e_BadWords.cls X G, is8_of X G (all8 T.y_NoWeights T.y_BadWeight T.y_BadBound T.y_NoRoom T.y_BadLengths T.y_BadWords T.y_BadBits T.y_NoSign), isT_of X G (all8 T.p_BadBits_NoWeights T.p_BadBits_BadWeight T.p_BadBits_BadBound T.p_BadBits_NoRoom T.p_BadBits_BadLengths T.p_BadBits_BadWords T.p_BadBits_BadBits T.p_BadBits_NoSign), isT_of X G (all8 T.p_BadBound_NoWeights T.p_BadBound_BadWeight T.p_BadBound_BadBound T.p_BadBound_NoRoom T.p_BadBound_BadLengths T.p_BadBound_BadWords T.p_BadBound_BadBits T.p_BadBound_NoSign), isT_of X G (all8 T.p_BadLengths_NoWeights T.p_BadLengths_BadWeight T.p_BadLengths_BadBound T.p_BadLengths_NoRoom T.p_BadLengths_BadLengths T.p_BadLengths_BadWords T.p_BadLengths_BadBits T.p_BadLengths_NoSign), isT_of X G (all8 T.p_BadWeight_NoWeights T.p_BadWeight_BadWeight T.p_BadWeight_BadBound T.p_BadWeight_NoRoom T.p_BadWeight_BadLengths T.p_BadWeight_BadWords T.p_BadWeight_BadBits T.p_BadWeight_NoSign), isT_of X G (all8 T.p_BadWords_NoWeights T.p_BadWords_BadWeight T.p_BadWords_BadBound T.p_BadWords_NoRoom T.p_BadWords_BadLengths T.p_BadWords_BadWords T.p_BadWords_BadBits T.p_BadWords_NoSign), isT_of X G (all8 T.p_NoRoom_NoWeights T.p_NoRoom_BadWeight T.p_NoRoom_BadBound T.p_NoRoom_NoRoom T.p_NoRoom_BadLengths T.p_NoRoom_BadWords T.p_NoRoom_BadBits T.p_NoRoom_NoSign), isT_of X G (all8 T.p_NoSign_NoWeights T.p_NoSign_BadWeight T.p_NoSign_BadBound T.p_NoSign_NoRoom T.p_NoSign_BadLengths T.p_NoSign_BadWords T.p_NoSign_BadBits T.p_NoSign_NoSign), isT_of X G (all8 T.p_NoWeights_NoWeights T.p_NoWeights_BadWeight T.p_NoWeights_BadBound T.p_NoWeights_NoRoom T.p_NoWeights_BadLengths T.p_NoWeights_BadWords T.p_NoWeights_BadBits T.p_NoWeights_NoSign), cat_all X G (all8 T.k_all_NoWeights T.k_all_BadWeight T.k_all_BadBound T.k_all_NoRoom T.k_all_BadLengths T.k_all_BadWords T.k_all_BadBits T.k_all_NoSign)⟩
theorem all_mk {l : PySem.W.OpenLaw} {w : World} {K : PySem.W.Frag} {h : Heap} {mg : Str → Option Value} {fa : Addr} (X : K.In h) (G : h.Ns mainGlobals mg) (hfa : mg "law" = some (.ref fa)) (T : TopK K) :
    ∃ fd : FuncData, (∀ (s : Shared) (v : Value), BindsTo s fd ⟨[v], []⟩ [("_law_script", v)]) ∧ ∀ base : Heap, K.In base → base.Ns mainGlobals mg → FnOk l.prog w K mg base (L2.CX l.prog w) 8 fa fd ["_law_script"] (spLaw K) := by
  have tp := T.tops X G
  obtain ⟨a_is_word, b_is_word, n_is_word, u_is_word⟩ := T.f_is_word.ex
  obtain ⟨a_need_words, b_need_words, n_need_words, u_need_words⟩ := T.f_need_words.ex
  obtain ⟨a__law_cell, b__law_cell, n__law_cell, u__law_cell⟩ := T.f__law_cell.ex
  obtain ⟨a__law_word_of, b__law_word_of, n__law_word_of, u__law_word_of⟩ := T.f__law_word_of.ex
  obtain ⟨a__law_words, b__law_words, n__law_words, u__law_words⟩ := T.f__law_words.ex
  obtain ⟨a__law_due, b__law_due, n__law_due, u__law_due⟩ := T.f__law_due.ex
  obtain ⟨a__law_told, b__law_told, n__law_told, u__law_told⟩ := T.f__law_told.ex
  obtain ⟨a__law_alike, b__law_alike, n__law_alike, u__law_alike⟩ := T.f__law_alike.ex
  obtain ⟨a__law_bit, b__law_bit, n__law_bit, u__law_bit⟩ := T.f__law_bit.ex
  obtain ⟨a__law_stands, b__law_stands, n__law_stands, u__law_stands⟩ := T.f__law_stands.ex
  obtain ⟨fl, fd, nl, ul⟩ := T.f_law.ex
  cases hfa.symm.trans (PySem.W.mg_of X G nl)
  obtain ⟨oc, od, kV, dc, pm, an, cd, ct, sl, rfl, lk, cq⟩ := ul.ex
  refine ⟨PySem.W.fnOf "law" "law" (defArgs s_law) (defBody s_law) (defScope s_law) .none kV dc pm an cd ct, fun s v => .of_eq rfl, fun base hK hN => ?_⟩
  have D_is_word : Dfn l.prog w K mg base [] (cvOf mg) 1 "is_word" 1 M_is_word := d_is_word tp u_is_word (PySem.W.mg_of X G n_is_word)
  have D_need_words : Dfn l.prog w K mg base [] (cvOf mg) 2 "need_words" 1 M_need_words := d_need_words tp u_need_words (PySem.W.mg_of X G n_need_words) D_is_word
  have D_Reader : RdOk l.prog w K mg base [] 2 M_need_words := T.r_Reader.ok tp X G D_need_words
  have D__law_cell : Dfn l.prog w K mg base [] (cvOf mg) 1 "_law_cell" 2 M_law_cell := d__law_cell tp u__law_cell (PySem.W.mg_of X G n__law_cell)
  have D__law_word_of : DfnE l.prog w K mg base [] 1 "_law_word_of" M_law_word_of := d__law_word_of tp u__law_word_of (PySem.W.mg_of X G n__law_word_of)
  have D__law_words : Dfn l.prog w K mg base [] (cvOf mg) 2 "_law_words" 2 M_law_words := d__law_words tp u__law_words (PySem.W.mg_of X G n__law_words) D__law_cell
  have D__law_due : Dfn l.prog w K mg base [] (cvOf mg) 1 "_law_due" 3 M_law_due_4 := d__law_due tp u__law_due (PySem.W.mg_of X G n__law_due)
  have D__law_alike : Dfn l.prog w K mg base [] (cvOf mg) 1 "_law_alike" 2 M_law_alike := d__law_alike tp u__law_alike (PySem.W.mg_of X G n__law_alike)
  have D__law_bit : Dfn l.prog w K mg base [] (cvOf mg) 1 "_law_bit" 3 M_law_bit := d__law_bit tp u__law_bit (PySem.W.mg_of X G n__law_bit)
  exact d_law (P := l.prog) (w := w) (base := base) tp ul u__law_told (PySem.W.mg_of X G n__law_told) u__law_stands (PySem.W.mg_of X G n__law_stands) D_Reader D__law_word_of D__law_words D__law_due D__law_alike D__law_bit
end PL.L
open PySem PySem.W PyProof.Rows
set_option maxHeartbeats 0 in
theorem PySem.Challenge.cw_shortlimit_k13_a_reader_holds : PySem.Challenge.rw_shortlimit_k13_a_reader.Holds := by
  w_on; o_law; k_head; (case hw => w_witness2)
  k_fill
  refine L2.walk_of (l := PySem.Challenge.rw_shortlimit_k13_a_reader) (n := 63) (k := 8) (x := "_law_script") (CX := fun w => L2.CX PySem.Challenge.rw_shortlimit_k13_a_reader.prog w) (sp := fun w => PL.L.spLaw _) rfl (by decide) rfl ⟨rfl, by decide, by decide⟩ (fun w h Y => PySem.W.kIn_of Y) ?F (fun _ _ a ns hl _ hS => ⟨a, ns, rfl, hS, hl, fun _ => rfl⟩) (fun _ _ _ _ _ h => PL.cx_false h)
  case F =>
    intro w mg fa h KX G hmg
    refine' PL.L.all_mk KX G hmg ?T
    refine' PL.L.TopK.mk ?z_ValueError ?z_all ?z_any ?z_bool ?z_int ?z_isinstance ?z_len ?z_list ?z_min ?z_range ?z_str ?z_tuple ?c_MOST_BOUND ?c_MOST_SIGNS ?e_BadBits ?e_BadWords ?y_NoWeights ?y_BadWeight ?y_BadBound ?y_NoRoom ?y_BadLengths ?y_BadWords ?y_BadBits ?y_NoSign ?p_BadBits_NoWeights ?p_BadBits_BadWeight ?p_BadBits_BadBound ?p_BadBits_NoRoom ?p_BadBits_BadLengths ?p_BadBits_BadWords ?p_BadBits_BadBits ?p_BadBits_NoSign ?p_BadBound_NoWeights ?p_BadBound_BadWeight ?p_BadBound_BadBound ?p_BadBound_NoRoom ?p_BadBound_BadLengths ?p_BadBound_BadWords ?p_BadBound_BadBits ?p_BadBound_NoSign ?p_BadLengths_NoWeights ?p_BadLengths_BadWeight ?p_BadLengths_BadBound ?p_BadLengths_NoRoom ?p_BadLengths_BadLengths ?p_BadLengths_BadWords ?p_BadLengths_BadBits ?p_BadLengths_NoSign ?p_BadWeight_NoWeights ?p_BadWeight_BadWeight ?p_BadWeight_BadBound ?p_BadWeight_NoRoom ?p_BadWeight_BadLengths ?p_BadWeight_BadWords ?p_BadWeight_BadBits ?p_BadWeight_NoSign ?p_BadWords_NoWeights ?p_BadWords_BadWeight ?p_BadWords_BadBound ?p_BadWords_NoRoom ?p_BadWords_BadLengths ?p_BadWords_BadWords ?p_BadWords_BadBits ?p_BadWords_NoSign ?p_NoRoom_NoWeights ?p_NoRoom_BadWeight ?p_NoRoom_BadBound ?p_NoRoom_NoRoom ?p_NoRoom_BadLengths ?p_NoRoom_BadWords ?p_NoRoom_BadBits ?p_NoRoom_NoSign ?p_NoSign_NoWeights ?p_NoSign_BadWeight ?p_NoSign_BadBound ?p_NoSign_NoRoom ?p_NoSign_BadLengths ?p_NoSign_BadWords ?p_NoSign_BadBits ?p_NoSign_NoSign ?p_NoWeights_NoWeights ?p_NoWeights_BadWeight ?p_NoWeights_BadBound ?p_NoWeights_NoRoom ?p_NoWeights_BadLengths ?p_NoWeights_BadWords ?p_NoWeights_BadBits ?p_NoWeights_NoSign ?k_all_NoWeights ?k_all_BadWeight ?k_all_BadBound ?k_all_NoRoom ?k_all_BadLengths ?k_all_BadWords ?k_all_BadBits ?k_all_NoSign ?r_Reader ?f_is_word ?f_need_words ?f__law_cell ?f__law_word_of ?f__law_words ?f__law_due ?f__law_told ?f__law_alike ?f__law_bit ?f__law_stands ?f_law
    case z_ValueError => k_is
    case z_all => k_is
    case z_any => k_is
    case z_bool => k_is
    case z_int => k_is
    case z_isinstance => k_is
    case z_len => k_is
    case z_list => k_is
    case z_min => k_is
    case z_range => k_is
    case z_str => k_is
    case z_tuple => k_is
    case c_MOST_BOUND => refine' PL.L.hereC_of ?c1; (case c1 => k_is)
    case c_MOST_SIGNS => refine' PL.L.hereC_of ?c1; (case c1 => k_is)
    case e_BadBits => refine' PL.L.hereX_of ?a ?b ?c ?d ?e; (case a => k_is); (case b => k_exc); (case c => k_is); (case d => k_is); (case e => k_is)
    case e_BadWords => refine' PL.L.hereX_of ?a ?b ?c ?d ?e; (case a => k_is); (case b => k_exc); (case c => k_is); (case d => k_is); (case e => k_is)
    case y_NoWeights => refine' PL.hereE_of ?a ?b ?c ?d ?e ?f ?g ?h ?i ?j; (case a => k_is); (case b => k_is); (case c => k_is); (case d => k_is); (case e => k_is); (case f => k_is); (case g => k_is); (case h => k_is); (case i => k_is); (case j => k_is)
    case y_BadWeight => refine' PL.hereE_of ?a ?b ?c ?d ?e ?f ?g ?h ?i ?j; (case a => k_is); (case b => k_is); (case c => k_is); (case d => k_is); (case e => k_is); (case f => k_is); (case g => k_is); (case h => k_is); (case i => k_is); (case j => k_is)
    case y_BadBound => refine' PL.hereE_of ?a ?b ?c ?d ?e ?f ?g ?h ?i ?j; (case a => k_is); (case b => k_is); (case c => k_is); (case d => k_is); (case e => k_is); (case f => k_is); (case g => k_is); (case h => k_is); (case i => k_is); (case j => k_is)
    case y_NoRoom => refine' PL.hereE_of ?a ?b ?c ?d ?e ?f ?g ?h ?i ?j; (case a => k_is); (case b => k_is); (case c => k_is); (case d => k_is); (case e => k_is); (case f => k_is); (case g => k_is); (case h => k_is); (case i => k_is); (case j => k_is)
    case y_BadLengths => refine' PL.hereE_of ?a ?b ?c ?d ?e ?f ?g ?h ?i ?j; (case a => k_is); (case b => k_is); (case c => k_is); (case d => k_is); (case e => k_is); (case f => k_is); (case g => k_is); (case h => k_is); (case i => k_is); (case j => k_is)
    case y_BadWords => refine' PL.hereE_of ?a ?b ?c ?d ?e ?f ?g ?h ?i ?j; (case a => k_is); (case b => k_is); (case c => k_is); (case d => k_is); (case e => k_is); (case f => k_is); (case g => k_is); (case h => k_is); (case i => k_is); (case j => k_is)
    case y_BadBits => refine' PL.hereE_of ?a ?b ?c ?d ?e ?f ?g ?h ?i ?j; (case a => k_is); (case b => k_is); (case c => k_is); (case d => k_is); (case e => k_is); (case f => k_is); (case g => k_is); (case h => k_is); (case i => k_is); (case j => k_is)
    case y_NoSign => refine' PL.hereE_of ?a ?b ?c ?d ?e ?f ?g ?h ?i ?j; (case a => k_is); (case b => k_is); (case c => k_is); (case d => k_is); (case e => k_is); (case f => k_is); (case g => k_is); (case h => k_is); (case i => k_is); (case j => k_is)
    case p_BadBits_NoWeights => refine' PL.hereP_of ?a ?b ?c ?d ?e ?f ?g; (case a => k_is); (case b => k_is); (case c => decide); (case d => k_is); (case e => k_is); (case f => k_is); (case g => decide)
    case p_BadBits_BadWeight => refine' PL.hereP_of ?a ?b ?c ?d ?e ?f ?g; (case a => k_is); (case b => k_is); (case c => decide); (case d => k_is); (case e => k_is); (case f => k_is); (case g => decide)
    case p_BadBits_BadBound => refine' PL.hereP_of ?a ?b ?c ?d ?e ?f ?g; (case a => k_is); (case b => k_is); (case c => decide); (case d => k_is); (case e => k_is); (case f => k_is); (case g => decide)
    case p_BadBits_NoRoom => refine' PL.hereP_of ?a ?b ?c ?d ?e ?f ?g; (case a => k_is); (case b => k_is); (case c => decide); (case d => k_is); (case e => k_is); (case f => k_is); (case g => decide)
    case p_BadBits_BadLengths => refine' PL.hereP_of ?a ?b ?c ?d ?e ?f ?g; (case a => k_is); (case b => k_is); (case c => decide); (case d => k_is); (case e => k_is); (case f => k_is); (case g => decide)
    case p_BadBits_BadWords => refine' PL.hereP_of ?a ?b ?c ?d ?e ?f ?g; (case a => k_is); (case b => k_is); (case c => decide); (case d => k_is); (case e => k_is); (case f => k_is); (case g => decide)
    case p_BadBits_BadBits => refine' PL.herePe_of ?a; (case a => k_is)
    case p_BadBits_NoSign => refine' PL.hereP_of ?a ?b ?c ?d ?e ?f ?g; (case a => k_is); (case b => k_is); (case c => decide); (case d => k_is); (case e => k_is); (case f => k_is); (case g => decide)
    case p_BadBound_NoWeights => refine' PL.hereP_of ?a ?b ?c ?d ?e ?f ?g; (case a => k_is); (case b => k_is); (case c => decide); (case d => k_is); (case e => k_is); (case f => k_is); (case g => decide)
    case p_BadBound_BadWeight => refine' PL.hereP_of ?a ?b ?c ?d ?e ?f ?g; (case a => k_is); (case b => k_is); (case c => decide); (case d => k_is); (case e => k_is); (case f => k_is); (case g => decide)
    case p_BadBound_BadBound => refine' PL.herePe_of ?a; (case a => k_is)
    case p_BadBound_NoRoom => refine' PL.hereP_of ?a ?b ?c ?d ?e ?f ?g; (case a => k_is); (case b => k_is); (case c => decide); (case d => k_is); (case e => k_is); (case f => k_is); (case g => decide)
    case p_BadBound_BadLengths => refine' PL.hereP_of ?a ?b ?c ?d ?e ?f ?g; (case a => k_is); (case b => k_is); (case c => decide); (case d => k_is); (case e => k_is); (case f => k_is); (case g => decide)
    case p_BadBound_BadWords => refine' PL.hereP_of ?a ?b ?c ?d ?e ?f ?g; (case a => k_is); (case b => k_is); (case c => decide); (case d => k_is); (case e => k_is); (case f => k_is); (case g => decide)
    case p_BadBound_BadBits => refine' PL.hereP_of ?a ?b ?c ?d ?e ?f ?g; (case a => k_is); (case b => k_is); (case c => decide); (case d => k_is); (case e => k_is); (case f => k_is); (case g => decide)
    case p_BadBound_NoSign => refine' PL.hereP_of ?a ?b ?c ?d ?e ?f ?g; (case a => k_is); (case b => k_is); (case c => decide); (case d => k_is); (case e => k_is); (case f => k_is); (case g => decide)
    case p_BadLengths_NoWeights => refine' PL.hereP_of ?a ?b ?c ?d ?e ?f ?g; (case a => k_is); (case b => k_is); (case c => decide); (case d => k_is); (case e => k_is); (case f => k_is); (case g => decide)
    case p_BadLengths_BadWeight => refine' PL.hereP_of ?a ?b ?c ?d ?e ?f ?g; (case a => k_is); (case b => k_is); (case c => decide); (case d => k_is); (case e => k_is); (case f => k_is); (case g => decide)
    case p_BadLengths_BadBound => refine' PL.hereP_of ?a ?b ?c ?d ?e ?f ?g; (case a => k_is); (case b => k_is); (case c => decide); (case d => k_is); (case e => k_is); (case f => k_is); (case g => decide)
    case p_BadLengths_NoRoom => refine' PL.hereP_of ?a ?b ?c ?d ?e ?f ?g; (case a => k_is); (case b => k_is); (case c => decide); (case d => k_is); (case e => k_is); (case f => k_is); (case g => decide)
    case p_BadLengths_BadLengths => refine' PL.herePe_of ?a; (case a => k_is)
    case p_BadLengths_BadWords => refine' PL.hereP_of ?a ?b ?c ?d ?e ?f ?g; (case a => k_is); (case b => k_is); (case c => decide); (case d => k_is); (case e => k_is); (case f => k_is); (case g => decide)
    case p_BadLengths_BadBits => refine' PL.hereP_of ?a ?b ?c ?d ?e ?f ?g; (case a => k_is); (case b => k_is); (case c => decide); (case d => k_is); (case e => k_is); (case f => k_is); (case g => decide)
    case p_BadLengths_NoSign => refine' PL.hereP_of ?a ?b ?c ?d ?e ?f ?g; (case a => k_is); (case b => k_is); (case c => decide); (case d => k_is); (case e => k_is); (case f => k_is); (case g => decide)
    case p_BadWeight_NoWeights => refine' PL.hereP_of ?a ?b ?c ?d ?e ?f ?g; (case a => k_is); (case b => k_is); (case c => decide); (case d => k_is); (case e => k_is); (case f => k_is); (case g => decide)
    case p_BadWeight_BadWeight => refine' PL.herePe_of ?a; (case a => k_is)
    case p_BadWeight_BadBound => refine' PL.hereP_of ?a ?b ?c ?d ?e ?f ?g; (case a => k_is); (case b => k_is); (case c => decide); (case d => k_is); (case e => k_is); (case f => k_is); (case g => decide)
    case p_BadWeight_NoRoom => refine' PL.hereP_of ?a ?b ?c ?d ?e ?f ?g; (case a => k_is); (case b => k_is); (case c => decide); (case d => k_is); (case e => k_is); (case f => k_is); (case g => decide)
    case p_BadWeight_BadLengths => refine' PL.hereP_of ?a ?b ?c ?d ?e ?f ?g; (case a => k_is); (case b => k_is); (case c => decide); (case d => k_is); (case e => k_is); (case f => k_is); (case g => decide)
    case p_BadWeight_BadWords => refine' PL.hereP_of ?a ?b ?c ?d ?e ?f ?g; (case a => k_is); (case b => k_is); (case c => decide); (case d => k_is); (case e => k_is); (case f => k_is); (case g => decide)
    case p_BadWeight_BadBits => refine' PL.hereP_of ?a ?b ?c ?d ?e ?f ?g; (case a => k_is); (case b => k_is); (case c => decide); (case d => k_is); (case e => k_is); (case f => k_is); (case g => decide)
    case p_BadWeight_NoSign => refine' PL.hereP_of ?a ?b ?c ?d ?e ?f ?g; (case a => k_is); (case b => k_is); (case c => decide); (case d => k_is); (case e => k_is); (case f => k_is); (case g => decide)
    case p_BadWords_NoWeights => refine' PL.hereP_of ?a ?b ?c ?d ?e ?f ?g; (case a => k_is); (case b => k_is); (case c => decide); (case d => k_is); (case e => k_is); (case f => k_is); (case g => decide)
    case p_BadWords_BadWeight => refine' PL.hereP_of ?a ?b ?c ?d ?e ?f ?g; (case a => k_is); (case b => k_is); (case c => decide); (case d => k_is); (case e => k_is); (case f => k_is); (case g => decide)
    case p_BadWords_BadBound => refine' PL.hereP_of ?a ?b ?c ?d ?e ?f ?g; (case a => k_is); (case b => k_is); (case c => decide); (case d => k_is); (case e => k_is); (case f => k_is); (case g => decide)
    case p_BadWords_NoRoom => refine' PL.hereP_of ?a ?b ?c ?d ?e ?f ?g; (case a => k_is); (case b => k_is); (case c => decide); (case d => k_is); (case e => k_is); (case f => k_is); (case g => decide)
    case p_BadWords_BadLengths => refine' PL.hereP_of ?a ?b ?c ?d ?e ?f ?g; (case a => k_is); (case b => k_is); (case c => decide); (case d => k_is); (case e => k_is); (case f => k_is); (case g => decide)
    case p_BadWords_BadWords => refine' PL.herePe_of ?a; (case a => k_is)
    case p_BadWords_BadBits => refine' PL.hereP_of ?a ?b ?c ?d ?e ?f ?g; (case a => k_is); (case b => k_is); (case c => decide); (case d => k_is); (case e => k_is); (case f => k_is); (case g => decide)
    case p_BadWords_NoSign => refine' PL.hereP_of ?a ?b ?c ?d ?e ?f ?g; (case a => k_is); (case b => k_is); (case c => decide); (case d => k_is); (case e => k_is); (case f => k_is); (case g => decide)
    case p_NoRoom_NoWeights => refine' PL.hereP_of ?a ?b ?c ?d ?e ?f ?g; (case a => k_is); (case b => k_is); (case c => decide); (case d => k_is); (case e => k_is); (case f => k_is); (case g => decide)
    case p_NoRoom_BadWeight => refine' PL.hereP_of ?a ?b ?c ?d ?e ?f ?g; (case a => k_is); (case b => k_is); (case c => decide); (case d => k_is); (case e => k_is); (case f => k_is); (case g => decide)
    case p_NoRoom_BadBound => refine' PL.hereP_of ?a ?b ?c ?d ?e ?f ?g; (case a => k_is); (case b => k_is); (case c => decide); (case d => k_is); (case e => k_is); (case f => k_is); (case g => decide)
    case p_NoRoom_NoRoom => refine' PL.herePe_of ?a; (case a => k_is)
    case p_NoRoom_BadLengths => refine' PL.hereP_of ?a ?b ?c ?d ?e ?f ?g; (case a => k_is); (case b => k_is); (case c => decide); (case d => k_is); (case e => k_is); (case f => k_is); (case g => decide)
    case p_NoRoom_BadWords => refine' PL.hereP_of ?a ?b ?c ?d ?e ?f ?g; (case a => k_is); (case b => k_is); (case c => decide); (case d => k_is); (case e => k_is); (case f => k_is); (case g => decide)
    case p_NoRoom_BadBits => refine' PL.hereP_of ?a ?b ?c ?d ?e ?f ?g; (case a => k_is); (case b => k_is); (case c => decide); (case d => k_is); (case e => k_is); (case f => k_is); (case g => decide)
    case p_NoRoom_NoSign => refine' PL.hereP_of ?a ?b ?c ?d ?e ?f ?g; (case a => k_is); (case b => k_is); (case c => decide); (case d => k_is); (case e => k_is); (case f => k_is); (case g => decide)
    case p_NoSign_NoWeights => refine' PL.hereP_of ?a ?b ?c ?d ?e ?f ?g; (case a => k_is); (case b => k_is); (case c => decide); (case d => k_is); (case e => k_is); (case f => k_is); (case g => decide)
    case p_NoSign_BadWeight => refine' PL.hereP_of ?a ?b ?c ?d ?e ?f ?g; (case a => k_is); (case b => k_is); (case c => decide); (case d => k_is); (case e => k_is); (case f => k_is); (case g => decide)
    case p_NoSign_BadBound => refine' PL.hereP_of ?a ?b ?c ?d ?e ?f ?g; (case a => k_is); (case b => k_is); (case c => decide); (case d => k_is); (case e => k_is); (case f => k_is); (case g => decide)
    case p_NoSign_NoRoom => refine' PL.hereP_of ?a ?b ?c ?d ?e ?f ?g; (case a => k_is); (case b => k_is); (case c => decide); (case d => k_is); (case e => k_is); (case f => k_is); (case g => decide)
    case p_NoSign_BadLengths => refine' PL.hereP_of ?a ?b ?c ?d ?e ?f ?g; (case a => k_is); (case b => k_is); (case c => decide); (case d => k_is); (case e => k_is); (case f => k_is); (case g => decide)
    case p_NoSign_BadWords => refine' PL.hereP_of ?a ?b ?c ?d ?e ?f ?g; (case a => k_is); (case b => k_is); (case c => decide); (case d => k_is); (case e => k_is); (case f => k_is); (case g => decide)
    case p_NoSign_BadBits => refine' PL.hereP_of ?a ?b ?c ?d ?e ?f ?g; (case a => k_is); (case b => k_is); (case c => decide); (case d => k_is); (case e => k_is); (case f => k_is); (case g => decide)
    case p_NoSign_NoSign => refine' PL.herePe_of ?a; (case a => k_is)
    case p_NoWeights_NoWeights => refine' PL.herePe_of ?a; (case a => k_is)
    case p_NoWeights_BadWeight => refine' PL.hereP_of ?a ?b ?c ?d ?e ?f ?g; (case a => k_is); (case b => k_is); (case c => decide); (case d => k_is); (case e => k_is); (case f => k_is); (case g => decide)
    case p_NoWeights_BadBound => refine' PL.hereP_of ?a ?b ?c ?d ?e ?f ?g; (case a => k_is); (case b => k_is); (case c => decide); (case d => k_is); (case e => k_is); (case f => k_is); (case g => decide)
    case p_NoWeights_NoRoom => refine' PL.hereP_of ?a ?b ?c ?d ?e ?f ?g; (case a => k_is); (case b => k_is); (case c => decide); (case d => k_is); (case e => k_is); (case f => k_is); (case g => decide)
    case p_NoWeights_BadLengths => refine' PL.hereP_of ?a ?b ?c ?d ?e ?f ?g; (case a => k_is); (case b => k_is); (case c => decide); (case d => k_is); (case e => k_is); (case f => k_is); (case g => decide)
    case p_NoWeights_BadWords => refine' PL.hereP_of ?a ?b ?c ?d ?e ?f ?g; (case a => k_is); (case b => k_is); (case c => decide); (case d => k_is); (case e => k_is); (case f => k_is); (case g => decide)
    case p_NoWeights_BadBits => refine' PL.hereP_of ?a ?b ?c ?d ?e ?f ?g; (case a => k_is); (case b => k_is); (case c => decide); (case d => k_is); (case e => k_is); (case f => k_is); (case g => decide)
    case p_NoWeights_NoSign => refine' PL.hereP_of ?a ?b ?c ?d ?e ?f ?g; (case a => k_is); (case b => k_is); (case c => decide); (case d => k_is); (case e => k_is); (case f => k_is); (case g => decide)
    case k_all_NoWeights => refine' PL.hereCat_of ?a ?b ?c ?d ?e ?f; (case a => k_is); (case b => k_is); (case c => k_is); (case d => k_is); (case e => k_is); (case f => k_is)
    case k_all_BadWeight => refine' PL.hereCat_of ?a ?b ?c ?d ?e ?f; (case a => k_is); (case b => k_is); (case c => k_is); (case d => k_is); (case e => k_is); (case f => k_is)
    case k_all_BadBound => refine' PL.hereCat_of ?a ?b ?c ?d ?e ?f; (case a => k_is); (case b => k_is); (case c => k_is); (case d => k_is); (case e => k_is); (case f => k_is)
    case k_all_NoRoom => refine' PL.hereCat_of ?a ?b ?c ?d ?e ?f; (case a => k_is); (case b => k_is); (case c => k_is); (case d => k_is); (case e => k_is); (case f => k_is)
    case k_all_BadLengths => refine' PL.hereCat_of ?a ?b ?c ?d ?e ?f; (case a => k_is); (case b => k_is); (case c => k_is); (case d => k_is); (case e => k_is); (case f => k_is)
    case k_all_BadWords => refine' PL.hereCat_of ?a ?b ?c ?d ?e ?f; (case a => k_is); (case b => k_is); (case c => k_is); (case d => k_is); (case e => k_is); (case f => k_is)
    case k_all_BadBits => refine' PL.hereCat_of ?a ?b ?c ?d ?e ?f; (case a => k_is); (case b => k_is); (case c => k_is); (case d => k_is); (case e => k_is); (case f => k_is)
    case k_all_NoSign => refine' PL.hereCat_of ?a ?b ?c ?d ?e ?f; (case a => k_is); (case b => k_is); (case c => k_is); (case d => k_is); (case e => k_is); (case f => k_is)
    case r_Reader => refine' PL.L.hereR_of ?aC ?a1 ?i1 ?l1 ?c1 ?k1 ?a2 ?i2 ?l2 ?c2 ?k2 ?a3 ?i3 ?l3 ?c3 ?k3 ?a4 ?i4 ?l4 ?c4 ?k4 ?a5 ?i5 ?l5 ?c5 ?k5 ?pg ?hd ?po ?sa ?mk ?kc ?nW ?nB ?nS; (case aC => k_is); (case a1 => k_is); (case i1 => k_is); (case l1 => k_is); (case c1 => k_is); (case k1 => k_is); (case a2 => k_is); (case i2 => k_is); (case l2 => k_is); (case c2 => k_is); (case k2 => k_is); (case a3 => k_is); (case i3 => k_is); (case l3 => k_is); (case c3 => k_is); (case k3 => k_is); (case a4 => k_is); (case i4 => k_is); (case l4 => k_is); (case c4 => k_is); (case k4 => k_is); (case a5 => k_is); (case i5 => k_is); (case l5 => k_is); (case c5 => k_is); (case k5 => k_is); (case pg => k_is); (case hd => k_is); (case po => k_is); (case sa => k_is); (case mk => k_is); (case kc => k_is); (case nW => k_is); (case nB => k_is); (case nS => k_is)
    case f_is_word => refine' PL.L.here_of ?a ?l ?c ?k; (case a => k_is); (case l => k_is); (case c => k_is); (case k => k_is)
    case f_need_words => refine' PL.L.here_of ?a ?l ?c ?k; (case a => k_is); (case l => k_is); (case c => k_is); (case k => k_is)
    case f__law_cell => refine' PL.L.here_of ?a ?l ?c ?k; (case a => k_is); (case l => k_is); (case c => k_is); (case k => k_is)
    case f__law_word_of => refine' PL.L.here_of ?a ?l ?c ?k; (case a => k_is); (case l => k_is); (case c => k_is); (case k => k_is)
    case f__law_words => refine' PL.L.here_of ?a ?l ?c ?k; (case a => k_is); (case l => k_is); (case c => k_is); (case k => k_is)
    case f__law_due => refine' PL.L.here_of ?a ?l ?c ?k; (case a => k_is); (case l => k_is); (case c => k_is); (case k => k_is)
    case f__law_told => refine' PL.L.here_of ?a ?l ?c ?k; (case a => k_is); (case l => k_is); (case c => k_is); (case k => k_is)
    case f__law_alike => refine' PL.L.here_of ?a ?l ?c ?k; (case a => k_is); (case l => k_is); (case c => k_is); (case k => k_is)
    case f__law_bit => refine' PL.L.here_of ?a ?l ?c ?k; (case a => k_is); (case l => k_is); (case c => k_is); (case k => k_is)
    case f__law_stands => refine' PL.L.here_of ?a ?l ?c ?k; (case a => k_is); (case l => k_is); (case c => k_is); (case k => k_is)
    case f_law => refine' PL.L.here_of ?a ?l ?c ?k; (case a => k_is); (case l => k_is); (case c => k_is); (case k => k_is)
